/- An abstract machine over the model: what it says of a function's code, the model does. -/
import Derived.Test.YtllijejobeogdaaGreatBw1
namespace Go.AW
open Go Go.RowKit
class EffF where
  b : Operand → Bool
  n : Operand → Bool
  f : Operand → Bool
  l : Operand → Bool
  D : Nat → Bool
  z : Operand → Bool
  y : Option (Value × (List AVal → List AObj → List AObj → Prop))
abbrev effS (l : List Nat) (t : Bool) (ns : List Nat := []) (fs : List Nat := []) (ls : List Nat := []) (D : Nat → Bool := fun _ => true) (zs : List Nat := []) (ms : List Nat := []) : EffF := ⟨fun o => match o with | .func f => l.contains f | .tmp _ => t | _ => false, fun o => match o with | .tmp k => ns.contains k | .func f => ms.contains f | _ => false, fun o => match o with | .tmp k => fs.contains k | _ => false, fun o => match o with | .tmp k => ls.contains k | _ => false, D, fun o => match o with | .tmp k => zs.contains k | _ => false, none⟩
abbrev effY (E : EffF) (yv : Value) (y : List AVal → List AObj → List AObj → Prop) : EffF := ⟨E.b, E.n, E.f, E.l, E.D, E.z, some (yv, y)⟩
abbrev effIn (E : EffF) : EffF := ⟨fun _ => true, fun _ => false, E.f, fun _ => false, fun _ => true, fun _ => false, E.y⟩
def effOp (c : EffF) : Op → Bool
  | .alloc _ | .makeSlice .. => true
  | .slice _ _ _ _ (some _) => true
  | .box _ x => !c.f x
  | .call { callee := .builtin .unsafeString, .. } | .call { callee := .builtin .copy, .. } | .call { callee := .builtin .clear, .. } => true
  | .store _ _ v => !c.z v
  | .call { callee := .builtin .append, args, .. } => match args[0]? with
    | some x => !c.f x
    | none => true
  | .call { callee := .value f, .. } => c.b f
  | _ => false
def alOp (c : EffF) : Op → Bool
  | .alloc _ | .box .. | .makeSlice .. => true
  | .call { callee := .builtin .append, args, .. } => match args[0]? with
    | some x => c.n x
    | none => false
  | .call { callee := .value f, .. } => c.b f && c.n f
  | _ => false
def nOp (c : EffF) : Op → Bool
  | .load _ a | .fieldAddr _ a _ => c.n a
  | .move _ | .assign _ | .pick .. | .binOp .. | .unOp .. | .convert .. | .makeFunc .. | .field .. | .extract .. | .build .. | .buildSlice .. => true
  | .call { callee := .builtin .min, .. } | .call { callee := .builtin .max, .. } => true
  | .call { callee := .builtin .len, args, .. } => match args[0]? with
    | some x => c.l x
    | none => false
  | .call { callee := .value f, .. } => !c.b f && c.n f
  | _ => false
def sOp (c : EffF) : Op → Bool
  | .load _ a => c.l a
  | .indexAddr .. | .fieldAddr .. | .nilCheck _ | .slice _ _ _ _ none => true
  | .call { callee := .builtin .len, .. } => true
  | _ => false
def stOp (c : EffF) : Op → Bool
  | .store _ p _ => !c.l p
  | _ => false
def wOp (c : EffF) (op : Op) : Bool := alOp c op || stOp c op || match op with
  | .call { callee := .builtin .append, args, .. } => match args[0]? with
    | some x => c.z x
    | none => false
  | _ => false
def lOp (c : EffF) : Op → Bool
  | .load _ a | .fieldAddr _ a _ => c.l a
  | .slice _ x _ _ none => c.l x
  | _ => false
def confl (ops : Array Oper) (x y : Oper) : Bool :=
  (match x.dst with | some d => (y.looksAt ops).contains d || y.dst == some d | none => false) || (match y.dst with | some d => (x.looksAt ops).contains d | none => false)
def effConfl (c : EffF) (x y : Oper) : Bool :=
  if effOp c x.op then !nOp c y.op && !(stOp c x.op && sOp c y.op) && !(wOp c x.op && lOp c y.op) else (effOp c y.op && !nOp c x.op && !alOp c y.op && !(stOp c y.op && sOp c x.op) && !(wOp c y.op && lOp c x.op))
def isAl (c : EffF) (o : Oper) : Bool := match o.op with
  | .alloc _ | .makeSlice .. => o.guard.isNone
  | .call { callee := .value f, .. } => c.b f && c.n f && o.guard.isNone
  | _ => false
def alPair (c : EffF) (ops : Array Oper) (i j : Nat) (x y : Oper) : Bool :=
  isAl c x && isAl c y && (List.range j).all fun k => decide (k ≤ i) || (match ops[k]? with | some z => !effOp c z.op || isAl c z | none => true)
def orB (B : Array Nat) (after : List Edge) : Nat :=
  after.foldl (fun s e => if Region.binds .any e then s ||| (2 ^ e.on ||| B.getD e.on 0) else s) 0
def drawAt (c : EffF) (ops : Array Oper) (B : Array Nat) (j : Nat) (y : Oper) : Bool :=
  (y.after.toList.all fun e => !Region.binds .any e || decide (e.on < j)) && (B.getD j 0 == orB B y.after.toList) &&
    (List.range j).all fun i => match ops[i]? with
      | some x => !(confl ops x y || (effConfl c x y && !alPair c ops i j x y)) || (B.getD j 0).testBit i
      | none => true
def notSelect : Op → Bool
  | .select .. => false
  | _ => true
def drawOk (c : EffF) (ops : Array Oper) : Bool :=
  let B := Region.before ops
  (List.range ops.size).all fun j => match ops[j]? with
    | some y => drawAt c ops B j y && notSelect y.op
    | none => true
structure Bs where
  β : Nat → Nat × Nat
  h : List AObj
  w : World
  v0 : Option Value
  rd : Option Nat
abbrev markD (D : Nat) : Deferred := { target := .collected D, args := #[] }
structure Kp (W0 : World) (ok0 : Nat → Prop) (B : Bs) (β : Nat → Nat × Nat) (h : List AObj) (w : World) (a : Act) : Prop where
  base : ∀ x v, VR W0 ok0 B.β B.h B.w x v → VR W0 ok0 β h w x v
  len : B.h.length ≤ h.length
  ok : ∀ b, okIn W0 ok0 B.w B.β B.h b → okIn W0 ok0 w β h b ∧ w.heap[b]? = B.w.heap[b]?
  v0 : ∀ v, B.v0 = some v → a.tmps.getD 0 undef = v
  marks : ∃ Ds : List Nat, a.defers = Ds.map markD ∧ (B.rd.isSome = true → Ds = []) ∧ Ds.Nodup ∧ ∀ D ∈ Ds, B.w.heap.size ≤ D ∧ okIn W0 ok0 w β h D ∧ w.heap[D]? = some (.deferred (some []))
  wsz : B.w.heap.size ≤ w.heap.size
theorem Kp.step {W0 : World} {ok0 A : Nat → Prop} {B : Bs} {β β' : Nat → Nat × Nat} {h h' : List AObj} {w w' : World} {a : Act} (hk : Kp W0 ok0 B β h w a) (hst : Step W0 ok0 A β h w β' h' w') : Kp W0 ok0 B β' h' w' a := by
  refine ⟨fun x v hx => hst.vr _ _ (hk.base x v hx), Nat.le_trans hk.len hst.len, fun b hb => ?_, hk.v0, ?_, Nat.le_trans hk.wsz hst.sz⟩
  · obtain ⟨h1, h2⟩ := hk.ok b hb
    obtain ⟨h3, h4⟩ := hst.ok b h1
    exact ⟨h3, h4.trans h2⟩
  · obtain ⟨Ds, h1, h0, h2, h3⟩ := hk.marks
    refine ⟨Ds, h1, h0, h2, fun D hD => ?_⟩
    obtain ⟨g1, g2, g3⟩ := h3 D hD
    obtain ⟨h4, h5⟩ := hst.ok D g2
    exact ⟨g1, h4, h5.trans g3⟩
theorem Kp.weak {W0 : World} {ok0 : Nat → Prop} {B : Bs} {β β' : Nat → Nat × Nat} {h h' : List AObj} {w : World} {a : Act} (hk : Kp W0 ok0 B β h w a) (hb : ∀ x v, VR W0 ok0 B.β B.h B.w x v → VR W0 ok0 β' h' w x v) (hl : B.h.length ≤ h'.length) (hok : ∀ b, okIn W0 ok0 w β h b → okIn W0 ok0 w β' h' b) : Kp W0 ok0 B β' h' w a := by
  refine ⟨hb, hl, fun b hb => ⟨hok b (hk.ok b hb).1, (hk.ok b hb).2⟩, hk.v0, ?_, hk.wsz⟩
  obtain ⟨Ds, h1, h0, h2, h3⟩ := hk.marks
  refine ⟨Ds, h1, h0, h2, fun D hD => ?_⟩
  obtain ⟨g1, g2, g3⟩ := h3 D hD
  exact ⟨g1, hok D g2, g3⟩
structure Bs.le (W0 : World) (ok0 : Nat → Prop) (B B' : Bs) : Prop where
  base : ∀ x v, VR W0 ok0 B.β B.h B.w x v → VR W0 ok0 B'.β B'.h B'.w x v
  ok : ∀ b, okIn W0 ok0 B.w B.β B.h b → okIn W0 ok0 B'.w B'.β B'.h b ∧ B'.w.heap[b]? = B.w.heap[b]?
  v0 : B'.v0 = B.v0
def YNow (P : Program) (W0 : World) (ok0 A : Nat → Prop) (β : Nat → Nat × Nat) (h : List AObj) (w : World) (h' : List AObj) (vs : Array Value) (v0 : Value) : Prop :=
  ∃ l fn tmps x c, v0 = .func (.yield l) #[] #[] ∧ (Instr.yield l vs).run P w = .ok (.round l fn tmps x c) w ∧
    ∀ n, RoundIn Fence.wide n P l fn tmps x c w (fun e w' => ∃ β', e = .returned (.bool true) ∧ Step W0 ok0 A β h w β' h' w')
def YOk (P : Program) (W0 : World) (ok0 A : Nat → Prop) (B : Bs) (yv : Value) (y : List AVal → List AObj → List AObj → Prop) : Prop :=
  ∀ args h h', y args h h' → ∀ β w vs, HR W0 ok0 A β h w → (∀ x v, VR W0 ok0 B.β B.h B.w x v → VR W0 ok0 β h w x v) → (∀ b, okIn W0 ok0 B.w B.β B.h b → okIn W0 ok0 w β h b ∧ w.heap[b]? = B.w.heap[b]?) →
    AR W0 ok0 β h w args vs → YNow P W0 ok0 A β h w h' vs yv
theorem YOk.mono {P : Program} {W0 : World} {ok0 A : Nat → Prop} {B B' : Bs} {yv : Value} {y : List AVal → List AObj → List AObj → Prop} (hy : YOk P W0 ok0 A B yv y) (hle : Bs.le W0 ok0 B B') : YOk P W0 ok0 A B' yv y := by
  refine fun args h h' hyy β w vs hr hb ho har => hy args h h' hyy β w vs hr (fun x v hx => hb x v (hle.base x v hx)) (fun b hbb => ?_) har
  obtain ⟨g1, g2⟩ := hle.ok b hbb
  obtain ⟨g3, g4⟩ := ho b g1
  exact ⟨g3, g4.trans g2⟩
def SpecY (P : Program) (f : FuncId) (y : List AVal → List AObj → List AObj → Prop) (args : List AVal) (h h' : List AObj) : Prop :=
  callable P f = true ∧ ∀ (W0 : World) (ok0 A : Nat → Prop) (β : Nat → Nat × Nat) (w : World) (vs : Array Value) (yv : Value), HR W0 ok0 A β h w → AR W0 ok0 β h w args vs → YOk P W0 ok0 A ⟨β, h, w, none, none⟩ yv y →
    Calls P f (#[yv] ++ vs) w (fun e w' => ∃ v β', e = .returned v ∧ Step W0 ok0 A β h w β' h' w')
structure ZOk (Zw : World → World → Prop) : Prop where
  put : ∀ ws w D, Zw ws w → ws.heap[D]? = some (.deferred (some [])) → w.heap[D]? = some (.deferred (some [])) ∧ Zw (ws.putObj D (.deferred none)) (w.putObj D (.deferred none))
def YStop (P : Program) (W0 : World) (ok0 A : Nat → Prop) (B : Bs) (Zw : World → World → Prop) (hS : List AObj) (yv : Value) (yS : List AVal → List AObj → Prop) : Prop :=
  ∀ args h, yS args h → ∀ β w vs, HR W0 ok0 A β h w → (∀ x v, VR W0 ok0 B.β B.h B.w x v → VR W0 ok0 β h w x v) → (∀ b, okIn W0 ok0 B.w B.β B.h b → okIn W0 ok0 w β h b ∧ w.heap[b]? = B.w.heap[b]?) →
    AR W0 ok0 β h w args vs → ∃ l fn tmps x c, yv = .func (.yield l) #[] #[] ∧ (Instr.yield l vs).run P w = .ok (.round l fn tmps x c) w ∧
      ∀ n, RoundIn Fence.wide n P l fn tmps x c w (fun e w' => ∃ β' ws, e = .returned (.bool false) ∧ Step W0 ok0 A β h w β' hS ws ∧ Zw ws w')
def SpecX (P : Program) (f : FuncId) (y : List AVal → List AObj → List AObj → Prop) (yS : List AVal → List AObj → Prop) (args : List AVal) (h hS : List AObj) : Prop :=
  callable P f = true ∧ ∀ (W0 : World) (ok0 A : Nat → Prop) (β : Nat → Nat × Nat) (w : World) (vs : Array Value) (yv : Value) (Zw : World → World → Prop), ZOk Zw → HR W0 ok0 A β h w → AR W0 ok0 β h w args vs → YOk P W0 ok0 A ⟨β, h, w, none, none⟩ yv y → YStop P W0 ok0 A ⟨β, h, w, none, none⟩ Zw hS yv yS →
    Calls P f (#[yv] ++ vs) w (fun e w' => ∃ v β' ws, e = .returned v ∧ Step W0 ok0 A β h w β' hS ws ∧ Zw ws w')
structure BOk (P : Program) (E : EffF) (W0 : World) (ok0 A : Nat → Prop) (B : Bs) : Prop where
  hr : HR W0 ok0 A B.β B.h B.w
  y : ∀ yv y, E.y = some (yv, y) → YOk P W0 ok0 A B yv y
  v0 : B.v0.isSome = true → E.y.isSome = true
  rd : ∀ l, B.rd = some l → okIn W0 ok0 B.w B.β B.h l ∧ ∃ r, B.w.heap[l]? = some (.loop r)
theorem Kp.yield {P : Program} {E : EffF} {W0 : World} {ok0 A : Nat → Prop} {B : Bs} {β : Nat → Nat × Nat} {h h' : List AObj} {w : World} {a : Act} {yv : Value} {y : List AVal → List AObj → List AObj → Prop} {args : List AVal} {vs : Array Value} (hk : Kp W0 ok0 B β h w a) (hB : BOk P E W0 ok0 A B) (hr : HR W0 ok0 A β h w)
    (hy : E.y = some (yv, y)) (hyy : y args h h') (har : AR W0 ok0 β h w args vs) : YNow P W0 ok0 A β h w h' vs yv :=
  hB.y yv y hy args h h' hyy β w vs hr hk.base hk.ok har
def FR (W0 : World) (ok0 A : Nat → Prop) (N : Nat) (B : Bs) (s : ASt) (a : Act) (w : World) : Prop :=
  ∃ β, HR W0 ok0 A β s.heap w ∧ (∀ t, VR W0 ok0 β s.heap w (look s.env t) (a.tmps.getD t undef)) ∧ a.tmps.size = N ∧ Kp W0 ok0 B β s.heap w a
def Wk (hb : List AObj) (s s' : ASt) : Prop := ∀ (W0 : World) (ok0 A : Nat → Prop) (N : Nat) (B : Bs) (a : Act) (w : World), B.h = hb ∧ HR W0 ok0 A B.β B.h B.w → FR W0 ok0 A N B s a w → FR W0 ok0 A N B s' a w
theorem Wk.refl (hb : List AObj) (s : ASt) : Wk hb s s := fun _ _ _ _ _ _ _ _ h => h
theorem Wk.trans {hb : List AObj} {s s' s'' : ASt} (h1 : Wk hb s s') (h2 : Wk hb s' s'') : Wk hb s s'' := fun _ _ _ _ _ _ _ hb h => h2 _ _ _ _ _ _ _ hb (h1 _ _ _ _ _ _ _ hb h)
theorem Wk.of_eq {hb : List AObj} {s s' : ASt} (h : s = s') : Wk hb s s' := h ▸ Wk.refl hb s
def isNew : AVal → Bool
  | .cap0 _ | .lit .. => true
  | _ => false
def appNew (c : EffF) (o : Oper) (ρ : Operand → AVal) : Bool := match o.op with
  | .call { callee := .builtin .append, args, .. } => match args[0]? with
    | some x => !c.n x || isNew (ρ x)
    | none => true
  | _ => true
def okL (D : Nat → Bool) : AVal → Bool
  | .spot .. => true
  | .ptr id _ _ => !D id
  | _ => false
def isSp : AVal → Bool
  | .spot .. => true
  | _ => false
def isLs : AVal → Bool
  | .list .. => true
  | _ => false
def ldOk (c : EffF) (o : Oper) (ρ : Operand → AVal) : Bool := match o.op with
  | .load _ a => (!c.n a || isSp (ρ a)) && (!c.l a || okL c.D (ρ a))
  | .fieldAddr _ a _ => (!c.n a || isSp (ρ a)) && (!c.l a || okL c.D (ρ a))
  | .call { callee := .builtin .len, args, .. } => match args[0]? with
    | some x => !c.l x || isLs (ρ x)
    | none => true
  | _ => true
def okS (D : Nat → Bool) : AVal → Bool
  | .ptr id _ _ => D id
  | _ => false
def noObj : AVal → Bool
  | .ref .. => false
  | .ptr .. => false
  | .part .. => false
  | _ => true
def okA (D : Nat → Bool) : AVal → Bool
  | .ref id _ _ _ => D id
  | .res id => D id
  | _ => true
def stOk (c : EffF) (o : Oper) (ρ : Operand → AVal) : Bool := match o.op with
  | .store _ p _ => c.l p || okS c.D (ρ p)
  | .call { callee := .builtin .append, args, .. } => match args[0]? with
    | some x => !c.z x || okA c.D (ρ x)
    | none => true
  | .slice _ x _ _ none => !c.l x || noObj (ρ x)
  | _ => true
def frzOp (c : EffF) : Op → Bool
  | .box _ x => c.f x
  | .call { callee := .builtin .append, args, .. } => match args[0]? with
    | some x => c.f x
    | none => false
  | _ => false
def aFrzO (P : Program) (o : Oper) (ρ : Operand → AVal) (h : List AObj) : Option AVal := match o.op with
  | .box e x => match tyI P e, (ρ x).parts with
    | some T, some vs => if vs.length = T.size ∧ T.size ≠ 0 then some (.spot true vs) else none
    | _, _ => none
  | .call { callee := .builtin .append, args, argTypes } => match args.toList.map ρ, argTypes.toList with
    | [s, x], [t, t'] => if t = t' then aFrz P t h s x else none
    | _, _ => none
  | _ => none
def zOp (c : EffF) : Op → Bool
  | .store _ _ v => c.z v
  | _ => false
inductive Rn : (Nat → AVal) → Prop
  | ref (off n ext : Nat) : Rn fun k => .ref k off n ext
  | agg (a b : Value) (off n ext : Nat) : Rn fun k => .agg [.val a, .val b, .ref k off n ext]
def MkTo (P : Program) (fv : AVal) (avs : List AVal) (h : List AObj) (v : AVal) (h' : List AObj) : Prop :=
  (∃ (o : AObj) (rn : Nat → AVal), o.es ≠ 0 ∧ (∀ x ∈ o.cells, ∃ u, x = .val u) ∧ Rn rn ∧ v = rn h.length ∧ h' = h ++ [o] ∧ ∀ h2, CallTo P fv avs h2 (rn h2.length) (h2 ++ [o])) ∨
  (h' = h ++ [⟨0, 0, []⟩] ∧ ∀ h2, CallTo P fv avs h2 v h2)
inductive OpR (P : Program) (c : EffF) (o : Oper) (ρ : Operand → AVal) (h : List AObj) : AVal → List AObj → Prop
  | pure (v : AVal) (hx : aPure P o ρ h = some v) (hl : ldOk c o ρ = true) : OpR P c o ρ h v h
  | eff (v : AVal) (h' : List AObj) (hx : aEff P o ρ h = some (v, h')) (hn : appNew c o ρ = true) (hz : frzOp c o.op = false) (hs : stOk c o ρ = true) (hnz : zOp c o.op = false) : OpR P c o ρ h v h'
  | same (v : AVal) (hx : aEff P o ρ h = some (v, h)) (hz : zOp c o.op = true) : OpR P c o ρ h v h
  | call (v : AVal) (fo : Operand) (args : Array Operand) (ty : Array TypeId) (ho : o.op = .call { callee := .value fo, args := args, argTypes := ty }) (hc : CallOk P (ρ fo) (args.toList.map ρ) h v) (hn : c.n fo = false ∨ c.b fo = false ∧ (noRef 8 (ρ fo) && (args.toList.map ρ).all (noRef 8)) = true) : OpR P c o ρ h v h
  | frz (v : AVal) (hx : aFrzO P o ρ h = some v) (hz : frzOp c o.op = true) : OpR P c o ρ h v h
  | callTo (v : AVal) (h' : List AObj) (fo : Operand) (args : Array Operand) (ty : Array TypeId) (ho : o.op = .call { callee := .value fo, args := args, argTypes := ty }) (he : c.b fo = true) (hc : CallTo P (ρ fo) (args.toList.map ρ) h v h') (hn : c.n fo = false) : OpR P c o ρ h v h'
  | mk (v : AVal) (h' : List AObj) (fo : Operand) (args : Array Operand) (ty : Array TypeId) (ho : o.op = .call { callee := .value fo, args := args, argTypes := ty }) (he : c.b fo = true) (hc : MkTo P (ρ fo) (args.toList.map ρ) h v h') (hn : c.n fo = true) : OpR P c o ρ h v h'
  | yield (v : AVal) (h' : List AObj) (fo : Operand) (args : Array Operand) (ty : Array TypeId) (yv : Value) (y : List AVal → List AObj → List AObj → Prop) (ho : o.op = .call { callee := .value fo, args := args, argTypes := ty }) (hfo : ρ fo = .val yv) (he : c.b fo = true) (hy : c.y = some (yv, y)) (hc : y (args.toList.map ρ) h h') (hv : v = .val (.bool true)) (hn : c.n fo = false) : OpR P c o ρ h v h'
def isEff : Op → Bool
  | .alloc _ | .box .. | .build .. | .buildSlice .. | .makeSlice .. | .slice .. | .store .. => true
  | .call { callee := .builtin .append, .. } | .call { callee := .builtin .unsafeString, .. } | .call { callee := .builtin .copy, .. } | .call { callee := .builtin .clear, .. } => true
  | _ => false
def opK (P : Program) [c : EffF] (o : Oper) (ρ : Operand → AVal) (h : List AObj) (K : AVal → List AObj → Prop) : Prop :=
  match o.op with
  | .call { callee := .value fo, args, .. } => ((c.n fo = false ∨ c.b fo = false ∧ (noRef 8 (ρ fo) && (args.toList.map ρ).all (noRef 8)) = true) ∧ ∃ v, CallOk P (ρ fo) (args.toList.map ρ) h v ∧ K v h) ∨ (c.n fo = false ∧ c.b fo = true ∧ ∃ v h', CallTo P (ρ fo) (args.toList.map ρ) h v h' ∧ K v h') ∨ (c.n fo = false ∧ ∃ yv y h', c.y = some (yv, y) ∧ ρ fo = .val yv ∧ c.b fo = true ∧ y (args.toList.map ρ) h h' ∧ K (.val (.bool true)) h') ∨ (c.n fo = true ∧ c.b fo = true ∧ ∃ v h', MkTo P (ρ fo) (args.toList.map ρ) h v h' ∧ K v h')
  | _ => if zOp c o.op = true then (∃ v, aEff P o ρ h = some (v, h) ∧ K v h) else if frzOp c o.op = true then (match aFrzO P o ρ h with | some v => K v h | none => False) else if isEff o.op then (match (if appNew c o ρ = true ∧ stOk c o ρ = true then aEff P o ρ h else none) with | some (v, h') => K v h' | none => False) else (match (if ldOk c o ρ = true then aPure P o ρ h else none) with | some v => K v h | none => False)
theorem opK_R {P : Program} [c : EffF] {o : Oper} {ρ : Operand → AVal} {h : List AObj} {K : AVal → List AObj → Prop} (hk : opK P o ρ h K) : ∃ v h', OpR P c o ρ h v h' ∧ K v h' := by
  unfold opK at hk
  split at hk
  · rename_i fo args ty ho
    rcases hk with ⟨hn, v, h1, h2⟩ | ⟨hn, hc, v, h', h1, h2⟩ | ⟨hn, yv, y, h', hy, hfo, hb, h1, h2⟩ | ⟨hn, hc, v, h', h1, h2⟩
    · exact ⟨v, h, .call v fo args ty ho h1 hn, h2⟩
    · exact ⟨v, h', .callTo v h' fo args ty ho hc h1 hn, h2⟩
    · exact ⟨_, h', .yield _ h' fo args ty yv y ho hfo hb hy h1 rfl hn, h2⟩
    · exact ⟨v, h', .mk v h' fo args ty ho hc h1 hn, h2⟩
  · split at hk
    · rename_i hzz
      obtain ⟨v, h1, h2⟩ := hk
      exact ⟨v, h, .same v h1 hzz, h2⟩
    rename_i hzz
    split at hk
    · rename_i hz
      split at hk
      · rename_i v hx
        exact ⟨v, h, .frz v hx hz, hk⟩
      · exact hk.elim
    · rename_i hz
      split at hk
      · split at hk
        · rename_i v h' hx
          split at hx
          · rename_i hn
            exact ⟨v, h', .eff v h' hx hn.1 (by simpa using hz) hn.2 (by simpa using hzz), hk⟩
          · cases hx
        · exact hk.elim
      · split at hk
        · rename_i v hx
          split at hx
          · rename_i hl
            exact ⟨v, h, .pure v hx hl, hk⟩
          · cases hx
        · exact hk.elim
def putA (dst : Option Nat) (v : AVal) (env : List (Nat × AVal)) : List (Nat × AVal) :=
  match dst with
  | some d => (d, v) :: env
  | none => env
def awpList (P : Program) [EffF] (ops : List Oper) (Q : ASt → Prop) : List Oper → ASt → Prop
  | [], s => Q s
  | o :: rest, s => match o.guard with
    | none => opK P o (ev s.env) s.heap (fun v h' => awpList P ops Q rest ⟨putA o.dst v s.env, h'⟩)
    | some (j, want) => match (ops[j]?).bind (·.dst) with
      | some t => match look s.env t with
        | .val (.bool b) => (b = want → opK P o (ev s.env) s.heap (fun v h' => awpList P ops Q rest ⟨putA o.dst v s.env, h'⟩)) ∧ (b ≠ want → awpList P ops Q rest ⟨putA o.dst (.val undef) s.env, s.heap⟩)
        | .val (.tuple _) => awpList P ops Q rest ⟨putA o.dst (.val undef) s.env, s.heap⟩
        | _ => False
      | none => False
def keepEnv (ks : List Nat) (env : List (Nat × AVal)) : List (Nat × AVal) := ks.map fun k => (k, look env k)
def ASt.keep (ks : List Nat) (s : ASt) : ASt := ⟨keepEnv ks s.env, s.heap⟩
def awp (P : Program) (E : EffF) (hb : List AObj) : Code → (Exit → ASt → Prop) → ASt → Prop
  | .skip, Q, s => Q .normal s
  | .region _ ops d, Q, s => @awpList P (if d then E else effIn E) ops.toList (Q .normal) ops.toList s
  | .seq a b, Q, s => awp P E hb a (fun e s' => match e with | .normal => awp P E hb b Q s' | e => Q e s') s
  | .cond c x y, Q, s => match ev s.env c with
    | .val (.bool b) => (b = true → awp P E hb x Q s) ∧ (b = false → awp P E hb y Q s)
    | _ => False
  | .block id c, Q, s => awp P E hb c (fun e s' => match e with | .exit id' => if id' = id then Q .normal s' else Q (.exit id') s' | e => Q e s') s
  | .loop c, Q, s => ∃ (I : Nat → ASt → Prop) (n : Nat), (∃ s1, Wk hb s s1 ∧ I n s1) ∧ ∀ n s, I n s → awp P E hb c (fun e s' => match e with | .normal => ∃ m s1, m < n ∧ Wk hb s' s1 ∧ I m s1 | e => Q e s') s
  | .scope c, Q, s => awp P E hb c (fun e s' => match e with | .goto _ => False | e => Q e s') s
  | .label _, Q, s => Q .normal s
  | .exit id, Q, s => Q (.exit id) s
  | .ret, Q, s => Q .ret s
  | .rangeFunc g ps x c, Q, s0 => (∃ s, Wk hb s0 s ∧ ∃ f cs y h', ev s.env g = .func (.func f) [] cs ∧ SpecY P f y cs s.heap h' ∧
      (∀ args h1 h2, y args h1 h2 → args.length = ps.size ∧ awp P E h1 x (fun e s1 => e = .normal ∧ awp P E s1.heap c (fun e s2 => e = .normal ∧ Wk s1.heap ⟨[], s2.heap⟩ ⟨[], h2⟩) s1) ⟨ps.toList.zip args ++ s.env, h1⟩) ∧ Q .normal ⟨s.env, h'⟩) ∨
    (∃ s, Wk hb s0 s ∧ ∃ f cs y yS hS ej, ev s.env g = .func (.func f) [] cs ∧ SpecX P f y yS cs s.heap hS ∧ (ej = .ret ∨ ∃ id, ej = .exit id) ∧
      (∀ args h1 h2, y args h1 h2 → args.length = ps.size ∧ awp P E h1 x (fun e s1 => e = .normal ∧ awp P E s1.heap c (fun e s2 => e = .normal ∧ Wk s1.heap ⟨[], s2.heap⟩ ⟨[], h2⟩) s1) ⟨ps.toList.zip args ++ s.env, h1⟩) ∧
      (∀ args h1, yS args h1 → args.length = ps.size ∧ awp P E h1 x (fun e s1 => e = .normal ∧ awp P E s1.heap c (fun e s2 => e = ej ∧ Wk s1.heap ⟨[], s2.heap⟩ ⟨[], hS⟩) s1) ⟨ps.toList.zip args ++ s.env, h1⟩) ∧ Q ej ⟨s.env, hS⟩)
  | _, _, _ => False
theorem opK_mono {P : Program} [EffF] {o : Oper} {ρ : Operand → AVal} {h : List AObj} {K K' : AVal → List AObj → Prop} (hK : ∀ v h', K v h' → K' v h') (hk : opK P o ρ h K) : opK P o ρ h K' := by
  unfold opK at hk ⊢
  split at hk
  · rcases hk with ⟨hn, v, h1, h2⟩ | ⟨hn, hc, v, h', h1, h2⟩ | ⟨hn, yv, y, h', hy, hfo, hb, h1, h2⟩ | ⟨hn, hc, v, h', h1, h2⟩
    · exact .inl ⟨hn, v, h1, hK _ _ h2⟩
    · exact .inr (.inl ⟨hn, hc, v, h', h1, hK _ _ h2⟩)
    · exact .inr (.inr (.inl ⟨hn, yv, y, h', hy, hfo, hb, h1, hK _ _ h2⟩))
    · exact .inr (.inr (.inr ⟨hn, hc, v, h', h1, hK _ _ h2⟩))
  · split at hk
    · rename_i hzz
      rw [if_pos hzz]
      obtain ⟨v, h1, h2⟩ := hk
      exact ⟨v, h1, hK _ _ h2⟩
    rename_i hzz
    rw [if_neg hzz]
    split at hk
    · rename_i hz
      rw [if_pos hz]
      split at hk
      · exact hK _ _ hk
      · exact hk.elim
    · rename_i hz
      rw [if_neg hz]
      split at hk
      · rename_i hE
        rw [if_pos hE]
        split at hk
        · exact hK _ _ hk
        · exact hk.elim
      · rename_i hE
        rw [if_neg hE]
        split at hk
        · exact hK _ _ hk
        · exact hk.elim
theorem awpList_mono {P : Program} [EffF] {ops : List Oper} {Q Q' : ASt → Prop} (hQ : ∀ s, Q s → Q' s) : ∀ (l : List Oper) (s : ASt), awpList P ops Q l s → awpList P ops Q' l s := by
  intro l
  induction l with
  | nil => intro s h; exact hQ _ h
  | cons o rest ih =>
    intro s h
    simp only [awpList] at h ⊢
    split at h
    · exact opK_mono (fun _ _ => ih _) h
    · split at h
      · split at h
        · exact ⟨fun hb => opK_mono (fun _ _ => ih _) (h.1 hb), fun hb => ih _ (h.2 hb)⟩
        · exact ih _ h
        · exact h.elim
      · exact h.elim
theorem awp_mono {P : Program} {E : EffF} {hb : List AObj} : ∀ (c : Code) (Q Q' : Exit → ASt → Prop) (s : ASt), (∀ e s, Q e s → Q' e s) → awp P E hb c Q s → awp P E hb c Q' s := by
  intro c
  induction c with
  | skip => intro Q Q' s hq h; exact hq _ _ h
  | region id ops d => intro Q Q' s hq h; exact @awpList_mono P (if d then E else effIn E) _ _ _ (fun s => hq _ s) _ _ h
  | seq a b iha ihb =>
    intro Q Q' s hq h
    refine iha _ _ _ (fun e s' he => ?_) h
    cases e with
    | normal => exact ihb _ _ _ hq he
    | _ => exact hq _ _ he
  | cond c x y ihx ihy =>
    intro Q Q' s hq h
    simp only [awp] at h ⊢
    split at h
    · exact ⟨fun hb => ihx _ _ _ hq (h.1 hb), fun hb => ihy _ _ _ hq (h.2 hb)⟩
    · exact h.elim
  | scope c ih =>
    intro Q Q' s hq h
    refine ih _ _ _ (fun e s' he => ?_) h
    cases e with
    | goto l => exact he.elim
    | _ => exact hq _ _ he
  | label l => intro Q Q' s hq h; exact hq _ _ h
  | block id c ih =>
    intro Q Q' s hq h
    refine ih _ _ _ (fun e s' he => ?_) h
    cases e with
    | exit id' =>
      simp only at he ⊢
      split
      · rename_i hid; rw [if_pos hid] at he; exact hq _ _ he
      · rename_i hid; rw [if_neg hid] at he; exact hq _ _ he
    | _ => exact hq _ _ he
  | loop c ih =>
    intro Q Q' s hq h
    obtain ⟨I, n, h0, hr⟩ := h
    refine ⟨I, n, h0, fun n s hs => ih _ _ _ (fun e s' he => ?_) (hr n s hs)⟩
    cases e with
    | normal => exact he
    | _ => exact hq _ _ he
  | exit id => intro Q Q' s hq h; exact hq _ _ h
  | ret => intro Q Q' s hq h; exact hq _ _ h
  | rangeFunc g ps x c _ _ =>
    intro Q Q' s hq h
    rcases h with ⟨s1, g0, f, cs, y, h', g1, g2, g3, g4⟩ | ⟨s1, g0, f, cs, y, yS, hS, ej, g1, g2, g3, g4, g5, g6⟩
    · exact .inl ⟨s1, g0, f, cs, y, h', g1, g2, g3, hq _ _ g4⟩
    · exact .inr ⟨s1, g0, f, cs, y, yS, hS, ej, g1, g2, g3, g4, g5, hq _ _ g6⟩
  | _ => intros; first | assumption | (rename_i h; exact h.elim)
theorem awp_loopW {P : Program} {E : EffF} {hb : List AObj} {c : Code} {Q : Exit → ASt → Prop} {s : ASt} {σ : Type} (J : σ → Prop) (F : σ → ASt) (μ : σ → Nat) (x : σ) (hJ : J x) (h0 : Wk hb s (F x))
    (round : ∀ x, J x → awp P E hb c (fun e s' => match e with | .normal => ∃ y, J y ∧ Wk hb s' (F y) ∧ μ y < μ x | e => Q e s') (F x)) : awp P E hb (.loop c) Q s := by
  refine ⟨fun n s => ∃ x, J x ∧ s = F x ∧ μ x = n, μ x, ⟨_, h0, x, hJ, rfl, rfl⟩, ?_⟩
  rintro n s ⟨x, hx, rfl, rfl⟩
  refine awp_mono _ _ _ _ (fun e s' he => ?_) (round x hx)
  cases e with
  | normal =>
    obtain ⟨y, hy, hy', hlt⟩ := he
    exact ⟨μ y, F y, hlt, hy', y, hy, rfl, rfl⟩
  | _ => exact he
end Go.AW
namespace Go.AW
open Go Go.RowKit
def opOk (N : Nat) (o : Oper) : Bool :=
  (match o.dst with | some d => decide (d < N) | none => true) && (match o.op with | .slice _ _ _ hi mx => mx.isNone || hi.isSome | _ => true) && noDefer o.op
def opY (E : EffF) (o : Oper) : Bool := E.y.isNone || !(o.dst == some 0)
section
variable {P : Program} {B : Bs} {W0 : World} {ok0 A : Nat → Prop} {β : Nat → Nat × Nat} {h : List AObj} {w : World} {N : Nat}
theorem put_getD (a : Act) (dst : Option Tmp) (v : Value) (t : Nat) (hd : ∀ d, dst = some d → d < a.tmps.size) : (a.put dst v).tmps.getD t undef = if dst = some t then v else a.tmps.getD t undef := by
  cases dst with
  | none => simp [Act.put]
  | some d =>
    have := hd d rfl
    simp only [Act.put, Array.getD_eq_getD_getElem?, Option.some.injEq]
    by_cases hdt : d = t
    · subst hdt; simp [this]
    · rw [if_neg hdt, Array.getElem?_setIfInBounds_ne hdt]
theorem put_size (a : Act) (dst : Option Tmp) (v : Value) : (a.put dst v).tmps.size = a.tmps.size := by cases dst <;> simp [Act.put]
theorem put_defers (a : Act) (dst : Option Tmp) (v : Value) : (a.put dst v).defers = a.defers := by cases dst <;> rfl
theorem look_putA (dst : Option Nat) (v : AVal) (env : List (Nat × AVal)) (t : Nat) : look (putA dst v env) t = if dst = some t then v else look env t := by
  cases dst with
  | none => simp [putA]
  | some d => simp [putA, look]
theorem opOk_dst {o : Oper} (ho : opOk N o = true) : ∀ d, o.dst = some d → d < N := by
  intro d hd
  simp only [opOk, hd, Bool.and_eq_true, decide_eq_true_eq] at ho
  exact ho.1.1
theorem opOk_def {o : Oper} (ho : opOk N o = true) : noDefer o.op = true := by
  simp only [opOk, Bool.and_eq_true] at ho
  exact ho.2
theorem opOk_slice {o : Oper} (ho : opOk N o = true) : ∀ t x lo hi mx, o.op = .slice t x lo hi mx → mx ≠ none → hi ≠ none := by
  intro t x lo hi mx he hm hh
  simp only [opOk, he, Bool.and_eq_true, Bool.or_eq_true] at ho
  rcases ho.1.2 with h1 | h1
  · exact hm (by simpa using h1)
  · simp [hh] at h1
theorem opR_wp0 (hr : HR W0 ok0 A β h w) {o : Oper} {a : Act} {ρ : Operand → AVal} (hρ : ∀ x, VR W0 ok0 β h w (ρ x) (a.eval x)) (ho : opOk N o = true) {v : AVal} {h' : List AObj} {c : EffF} (hR : OpR P c o ρ h v h') (hny : c.y = none)
    {next : Act → World → Prop} {Q : Exit → Act → World → Prop} (hn : ∀ u β' w', Step W0 ok0 A β h w β' h' w' → VR W0 ok0 β' h' w' v u → next (a.put o.dst u) w') : o.wp P a w next Q := by
  cases hR with
  | pure hx _ =>
    obtain ⟨u, h1, h2⟩ := aPure_rel hr hρ hx
    unfold Oper.wp
    rw [h1]
    exact hn u β w (Step.refl hr) h2
  | same hx _ =>
    obtain ⟨nx, u, β', w', h1, h2, h3, h4⟩ := aEff_rel hr hρ (opOk_slice ho) hx
    unfold Oper.wp
    rw [h1]
    rcases h2 with rfl | ⟨rfl, rfl⟩
    · exact hn u β' w' h3 h4
    · exact hn _ β' w' h3 h4
  | eff _ hx _ _ _ _ =>
    obtain ⟨nx, u, β', w', h1, h2, h3, h4⟩ := aEff_rel hr hρ (opOk_slice ho) hx
    unfold Oper.wp
    rw [h1]
    rcases h2 with rfl | ⟨rfl, rfl⟩
    · exact hn u β' w' h3 h4
    · exact hn _ β' w' h3 h4
  | call fo args ty hop hc _ =>
    have har : AR W0 ok0 β h w (args.toList.map ρ) (args.map a.eval) := ⟨by simp, fun j hj => by
      have hj' : j < args.size := by simpa using hj
      simpa [hj'] using hρ args[j]⟩
    obtain ⟨f, vs, h1, h2⟩ := callOk_rel hr (Pre.refl h) hc (hρ fo) har
    unfold Oper.wp
    have hrun : (execOp a.eval o).run P w = .ok (.enter f vs) w := by
      simp only [execOp, hop, resolve]
      exact h1 w
    rw [hrun, Oper.upon_enter]
    refine h2.mono fun e w' he => ?_
    obtain ⟨u, rfl, hst, hv⟩ := he
    exact hn u β w' hst hv
  | frz hx hz =>
    obtain ⟨dst, op, type, pos, after, guard⟩ := o
    unfold aFrzO at hx
    split at hx
    · rename_i e y hop
      simp only at hop
      subst hop
      split at hx
      · rename_i T vs ht hps
        split at hx
        · rename_i hl
          cases hx
          have har := parts_rel (hρ y) hps
          have hst := step_world hr ((Below.refl w.heap.size w).alloc (Nat.le_refl _) (.cells (a.eval y).cells e))
          unfold Oper.wp
          have hrun : (execOp a.eval ⟨dst, .box e y, type, pos, after, guard⟩).run P w = .ok (.value (.pointer (some ⟨w.heap.size, 0, none⟩))) (w.alloc (.cells (a.eval y).cells e)) := by simp [execOp, Instr.box, newVar, newRow]
          rw [hrun]
          refine hn _ β _ hst (.spot true _ _ vs (fun j => (a.eval y).cells.getD j undef) (fun _ => ⟨by simp, fun i hi => ?_, .inl hr.wsize⟩) (fun _ _ => hr.wsize) (fun j hj => ?_) (fun j hj => hst.vr _ _ (har.2 j hj)))
          · have := hr.lt hi.live; omega
          · rw [cell_of_row _ _ _ (a.eval y).cells e (0, 0) (heap_alloc_new w _)]
            have : j < (a.eval y).cells.size := by rw [har.1]; exact hj
            simp [this]
        · cases hx
      · cases hx
    · rename_i args argTypes hop
      simp only at hop
      subst hop
      split at hx
      · rename_i s y t t' hl ht
        split at hx
        · rename_i htt
          subst htt
          obtain ⟨a0, a1, rfl⟩ : ∃ a0 a1, args = #[a0, a1] := by
            have hlen : args.toList.length = 2 := by have := congrArg List.length hl; simpa using this
            match hal : args.toList, hlen with
            | [a0, a1], _ => exact ⟨a0, a1, by rw [← Array.toArray_toList (xs := args), hal]⟩
          obtain rfl : argTypes = #[t, t] := by rw [← Array.toArray_toList (xs := argTypes), ht]
          simp at hl
          obtain ⟨rfl, rfl⟩ := hl
          obtain ⟨u, w', h1, h2, h3⟩ := aFrz_rel (ty := type) hr (hρ a0) (hρ a1) hx
          have hrun : (execOp a.eval ⟨dst, .call ⟨.builtin .append, #[a0, a1], #[t, t]⟩, type, pos, after, guard⟩).run P w = .ok (.value u) w' := by simp [execOp, resolve, invoke, builtin, h1]
          unfold Oper.wp
          rw [hrun]
          exact hn u β w' h2 h3
        · cases hx
      · cases hx
    · cases hx
  | mk _ fo args ty hop _ hm _ =>
    have har : AR W0 ok0 β h w (args.toList.map ρ) (args.map a.eval) := ⟨by simp, fun j hj => by
      have hj' : j < args.size := by simpa using hj
      simpa [hj'] using hρ args[j]⟩
    rcases hm with ⟨ob, rn, _, _, _, rfl, rfl, hm⟩ | ⟨rfl, hm⟩
    rotate_left
    · obtain ⟨f, vs, h1, h2⟩ := callTo_rel hr (hm h) (hρ fo) har
      unfold Oper.wp
      have hrun : (execOp a.eval o).run P w = .ok (.enter f vs) w := by
        simp only [execOp, hop, resolve]
        exact h1 w
      rw [hrun, Oper.upon_enter]
      refine h2.mono fun e w' he => ?_
      obtain ⟨u, β', rfl, hst, hv⟩ := he
      have hst2 := step_hole hst.hr
      exact hn u β' w' (hst.trans hst2) (hst2.vr _ _ hv)
    have hc := hm h
    obtain ⟨f, vs, h1, h2⟩ := callTo_rel hr hc (hρ fo) har
    unfold Oper.wp
    have hrun : (execOp a.eval o).run P w = .ok (.enter f vs) w := by
      simp only [execOp, hop, resolve]
      exact h1 w
    rw [hrun, Oper.upon_enter]
    refine h2.mono fun e w' he => ?_
    obtain ⟨u, β', rfl, hst, hv⟩ := he
    exact hn u β' w' hst hv
  | callTo _ fo args ty hop _ hc _ =>
    have har : AR W0 ok0 β h w (args.toList.map ρ) (args.map a.eval) := ⟨by simp, fun j hj => by
      have hj' : j < args.size := by simpa using hj
      simpa [hj'] using hρ args[j]⟩
    obtain ⟨f, vs, h1, h2⟩ := callTo_rel hr hc (hρ fo) har
    unfold Oper.wp
    have hrun : (execOp a.eval o).run P w = .ok (.enter f vs) w := by
      simp only [execOp, hop, resolve]
      exact h1 w
    rw [hrun, Oper.upon_enter]
    refine h2.mono fun e w' he => ?_
    obtain ⟨u, β', rfl, hst, hv⟩ := he
    exact hn u β' w' hst hv
  | yield _ fo args ty yv y hop hfo he hy hc hv _ => rw [hny] at hy; cases hy
abbrev noY (c : EffF) : EffF := ⟨c.b, c.n, c.f, c.l, c.D, c.z, none⟩
theorem opR_wp (r : Option Nat) (n : Nat) (hr : HR W0 ok0 A β h w) {o : Oper} {a : Act} {ρ : Operand → AVal} (hρ : ∀ x, VR W0 ok0 β h w (ρ x) (a.eval x)) (ho : opOk N o = true) {v : AVal} {h' : List AObj} {c : EffF} (hR : OpR P c o ρ h v h')
    (hy : ∀ yv y, c.y = some (yv, y) → ∀ args h' vs, y args h h' → AR W0 ok0 β h w args vs → YNow P W0 ok0 A β h w h' vs yv)
    {next : Act → World → Prop} {Q : Exit → Act → World → Prop} (hn : ∀ u β' w', Step W0 ok0 A β h w β' h' w' → VR W0 ok0 β' h' w' v u → next (a.put o.dst u) w') : o.wpIn (Fd r) n P a w next Q := by
  have hnd := opOk_def ho
  cases hR with
  | pure hx hl => exact wpIn_of_wp r n hnd (opR_wp0 (c := noY c) hr hρ ho (.pure _ hx hl) rfl hn)
  | same hx hz => exact wpIn_of_wp r n hnd (opR_wp0 (c := noY c) hr hρ ho (.same _ hx hz) rfl hn)
  | eff _ hx hnn hz hs hnz => exact wpIn_of_wp r n hnd (opR_wp0 (c := noY c) hr hρ ho (.eff _ _ hx hnn hz hs hnz) rfl hn)
  | frz hx hz => exact wpIn_of_wp r n hnd (opR_wp0 (c := noY c) hr hρ ho (.frz _ hx hz) rfl hn)
  | call fo args ty hop hc hcn => exact wpIn_of_wp r n hnd (opR_wp0 (c := noY c) hr hρ ho (.call _ fo args ty hop hc hcn) rfl hn)
  | mk _ fo args ty hop he hm hcn => exact wpIn_of_wp r n hnd (opR_wp0 (c := noY c) hr hρ ho (.mk _ _ fo args ty hop he hm hcn) rfl hn)
  | callTo _ fo args ty hop he hc hcn => exact wpIn_of_wp r n hnd (opR_wp0 (c := noY c) hr hρ ho (.callTo _ _ fo args ty hop he hc hcn) rfl hn)
  | yield _ fo args ty yv y hop hfo he hcy hc hv _ =>
    subst hv
    have har : AR W0 ok0 β h w (args.toList.map ρ) (args.map a.eval) := ⟨by simp, fun j hj => by
      have hj' : j < args.size := by simpa using hj
      simpa [hj'] using hρ args[j]⟩
    obtain ⟨l, fn, tmps, x, cc, rfl, h2, h3⟩ := hy yv y hcy _ _ _ hc har
    refine ⟨fun _ _ => trivial, ?_⟩
    rw [semAt_fd hnd]
    have hev : a.eval fo = .func (.yield l) #[] #[] := by
      have h0 := hρ fo
      rw [hfo] at h0
      generalize a.eval fo = u at h0
      cases h0; rfl
    have hrun : (execOp a.eval o).run P w = .ok (.round l fn tmps x cc) w := by
      simp only [execOp, hop, resolve, hev]
      simp [Deferred.ofValue, invoke, h2]
    rw [hrun, Oper.uponIn_round]
    refine ⟨(fun hd => by cases hd), (h3 _).mono fun e w' he => ?_⟩
    obtain ⟨β', rfl, hst⟩ := he
    exact hn _ β' w' hst (.val _)
theorem yielded_bool {ops : List Oper} {a : Act} {j t : Nat} {b : Bool} (ht : (ops[j]?).bind (·.dst) = some t) (hv : VR W0 ok0 β h w (.val (.bool b)) (a.tmps.getD t undef)) : yielded ops.toArray a.tmps j = some b := by
  have hb : a.tmps.getD t undef = .bool b := by
    generalize a.tmps.getD t undef = u at hv
    cases hv; rfl
  have hs : a.tmps[t]? = some (.bool b) := by
    simp only [Array.getD_eq_getD_getElem?] at hb
    cases hs : a.tmps[t]? with
    | none => rw [hs] at hb; simp [undef] at hb
    | some u => rw [hs] at hb; simp at hb; rw [hb]
  simp [yielded, ht, hs]
theorem yielded_tuple {ops : List Oper} {a : Act} {j t : Nat} {us : Array Value} (ht : (ops[j]?).bind (·.dst) = some t) (hv : VR W0 ok0 β h w (.val (.tuple us)) (a.tmps.getD t undef)) : yielded ops.toArray a.tmps j = none := by
  have hb : a.tmps.getD t undef = .tuple us := by
    generalize a.tmps.getD t undef = u at hv
    cases hv; rfl
  simp only [Array.getD_eq_getD_getElem?] at hb
  cases hs : a.tmps[t]? with
  | none => simp [yielded, ht, hs]
  | some u => rw [hs] at hb; simp at hb; subst hb; simp [yielded, ht, hs]
theorem Kp.put {a : Act} (hk : Kp W0 ok0 B β h w a) (dst : Option Tmp) (u : Value) (hoy : B.v0.isSome = true → dst ≠ some 0) : Kp W0 ok0 B β h w (a.put dst u) := by
  refine ⟨hk.base, hk.len, hk.ok, fun v hv => ?_, ?_, hk.wsz⟩
  · have h0 := hoy (by simp [hv])
    cases dst with
    | none => exact hk.v0 v hv
    | some d =>
      have hd : d ≠ 0 := fun e => h0 (by rw [e])
      rw [← hk.v0 v hv]
      simp only [Act.put, Array.getD_eq_getD_getElem?]
      rw [Array.getElem?_setIfInBounds_ne hd]
  · rw [put_defers]; exact hk.marks
theorem opY_dst {E : EffF} {o : Oper} (h : opY E o = true) (hB : B.v0.isSome = true → E.y.isSome = true) : B.v0.isSome = true → o.dst ≠ some 0 := by
  intro h1 h2
  have := hB h1
  unfold opY at h
  rw [h2] at h
  cases hy : E.y with
  | none => rw [hy] at this; cases this
  | some y => rw [hy] at h; simp at h
theorem FR.put {s : ASt} {a : Act} {o : Oper} {v : AVal} {u : Value} {h' : List AObj} {β' : Nat → Nat × Nat} {w' : World} (henv : ∀ t, VR W0 ok0 β s.heap w (look s.env t) (a.tmps.getD t undef)) (hs : a.tmps.size = N) (hd : Kp W0 ok0 B β s.heap w a)
    (ho : opOk N o = true) (hoy : B.v0.isSome = true → o.dst ≠ some 0) (hst : Step W0 ok0 A β s.heap w β' h' w') (hv : VR W0 ok0 β' h' w' v u) : FR W0 ok0 A N B ⟨putA o.dst v s.env, h'⟩ (a.put o.dst u) w' := by
  refine ⟨β', hst.hr, fun t => ?_, by rw [put_size, hs], (hd.step hst).put o.dst u hoy⟩
  rw [look_putA, put_getD _ _ _ _ (fun d hd => by rw [hs]; exact opOk_dst ho d hd)]
  split
  · exact hv
  · exact hst.vr _ _ (henv t)
theorem awpList_sound [cE : EffF] (n : Nat) (hB : BOk P cE W0 ok0 A B) {ops : List Oper} {Qs : ASt → Prop} {Q : Exit → Act → World → Prop} (hQ : ∀ s a w, Qs s → FR W0 ok0 A N B s a w → Q .normal a w) :
    ∀ (l : List Oper) (s : ASt) (a : Act) (w : World), l.all (opOk N) = true → l.all (opY cE) = true → awpList P ops Qs l s → FR W0 ok0 A N B s a w → wpListIn (Fd B.rd) n P ops.toArray Q l a w := by
  intro l
  induction l with
  | nil => intro s a w _ _ h hf; exact hQ _ _ _ h hf
  | cons o rest ih =>
    intro s a w hall hally h hf
    simp only [List.all_cons, Bool.and_eq_true] at hall hally
    obtain ⟨ho, hrest⟩ := hall
    obtain ⟨hoy, hresty⟩ := hally
    have hoy := opY_dst hoy hB.v0
    obtain ⟨β, hr, henv, hs, hd⟩ := hf
    have run : opK P o (ev s.env) s.heap (fun v h' => awpList P ops Qs rest ⟨putA o.dst v s.env, h'⟩) → o.wpIn (Fd B.rd) n P a w (wpListIn (Fd B.rd) n P ops.toArray Q rest) Q := fun hk => by
      obtain ⟨v, h', hR, hK⟩ := opK_R hk
      exact opR_wp B.rd n hr (ev_rel hr.tab henv) ho hR (fun yv y hy args h' vs hyy har => hd.yield hB hr hy hyy har) fun u β' w' hst hv => ih _ _ _ hrest hresty hK (FR.put henv hs hd ho hoy hst hv)
    have skip : awpList P ops Qs rest ⟨putA o.dst (.val undef) s.env, s.heap⟩ → wpListIn (Fd B.rd) n P ops.toArray Q rest (a.put o.dst undef) w := fun hk =>
      ih _ _ _ hrest hresty hk (FR.put henv hs hd ho hoy (Step.refl hr) (.val _))
    simp only [awpList] at h
    unfold wpListIn
    split at h
    · rename_i hg
      rw [if_pos (by simp [Region.wanted, hg])]
      exact run h
    · rename_i j want hg
      split at h
      · rename_i t ht
        split at h
        · rename_i b hb
          have hy := yielded_bool (ops := ops) ht (by have := henv t; rw [hb] at this; exact this)
          by_cases hbw : b = want
          · rw [if_pos (by simp [Region.wanted, hg, hy, hbw])]
            exact run (h.1 hbw)
          · rw [if_neg (by simp [Region.wanted, hg, hy, hbw])]
            exact ⟨fun _ _ => trivial, skip (h.2 hbw)⟩
        · rename_i us hb
          have hy := yielded_tuple (ops := ops) ht (by have := henv t; rw [hb] at this; exact this)
          rw [if_neg (by simp [Region.wanted, hg, hy])]
          exact ⟨fun _ _ => trivial, skip h⟩
        · exact h.elim
      · exact h.elim
theorem wp_loop_fuel {F : Fence} {nn : Nat} {c : Code} {Q : Exit → Act → World → Prop} (J : Nat → Act → World → Prop)
    (round : ∀ n a w, J n a w → c.wpIn F nn P (Exit.then (fun a' w' => ∃ m, m < n ∧ J m a' w') Q) a w) {n : Nat} {a : Act} {w : World} (h0 : J n a w) : (Code.loop c).wpIn F nn P Q a w := by
  intro b k cs hro hb hr
  have key : ∀ n a w, J n a w → ∃ e a' w', Q e a' w' ∧ ArrivesIn (Machine.fenced P F) P (lone (b.atR a (.code c :: .inLoop c :: k)) cs w) b k cs e a' w' := by
    intro n
    induction n using Nat.strongRecOn with
    | _ n ih =>
      intro a w hJ
      obtain ⟨e, a₁, w₁, hq, harr⟩ := round n a w hJ b (.inLoop c :: k) cs hro hb hr
      cases e with
      | normal =>
        obtain ⟨m, hlt, hJ₁⟩ := hq
        obtain ⟨e₂, a₂, w₂, hq₂, harr₂⟩ := ih m hlt a₁ w₁ hJ₁
        exact ⟨e₂, a₂, w₂, hq₂, .of_steps (StepsIn.trans harr (.one (fenced_calm hb hr rfl) stepR_inLoop)) harr₂⟩
      | _ => exact ⟨_, a₁, w₁, hq, .pass (x := .inLoop c) rfl (fun _ _ => .inl (by simp)) harr⟩
  obtain ⟨e, a', w', hq, harr⟩ := key n a w h0
  exact ⟨e, a', w', hq, .of_steps (.one (fenced_calm hb hr rfl) stepR_loop) harr⟩
theorem look_keep (ks : List Nat) (env : List (Nat × AVal)) (t : Nat) : look (keepEnv ks env) t = if t ∈ ks then look env t else .undef := by
  induction ks with
  | nil => simp [keepEnv, look]
  | cons k ks ih =>
    simp only [keepEnv, List.map_cons, look]
    by_cases hk : k = t
    · subst hk; simp
    · rw [if_neg hk]
      have := ih
      simp only [keepEnv] at this
      rw [this]
      simp [Ne.symm hk]
theorem FR.keep {s : ASt} {a : Act} (ks : List Nat) (hf : FR W0 ok0 A N B s a w) : FR W0 ok0 A N B (s.keep ks) a w := by
  obtain ⟨β, hr, henv, hs, hd⟩ := hf
  refine ⟨β, hr, fun t => ?_, hs, hd⟩
  simp only [ASt.keep, look_keep]
  split
  · exact henv t
  · exact .undef _
theorem Wk.keep (hb : List AObj) (s : ASt) (ks : List Nat) : Wk hb s (s.keep ks) := fun _ _ _ _ _ _ _ _ h => h.keep ks
end
end Go.AW
namespace Go.AW
open Go Go.RowKit
section
variable {P : Program} {c : EffF} {W0 : World} {ok0 A : Nat → Prop} {β : Nat → Nat × Nat} {h h2 : List AObj} {w : World} {N : Nat}
theorem cellsAt_mono (hp : Pre h h2) {id ext : Nat} {cs : List AVal} (hc : cellsAt h id ext = some cs) : cellsAt h2 id ext = some cs := by
  obtain ⟨o, ho, rfl, hl⟩ := cellsAt_some hc
  simp [cellsAt, hp _ _ ho, hl]
theorem sview_mono (hp : Pre h h2) {x : AVal} {r : Nat × List AVal} (hc : sview h x = some r) : sview h2 x = some r := by
  unfold sview at hc ⊢
  split at hc
  · exact hc
  · exact hc
  · exact hc
  · exact hc
  · obtain ⟨cs, h1, h2'⟩ := Option.map_eq_some_iff.1 hc
    simp only [cellsAt_mono hp h1, Option.map_some, h2']
  · obtain ⟨cs, h1, h2'⟩ := Option.map_eq_some_iff.1 hc
    simp only [cellsAt_mono hp h1, Option.map_some, h2']
  · cases hc
theorem aSlice_mv {t : TypeId} {x z : AVal} {lo hi mx : Option AVal} (hs : ∀ n cs, sview h x = some (n, cs) → ∃ cs', sview h2 x = some (n, cs')) (hc : ∀ id off ext, x = .ptr id off ext → (cellsAt h id ext).isSome = true → (cellsAt h2 id ext).isSome = true)
    (hx0 : aSlice P t h x lo hi mx = some z) : aSlice P t h2 x lo hi mx = some z := by
  unfold aSlice at hx0 ⊢
  split at hx0
  · split at hx0
    · split at hx0
      · rename_i E n cs hE hv
        obtain ⟨cs', hv'⟩ := hs _ _ hv
        rw [hv']
        simp only [*]
      · cases hx0
    · split at hx0
      · split at hx0
        · rename_i hT
          split at hx0
          · rename_i hi
            have := hc _ _ _ rfl hi
            simp only [*, if_true]
            first | done | exact hx0
          · cases hx0
        · cases hx0
      · cases hx0
  · cases hx0
theorem pview_mono (hp : Pre h h2) {x : AVal} {r : List AVal} (hc : pview h x = some r) : pview h2 x = some r := by
  unfold pview at hc ⊢
  split at hc
  · exact hc
  · obtain ⟨cs, h1, h2'⟩ := Option.map_eq_some_iff.1 hc
    simp only [cellsAt_mono hp h1, Option.map_some, h2']
  · cases hc
theorem aData_mono (live : ∀ {id ext : Nat}, (cellsAt h id ext).isSome = true → (cellsAt h2 id ext).isSome = true) {x v : AVal} (hx : aData h x = some v) : aData h2 x = some v := by
  unfold aData at hx ⊢
  split at hx
  all_goals first | exact hx | skip
  · split at hx
    · rename_i hs; rw [if_pos ⟨hs.1, live hs.2⟩]; exact hx
    · cases hx
theorem aPure_mono (hp : Pre h h2) {o : Oper} {ρ : Operand → AVal} {v : AVal} (hx : aPure P o ρ h = some v) : aPure P o ρ h2 = some v := by
  obtain ⟨dst, op, type, pos, after, guard⟩ := o
  have live : ∀ {id ext : Nat}, (cellsAt h id ext).isSome = true → (cellsAt h2 id ext).isSome = true := fun hs => by
    obtain ⟨cs, hcs⟩ := Option.isSome_iff_exists.1 hs
    simp [cellsAt_mono hp hcs]
  cases op <;> simp only [aPure] at hx ⊢ <;> try (exact hx)
  case load t a =>
    split at hx
    · rename_i cs hpv; rw [pview_mono hp hpv]; exact hx
    · cases hx
  case nilCheck y =>
    split at hx
    · exact hx
    · split at hx
      · rename_i hs; rw [if_pos (live hs)]; exact hx
      · cases hx
    · exact hx
    · cases hx
  case fieldAddr s y f =>
    unfold aField at hx ⊢
    split at hx
    · split at hx
      · split at hx
        · split at hx
          · cases hx
          · rename_i hsz
            rw [if_neg hsz]
            split at hx
            · exact hx
            · split at hx
              · rename_i hs; rw [if_pos (live hs)]; exact hx
              · cases hx
            · cases hx
        · cases hx
      · cases hx
    · cases hx
  case indexAddr t y i =>
    unfold aIdx at hx ⊢
    split at hx
    · split at hx
      · split at hx
        · split at hx
          · exact hx
          · exact hx
          · split at hx
            · rename_i hs; rw [if_pos ⟨hs.1, hs.2.1, live hs.2.2⟩]; exact hx
            · cases hx
          · cases hx
        · cases hx
      · split at hx
        · split at hx
          · exact hx
          · split at hx
            · rename_i hs; rw [if_pos ⟨hs.1, hs.2.1, live hs.2.2⟩]; exact hx
            · cases hx
          · cases hx
        · cases hx
    · cases hx
  case call c =>
    obtain ⟨callee, args, argTypes⟩ := c
    cases callee with
    | value f => exact hx
    | invoke r m => exact hx
    | builtin b =>
      cases b <;> try (exact hx)
      case len =>
        simp only at hx ⊢
        split at hx
        · split at hx
          · rename_i n cs t hv ht; rw [sview_mono hp hv, ht]; exact hx
          · cases hx
        all_goals first | (rename_i h1; cases h1; done) | exact hx | (rename_i h1 _; cases h1; done)
      case unsafeSliceData =>
        simp only at hx ⊢
        split at hx
        all_goals first | (rename_i h1; cases h1; done) | exact aData_mono live hx | exact hx | (rename_i h1 _; cases h1; done)
      case cap =>
        simp only at hx ⊢
        split at hx
        all_goals first | (rename_i h1; cases h1; done) | exact hx | (rename_i h1 _; cases h1; done)
theorem aEff_idle (hp : Pre h h2) {o : Oper} {ρ : Operand → AVal} {v : AVal} {h' : List AObj} (he : effOp c o.op = false) (hz : frzOp c o.op = false) (hnz : zOp c o.op = false) (hx : aEff P o ρ h = some (v, h')) : h' = h ∧ aEff P o ρ h2 = some (v, h2) := by
  obtain ⟨dst, op, type, pos, after, guard⟩ := o
  cases op <;> simp only [aEff] at hx ⊢ <;> try (first | (cases hx; done) | (simp [effOp] at he; done) | (simp only [effOp, zOp] at he hnz; rw [hnz] at he; cases he; done))
  case box e y => simp [effOp] at he; simp [frzOp, he] at hz
  case build t parts =>
    obtain ⟨x0, hx0, hx1⟩ := Option.map_eq_some_iff.1 hx
    simp only [Prod.mk.injEq] at hx1
    obtain ⟨rfl, rfl⟩ := hx1
    exact ⟨rfl, by rw [hx0]; rfl⟩
  case buildSlice t len parts =>
    split at hx
    · split at hx
      · split at hx
        · split at hx
          · rename_i hl
            obtain ⟨cs, hcs, hx1⟩ := Option.map_eq_some_iff.1 hx
            simp only [Prod.mk.injEq] at hx1
            obtain ⟨rfl, rfl⟩ := hx1
            exact ⟨rfl, by rw [if_pos hl, hcs]; rfl⟩
          · cases hx
        · cases hx
      · cases hx
    · cases hx
  case slice t y lo hi mx =>
    obtain _ | m := mx
    rotate_left
    · simp [effOp] at he
    simp only at hx ⊢
    obtain ⟨x0, hx0, hx1⟩ := Option.map_eq_some_iff.1 hx
    simp only [Prod.mk.injEq] at hx1
    obtain ⟨rfl, rfl⟩ := hx1
    refine ⟨rfl, ?_⟩
    have : aSlice P t h2 (ρ y) (lo.map ρ) (hi.map ρ) none = some x0 := aSlice_mv (fun n cs hv => ⟨cs, sview_mono hp hv⟩) (fun id off ext _ hi => by
      obtain ⟨cs, hcs⟩ := Option.isSome_iff_exists.1 hi
      rw [cellsAt_mono hp hcs]; rfl) hx0
    rw [this]; rfl
  case call c =>
    obtain ⟨callee, args, argTypes⟩ := c
    cases callee with
    | value f => simp at hx
    | invoke r m => simp at hx
    | builtin b => cases b <;> first | (simp at hx; done) | (simp [effOp] at he; done) | (simp only [effOp, frzOp] at he hz; split at he <;> simp_all)
theorem aFrzO_mono (hp : Pre h h2) {o : Oper} {ρ : Operand → AVal} {v : AVal} (hx : aFrzO P o ρ h = some v) : aFrzO P o ρ h2 = some v := by
  unfold aFrzO at hx ⊢
  split at hx
  · exact hx
  · split at hx
    · split at hx
      · rename_i h1
        rw [if_pos h1]
        unfold aFrz at hx ⊢
        split at hx
        · split at hx
          · split at hx
            · rename_i E m cs hE hv
              rw [sview_mono hp hv]
              simp only [*]
            · cases hx
          · cases hx
        · cases hx
      · cases hx
    · cases hx
  · cases hx
theorem aApZ_al {t t' : TypeId} {s x v : AVal} {h' : List AObj} (hx : aApZ P t t' h s x = some (v, h')) : ∃ y, h' = h ++ y := by
  unfold aApZ at hx
  split at hx
  · split at hx
    · split at hx
      · split at hx
        · split at hx
          · simp only [Option.some.injEq, Prod.mk.injEq] at hx; exact ⟨_, hx.2.symm⟩
          · cases hx
        · cases hx
      · cases hx
    · cases hx
  · cases hx
theorem aEff_al {o : Oper} {ρ : Operand → AVal} {v : AVal} {h' : List AObj} (ha : alOp c o.op = true) (hn : appNew c o ρ = true) (hx : aEff P o ρ h = some (v, h')) : ∃ y, h' = h ++ y := by
  obtain ⟨dst, op, type, pos, after, guard⟩ := o
  cases op <;> simp only [aEff] at hx <;> try (first | (cases hx; done) | (simp [alOp] at ha; done))
  case alloc e =>
    split at hx
    · split at hx
      · simp only [Option.some.injEq, Prod.mk.injEq] at hx; exact ⟨_, hx.2.symm⟩
      · cases hx
    · cases hx
  case box e y =>
    split at hx
    · split at hx
      · simp only [Option.some.injEq, Prod.mk.injEq] at hx; exact ⟨_, hx.2.symm⟩
      · cases hx
    · cases hx
  case makeSlice t l c =>
    unfold aMake at hx
    split at hx
    · split at hx
      · split at hx
        · split at hx
          · simp only [Option.some.injEq, Prod.mk.injEq] at hx; exact ⟨_, hx.2.symm⟩
          · cases hx
        · cases hx
      · cases hx
    · cases hx
  case call c' =>
    obtain ⟨callee, args, argTypes⟩ := c'
    cases callee with
    | value f => simp at hx
    | invoke r m => simp at hx
    | builtin b =>
      cases b <;> first | (simp at hx; done) | (simp [alOp] at ha; done) | skip
      simp only at hx
      split at hx
      · rename_i s x t t' hl ht
        split at hx
        · have h0 : args[0]?.map ρ = some s := by
            have := congrArg (fun l => l[0]?) hl
            simpa using this
          cases ha0 : args[0]? with
          | none => rw [ha0] at h0; cases h0
          | some x0 =>
            rw [ha0] at h0
            simp only [alOp, ha0] at ha
            simp only [appNew, ha0, ha, Bool.not_true, Bool.false_or] at hn
            simp only [Option.map_some, Option.some.injEq] at h0
            rw [h0] at hn
            unfold aAppend at hx
            split at hx
            · split at hx
              · split at hx
                · split at hx
                  · split at hx
                    · split at hx
                      · simp only [Option.some.injEq, Prod.mk.injEq] at hx; exact ⟨_, hx.2.symm⟩
                      · split at hx
                        · simp only [Option.some.injEq, Prod.mk.injEq] at hx; exact ⟨_, hx.2.symm⟩
                        · cases hx
                    · simp [isNew] at hn
                    · split at hx
                      · simp only [Option.some.injEq, Prod.mk.injEq] at hx; exact ⟨[], by simp [hx.2]⟩
                      · split at hx
                        · simp only [Option.some.injEq, Prod.mk.injEq] at hx; exact ⟨_, hx.2.symm⟩
                        · cases hx
                    · simp [isNew] at hn
                    · cases hx
                  · cases hx
                · cases hx
              · cases hx
            · cases hx
        · exact aApZ_al hx
      · cases hx
theorem aEff_same (hp : Pre h h2) {o : Oper} {ρ : Operand → AVal} {v : AVal} (hz : zOp c o.op = true) (hx : aEff P o ρ h = some (v, h)) : aEff P o ρ h2 = some (v, h2) := by
  obtain ⟨dst, op, type, pos, after, guard⟩ := o
  cases op <;> first | (simp [zOp] at hz; done) | skip
  case store t p x =>
    simp only [aEff] at hx ⊢
    obtain ⟨h0, hx0, hx1⟩ := Option.map_eq_some_iff.1 hx
    simp only [Prod.mk.injEq] at hx1
    obtain ⟨rfl, rfl⟩ := hx1
    suffices hs : aStore P t h2 (ρ p) (ρ x) = some h2 by rw [hs]; rfl
    unfold aStore at hx0 ⊢
    split at hx0
    · rename_i T id off ext vs e1 e2 e3
      split at hx0
      · rename_i o ho
        split at hx0
        · rename_i hc
          simp only [hp id o ho]
          rw [if_pos hc]
          simp only [Option.some.injEq] at hx0 ⊢
          have hid := (List.getElem?_eq_some_iff.1 ho).1
          have hob : (⟨o.ty, o.es, splice o.cells off vs⟩ : AObj) = o := by
            have h4 : (h0.set id ⟨o.ty, o.es, splice o.cells off vs⟩)[id]? = h0[id]? := by rw [hx0]
            rw [List.getElem?_set_self hid, ho] at h4
            exact Option.some.inj h4
          rw [hob]
          have := hp id o ho
          obtain ⟨hid2, h5⟩ := List.getElem?_eq_some_iff.1 this
          rw [← h5]
          exact List.set_getElem_self hid2
        · cases hx0
      · cases hx0
    · cases hx0
theorem OpR.idle {o : Oper} {ρ : Operand → AVal} {v : AVal} {h' : List AObj} (hR : OpR P c o ρ h v h') (he : effOp c o.op = false) : h' = h := by
  cases hR with
  | pure => rfl
  | same => rfl
  | eff _ hx _ hz _ hnz => exact (aEff_idle (c := c) (Pre.refl h) he hz hnz hx).1
  | frz => rfl
  | call => rfl
  | callTo _ fo args ty hop hc => simp only [hop, effOp] at he; rw [hc] at he; cases he
  | mk _ fo args ty hop hc => simp only [hop, effOp] at he; rw [hc] at he; cases he
  | yield _ fo args ty yv y hop _ hc => simp only [hop, effOp] at he; rw [hc] at he; cases he
theorem OpR.al {o : Oper} {ρ : Operand → AVal} {v : AVal} {h' : List AObj} (hR : OpR P c o ρ h v h') (ha : alOp c o.op = true) : ∃ y, h' = h ++ y := by
  cases hR with
  | pure => exact ⟨[], by simp⟩
  | same => exact ⟨[], by simp⟩
  | eff _ hx hn _ _ _ => exact aEff_al ha hn hx
  | frz => exact ⟨[], by simp⟩
  | call => exact ⟨[], by simp⟩
  | callTo _ fo args ty hop hb hc hn => simp [hop, alOp, hn] at ha
  | mk _ fo args ty hop hb hm hn => rcases hm with ⟨o, rn, _, _, _, _, h2, _⟩ | ⟨h2, _⟩ <;> exact ⟨_, h2⟩
  | yield _ fo args ty yv y hop _ _ _ _ _ hn => simp [hop, alOp, hn] at ha
theorem opR_wp_pre (r : Option Nat) (n : Nat) (hr : HR W0 ok0 A β h2 w) (hp : Pre h h2) {o : Oper} {a : Act} {ρ : Operand → AVal} (hρ : ∀ x, VR W0 ok0 β h2 w (ρ x) (a.eval x)) (ho : opOk N o = true) {v : AVal} {h' : List AObj} (hR : OpR P c o ρ h v h') (he : effOp c o.op = false)
    {next : Act → World → Prop} {Q : Exit → Act → World → Prop} (hn : ∀ u β' w', Step W0 ok0 A β h2 w β' h2 w' → VR W0 ok0 β' h2 w' v u → next (a.put o.dst u) w') : o.wpIn (Fd r) n P a w next Q := by
  refine wpIn_of_wp r n (opOk_def ho) ?_
  cases hR with
  | pure hx hl => exact opR_wp0 (c := noY c) hr hρ ho (.pure _ (aPure_mono hp hx) hl) rfl hn
  | same hx hz => exact opR_wp0 (c := noY c) hr hρ ho (.same _ (aEff_same hp hz hx) hz) rfl hn
  | eff _ hx hnn hz hs hnz => exact opR_wp0 (c := noY c) hr hρ ho (.eff _ _ (aEff_idle (c := c) hp he hz hnz hx).2 hnn hz hs hnz) rfl hn
  | frz hx hz => exact opR_wp0 (c := noY c) hr hρ ho (.frz _ (aFrzO_mono hp hx) hz) rfl hn
  | call fo args ty hop hc =>
    have har : AR W0 ok0 β h2 w (args.toList.map ρ) (args.map a.eval) := ⟨by simp, fun j hj => by
      have hj' : j < args.size := by simpa using hj
      simpa [hj'] using hρ args[j]⟩
    obtain ⟨f, vs, h1, h2⟩ := callOk_rel hr hp hc (hρ fo) har
    unfold Oper.wp
    have hrun : (execOp a.eval o).run P w = .ok (.enter f vs) w := by
      simp only [execOp, hop, resolve]
      exact h1 w
    rw [hrun, Oper.upon_enter]
    refine h2.mono fun e w' he => ?_
    obtain ⟨u, rfl, hst, hv⟩ := he
    exact hn u β w' hst hv
  | callTo _ fo args ty hop hc => simp only [hop, effOp] at he; rw [hc] at he; cases he
  | mk _ fo args ty hop hc => simp only [hop, effOp] at he; rw [hc] at he; cases he
  | yield _ fo args ty yv y hop _ hc => simp only [hop, effOp] at he; rw [hc] at he; cases he
theorem argOf_noRef : ∀ (m : Nat) (x : AVal), noRef m x = true → ∀ (n : Nat) (h h2 : List AObj), argOf h n x = argOf h2 n x := by
  intro m
  induction m with
  | zero => intro x hx; simp [noRef] at hx
  | succ m ih =>
    intro x hx n h h2
    cases n with
    | zero => cases x <;> rfl
    | succ n =>
      have hm : ∀ cs : List AVal, cs.all (noRef m) = true → cs.map (argOf h n) = cs.map (argOf h2 n) := fun cs hc => List.map_congr_left fun y hy => ih y (List.all_eq_true.1 hc y hy) n h h2
      cases x <;> simp only [noRef, Bool.and_eq_true] at hx <;> simp only [argOf] <;> first | rfl | (rw [hm _ hx]; done) | (rw [hm _ hx.1, hm _ hx.2]; done) | (cases hx; done)
theorem CallOk.anywhere {fv : AVal} {avs : List AVal} {v : AVal} (h0 : (noRef 8 fv && avs.all (noRef 8)) = true) (hc : CallOk P fv avs h v) : CallOk P fv avs h2 v := by
  obtain ⟨f, fs, cs, n, rfl, hc, hf⟩ := hc
  simp only [noRef, Bool.and_eq_true] at h0
  refine ⟨f, fs, cs, n, rfl, ?_, hf⟩
  have e : (fs ++ avs ++ cs).map (argOf h2 n) = (fs ++ avs ++ cs).map (argOf h n) := List.map_congr_left fun y hy => by
    simp only [List.mem_append] at hy
    rcases hy with (hy | hy) | hy
    · exact argOf_noRef _ _ (List.all_eq_true.1 h0.1.1 y hy) _ _ _
    · exact argOf_noRef _ _ (List.all_eq_true.1 h0.2 y hy) _ _ _
    · exact argOf_noRef _ _ (List.all_eq_true.1 h0.1.2 y hy) _ _ _
  rw [e]; exact hc
theorem OpR.anywhere {o : Oper} {ρ : Operand → AVal} {v : AVal} {h' : List AObj} (hR : OpR P c o ρ h v h') (hn : nOp c o.op = true) : OpR P c o ρ h2 v h2 := by
  obtain ⟨dst, op, type, pos, after, guard⟩ := o
  cases hR with
  | pure hx hl =>
    refine .pure _ ?_ hl
    cases op <;> simp only [aPure] at hx ⊢ <;> first | exact hx | (simp [nOp] at hn; done) | skip
    case load t a =>
      simp only [nOp] at hn
      simp only [ldOk, hn, Bool.not_true, Bool.false_or, Bool.and_eq_true] at hl
      cases hq : ρ a <;> rw [hq] at hx hl <;> first | exact hx | (simp [isSp] at hl; done)
    case fieldAddr s a f =>
      simp only [nOp] at hn
      simp only [ldOk, hn, Bool.not_true, Bool.false_or, Bool.and_eq_true] at hl
      cases hq : ρ a <;> rw [hq] at hx hl <;> first | exact hx | (simp [isSp] at hl; done)
    case call c =>
      obtain ⟨callee, args, argTypes⟩ := c
      cases callee with
      | value f => exact hx
      | invoke r m => exact hx
      | builtin b =>
        cases b <;> first | exact hx | (simp [nOp] at hn; done) | skip
        cases h0 : args[0]? with
        | none => simp [nOp, h0] at hn
        | some x =>
          simp only [nOp, h0] at hn
          simp only [ldOk, h0, hn, Bool.not_true, Bool.false_or] at hl
          obtain ⟨l, hxl⟩ : ∃ l, args.toList = x :: l := by
            cases h1 : args.toList with
            | nil => rw [← Array.getElem?_toList, h1] at h0; cases h0
            | cons y l => rw [← Array.getElem?_toList, h1] at h0; simp at h0; exact ⟨l, by rw [h0]⟩
          cases l with
          | cons y l => simp [hxl] at hx
          | nil =>
            simp only [hxl, List.map_cons, List.map_nil] at hx ⊢
            cases hq : ρ x <;> rw [hq] at hx hl <;> first | exact hx | (simp [isLs] at hl; done)
  | frz hx hz =>
    cases op <;> first | (simp [frzOp] at hz; done) | (simp [nOp] at hn; done) | skip
    case call c' =>
      obtain ⟨callee, args, argTypes⟩ := c'
      cases callee with
      | value f => simp [frzOp] at hz
      | invoke r m => simp [frzOp] at hz
      | builtin b => cases b <;> first | (simp [nOp] at hn; done) | (simp [frzOp] at hz; done)
  | same hx hz => cases op <;> first | (simp [zOp] at hz; done) | (simp [nOp] at hn; done)
  | eff _ hx hnn hz hss hnz =>
    refine .eff _ _ ?_ hnn hz hss hnz
    cases op <;> simp only [aEff] at hx ⊢ <;> first | (cases hx; done) | (simp [nOp] at hn; done) | skip
    case build t parts =>
      obtain ⟨x0, hx0, hx1⟩ := Option.map_eq_some_iff.1 hx
      simp only [Prod.mk.injEq] at hx1
      obtain ⟨rfl, rfl⟩ := hx1
      rw [hx0]; rfl
    case buildSlice t len parts =>
      split at hx
      · split at hx
        · split at hx
          · split at hx
            · rename_i hl
              obtain ⟨cs, hcs, hx1⟩ := Option.map_eq_some_iff.1 hx
              simp only [Prod.mk.injEq] at hx1
              obtain ⟨rfl, rfl⟩ := hx1
              rw [if_pos hl, hcs]; rfl
            · cases hx
          · cases hx
        · cases hx
      · cases hx
    case call c =>
      obtain ⟨callee, args, argTypes⟩ := c
      cases callee with
      | value f => simp at hx
      | invoke r m => simp at hx
      | builtin b => cases b <;> first | (simp at hx; done) | (simp [nOp] at hn; done)
  | call fo args ty hop hc hcn =>
    simp only at hop; subst hop
    simp only [nOp, Bool.and_eq_true, Bool.not_eq_true'] at hn
    have h0 := hcn.resolve_left (by rw [hn.2]; simp)
    exact .call _ fo args ty rfl (hc.anywhere h0.2) hcn
  | callTo _ fo args ty hop hc => simp only at hop; subst hop; simp [nOp, hc] at hn
  | mk _ fo args ty hop hc => simp only at hop; subst hop; simp [nOp, hc] at hn
  | yield _ fo args ty yv y hop _ hc => simp only at hop; subst hop; simp [nOp, hc] at hn
def SP (D : Nat → Bool) (h h2 : List AObj) : Prop := ∀ (i : Nat) (o : AObj), h[i]? = some o → ∃ o', h2[i]? = some o' ∧ o'.cells.length = o.cells.length ∧ (D i = false → o' = o)
theorem SP.refl (D : Nat → Bool) (h : List AObj) : SP D h h := fun _ o ho => ⟨o, ho, rfl, fun _ => rfl⟩
theorem SP.trans {D : Nat → Bool} {h h2 h3 : List AObj} (a : SP D h h2) (b : SP D h2 h3) : SP D h h3 := fun i o ho => by
  obtain ⟨o', h1, h4, h7⟩ := a i o ho
  obtain ⟨o'', h5, h6, h8⟩ := b i o' h1
  exact ⟨o'', h5, by omega, fun hd => (h8 hd).trans (h7 hd)⟩
theorem SP.of_pre {D : Nat → Bool} {h h2 : List AObj} (a : Pre h h2) : SP D h h2 := fun i o ho => ⟨o, a i o ho, rfl, fun _ => rfl⟩
theorem OpR.st {o : Oper} {ρ : Operand → AVal} {v : AVal} {h' : List AObj} (hR : OpR P c o ρ h v h') (hs : stOp c o.op = true) : SP c.D h h' ∧ SP c.D h' h := by
  obtain ⟨dst, op, type, pos, after, guard⟩ := o
  cases op <;> first | (simp [stOp] at hs; done) | skip
  case store t p x =>
    cases hR with
    | pure hx _ => simp [aPure] at hx
    | frz hx hz => simp [frzOp] at hz
    | call fo args ty hop hc => cases hop
    | callTo _ fo args ty hop hc => cases hop
    | mk _ fo args ty hop hc => cases hop
    | yield _ fo args ty yv y hop _ hc => cases hop
    | same hx hz => exact ⟨SP.refl _ _, SP.refl _ _⟩
    | eff _ hx _ _ hst _ =>
      simp only [stOp, Bool.not_eq_true'] at hs
      simp only [stOk, hs, Bool.false_or] at hst
      simp only [aEff] at hx
      obtain ⟨h0, hx0, hx1⟩ := Option.map_eq_some_iff.1 hx
      simp only [Prod.mk.injEq] at hx1
      obtain ⟨_, rfl⟩ := hx1
      unfold aStore at hx0
      split at hx0
      · rename_i id off ext vs _ hpid _
        rw [hpid] at hst
        simp only [okS] at hst
        split at hx0
        · rename_i o ho
          split at hx0
          · rename_i hc
            obtain ⟨c1, c2, c3, c4⟩ := hc
            cases hx0
            have hl := splice_length o.cells off vs (by omega)
            have hid := (List.getElem?_eq_some_iff.1 ho).1
            constructor
            · intro i oi hi
              by_cases hii : id = i
              · subst hii
                rw [ho] at hi; cases hi
                exact ⟨⟨o.ty, o.es, splice o.cells off vs⟩, by simp [hid], hl, fun hd => by rw [hst] at hd; cases hd⟩
              · exact ⟨oi, by rw [List.getElem?_set_ne hii]; exact hi, rfl, fun _ => rfl⟩
            · intro i oi hi
              by_cases hii : id = i
              · subst hii
                simp [hid] at hi; subst hi
                exact ⟨o, ho, hl.symm, fun hd => by rw [hst] at hd; cases hd⟩
              · rw [List.getElem?_set_ne hii] at hi
                exact ⟨oi, hi, rfl, fun _ => rfl⟩
          · cases hx0
        · cases hx0
      · cases hx0
def WD (D : Nat → Bool) (h h' : List AObj) : Prop := h.length ≤ h'.length ∧ ∀ id, id < h.length → D id = false → h'[id]? = h[id]?
theorem WD.refl (D : Nat → Bool) (h : List AObj) : WD D h h := ⟨Nat.le_refl _, fun _ _ _ => rfl⟩
theorem WD.trans {D : Nat → Bool} {h h2 h3 : List AObj} (a : WD D h h2) (b : WD D h2 h3) : WD D h h3 :=
  ⟨Nat.le_trans a.1 b.1, fun id hi hd => by rw [b.2 id (Nat.lt_of_lt_of_le hi a.1) hd, a.2 id hi hd]⟩
theorem WD.app (D : Nat → Bool) (h y : List AObj) : WD D h (h ++ y) := ⟨by simp, fun id hi _ => List.getElem?_append_left hi⟩
theorem WD.set {D : Nat → Bool} {h : List AObj} {k : Nat} {o : AObj} (hk : D k = true) : WD D h (h.set k o) := ⟨by simp, fun id hi hd => by rw [List.getElem?_set_ne]; rintro rfl; rw [hk] at hd; cases hd⟩
theorem aAppend_wd {D : Nat → Bool} {t : TypeId} {s x v : AVal} {h' : List AObj} (hs : okA D s = true) (hx : aAppend P t h s x = some (v, h')) : WD D h h' := by
  unfold aAppend at hx
  split at hx
  · split at hx
    · split at hx
      · split at hx
        · split at hx
          · split at hx
            · simp only [Option.some.injEq, Prod.mk.injEq] at hx; rw [← hx.2]; exact WD.app _ _ _
            · split at hx
              · simp only [Option.some.injEq, Prod.mk.injEq] at hx; rw [← hx.2]; exact WD.app _ _ _
              · cases hx
          · split at hx
            · simp only [Option.some.injEq, Prod.mk.injEq] at hx; rw [← hx.2]; exact WD.refl _ _
            · split at hx
              · split at hx
                · simp only [Option.some.injEq, Prod.mk.injEq] at hx; rw [← hx.2]; exact WD.set hs
                · cases hx
              · cases hx
          · split at hx
            · simp only [Option.some.injEq, Prod.mk.injEq] at hx; rw [← hx.2]; exact WD.refl _ _
            · split at hx
              · simp only [Option.some.injEq, Prod.mk.injEq] at hx; rw [← hx.2]; exact WD.app _ _ _
              · cases hx
          · split at hx
            · split at hx
              · simp only [Option.some.injEq, Prod.mk.injEq] at hx; rw [← hx.2]; exact WD.set hs
              · split at hx
                · simp only [Option.some.injEq, Prod.mk.injEq] at hx; rw [← hx.2]; exact WD.set hs
                · cases hx
            · cases hx
          · cases hx
        · cases hx
      · cases hx
    · cases hx
  · cases hx
theorem OpR.wd {o : Oper} {ρ : Operand → AVal} {v : AVal} {h' : List AObj} (hR : OpR P c o ρ h v h') (hs : wOp c o.op = true) : WD c.D h h' := by
  by_cases ha : alOp c o.op = true
  · obtain ⟨y, rfl⟩ := hR.al ha
    exact WD.app _ _ _
  by_cases hst : stOp c o.op = true
  · have hsp := (hR.st hst)
    refine ⟨?_, fun id hi hd => ?_⟩
    · rcases Nat.lt_or_ge h'.length h.length with hl | hl
      · obtain ⟨o', h1, _⟩ := hsp.1 h'.length (h[h'.length]) (by simp [hl])
        have := (List.getElem?_eq_some_iff.1 h1).1
        omega
      · exact hl
    · obtain ⟨o', h1, _, h3⟩ := hsp.1 id h[id] (by simp [hi])
      rw [h1, h3 hd]; simp [hi]
  obtain ⟨dst, op, type, pos, after, guard⟩ := o
  simp only [wOp, ha, hst, Bool.false_or] at hs
  cases op <;> first | (simp at hs; done) | skip
  case call c' =>
    obtain ⟨callee, args, argTypes⟩ := c'
    cases callee with
    | value f => simp at hs
    | invoke r m => simp at hs
    | builtin b =>
      cases b <;> first | (simp at hs; done) | skip
      simp only at hs
      cases hR with
      | pure hx _ => exact WD.refl _ _
      | frz hx hz => exact WD.refl _ _
      | same hx hz => exact WD.refl _ _
      | call fo args ty hop hc => cases hop
      | callTo _ fo args ty hop hc => cases hop
      | mk _ fo args ty hop hc => cases hop
      | yield _ fo args ty yv y hop _ hc => cases hop
      | eff _ hx _ _ hst _ =>
        split at hs
        · rename_i x0 hx0
          simp only [stOk, hx0, hs, Bool.not_true, Bool.false_or] at hst
          simp only [aEff] at hx
          split at hx
          · rename_i s1 y1 t1 t1' hl ht
            split at hx
            · have : ρ x0 = s1 := by
                match hal : args.toList, hl with
                | [], hl => simp at hl
                | a0 :: r, hl =>
                  have h0 : args[0]? = some a0 := by rw [← Array.getElem?_toList, hal]; rfl
                  rw [h0] at hx0; cases hx0
                  simp at hl; exact hl.1
              rw [this] at hst
              exact aAppend_wd hst hx
            · obtain ⟨y, rfl⟩ := aApZ_al hx
              exact WD.app _ _ _
          · cases hx
        · cases hs
theorem OpR.live {H : List AObj} {o : Oper} {ρ : Operand → AVal} {v : AVal} {h' : List AObj} {ev : Operand → Value} {W0 : World} {ok0 : Nat → Prop} {β : Nat → Nat × Nat} {w : World} (hR : OpR P c o ρ h v h') (hl : lOp c o.op = true) (hv : ∀ x, VR W0 ok0 β H w (ρ x) (ev x))
    (hag : ∀ id ob ob', c.D id = false → h[id]? = some ob → H[id]? = some ob' → ob'.es ≠ 0 → ob' = ob) : OpR P c o ρ H v H := by
  have key : ∀ x id off ext, ρ x = .ptr id off ext → c.D id = false → ∀ cs, cellsAt h id ext = some cs → cellsAt H id ext = some cs := by
    intro x id off ext hx hd cs hcs
    obtain ⟨ob, ho, rfl, hle⟩ := cellsAt_some hcs
    have h1 := hv x
    rw [hx] at h1
    generalize ev x = u at h1
    cases h1 with
    | ptr _ _ _ l a hll he hlv =>
      have hll' : lens H id = some l := hll
      obtain ⟨ob', g1, g2, g3⟩ := lens_live hll'
      have := hag id ob ob' hd ho g1 g2
      subst this
      simp [cellsAt, g1, hle]
  obtain ⟨dst, op, type, pos, after, guard⟩ := o
  cases op <;> first | (simp [lOp] at hl; done) | skip
  case load t a =>
    simp only [lOp] at hl
    cases hR with
    | frz hx hz => simp [frzOp] at hz
    | same hx hz => simp [zOp] at hz
    | eff _ hx => simp [aEff] at hx
    | call fo args ty hop hc => cases hop
    | callTo _ fo args ty hop hc => cases hop
    | mk _ fo args ty hop hc => cases hop
    | yield _ fo args ty yv y hop _ hc => cases hop
    | pure hx hld =>
      refine .pure _ ?_ hld
      simp only [ldOk, hl, Bool.not_true, Bool.false_or, Bool.and_eq_true] at hld
      replace hld := hld.2
      simp only [aPure] at hx ⊢
      have : pview H (ρ a) = pview h (ρ a) := by
        have hk := key a
        generalize ρ a = x at hld hx hk
        cases x <;> simp [okL] at hld <;> try rfl
        rename_i id off ext
        cases hv : pview h (.ptr id off ext) with
        | none => rw [hv] at hx; simp at hx
        | some cs =>
          obtain ⟨cs', hc, rfl⟩ := Option.map_eq_some_iff.1 hv
          simp [pview, hk _ _ _ rfl hld _ hc]
      rw [this]; exact hx
  case fieldAddr sT y f =>
    simp only [lOp] at hl
    cases hR with
    | frz hx hz => simp [frzOp] at hz
    | same hx hz => simp [zOp] at hz
    | eff _ hx => simp [aEff] at hx
    | call fo args ty hop hc => cases hop
    | callTo _ fo args ty hop hc => cases hop
    | mk _ fo args ty hop hc => cases hop
    | yield _ fo args ty yv y hop _ hc => cases hop
    | pure hx hld =>
      refine .pure _ ?_ hld
      simp only [ldOk, hl, Bool.not_true, Bool.false_or, Bool.and_eq_true] at hld
      replace hld := hld.2
      simp only [aPure] at hx ⊢
      have hk := key y
      generalize ρ y = x at hld hx hk
      unfold aField at hx ⊢
      split at hx
      · split at hx
        · split at hx
          · split at hx
            · cases hx
            · rename_i hsz
              rw [if_neg hsz]
              split at hx
              · exact hx
              · split at hx
                · rename_i id off ext hlv
                  obtain ⟨cs, hcs⟩ := Option.isSome_iff_exists.1 hlv
                  rw [if_pos (by rw [hk _ _ _ rfl (by simpa [okL] using hld) cs hcs]; rfl)]; exact hx
                · cases hx
              · cases hx
          · cases hx
        · cases hx
      · cases hx
  case slice t y lo hi mx =>
    obtain _ | m := mx
    rotate_left
    · simp [lOp] at hl
    simp only [lOp] at hl
    cases hR with
    | frz hx hz => simp [frzOp] at hz
    | same hx hz => simp [zOp] at hz
    | pure hx _ => simp [aPure] at hx
    | call fo args ty hop hc => cases hop
    | callTo _ fo args ty hop hc => cases hop
    | mk _ fo args ty hop hc => cases hop
    | yield _ fo args ty yv y hop _ hc => cases hop
    | eff _ hx hnn hz hss hnz =>
      refine .eff _ _ ?_ hnn hz hss hnz
      simp only [stOk, hl, Bool.not_true, Bool.false_or] at hss
      simp only [aEff] at hx ⊢
      obtain ⟨x0, hx0, hx1⟩ := Option.map_eq_some_iff.1 hx
      simp only [Prod.mk.injEq] at hx1
      obtain ⟨rfl, _⟩ := hx1
      have hsv : sview H (ρ y) = sview h (ρ y) := by
        generalize ρ y = q at hss
        cases q <;> first | rfl | (simp [noObj] at hss; done)
      have : aSlice P t H (ρ y) (lo.map ρ) (hi.map ρ) none = some x0 := aSlice_mv (fun n cs hv => ⟨cs, by rw [hsv]; exact hv⟩) (fun id off ext he _ => by
        rw [he] at hss; simp [noObj] at hss) hx0
      rw [this]; rfl
theorem live_sp {D : Nat → Bool} (hp : SP D h h2) {id ext : Nat} (hs : (cellsAt h id ext).isSome = true) : (cellsAt h2 id ext).isSome = true := by
  obtain ⟨cs, hcs⟩ := Option.isSome_iff_exists.1 hs
  obtain ⟨o, ho, rfl, hl⟩ := cellsAt_some hcs
  obtain ⟨o', h1, h3, _⟩ := hp id o ho
  simp [cellsAt, h1, h3, hl]
theorem len_sp {D : Nat → Bool} (hp : SP D h h2) {x : AVal} {n : Nat} {cs : List AVal} (hv : sview h x = some (n, cs)) : ∃ cs', sview h2 x = some (n, cs') := by
  unfold sview at hv ⊢
  split at hv
  · cases hv; exact ⟨_, rfl⟩
  · cases hv; exact ⟨_, rfl⟩
  · cases hv; exact ⟨_, rfl⟩
  · cases hv; exact ⟨_, rfl⟩
  · rename_i id off n' ext
    obtain ⟨cs1, hc, he⟩ := Option.map_eq_some_iff.1 hv
    cases he
    have := live_sp hp (id := id) (ext := ext) (by rw [hc]; rfl)
    obtain ⟨cs2, h3⟩ := Option.isSome_iff_exists.1 this
    exact ⟨cs2.drop off, by simp [h3]⟩
  · rename_i id off n' ext
    obtain ⟨cs1, hc, he⟩ := Option.map_eq_some_iff.1 hv
    cases he
    have := live_sp hp (id := id) (ext := ext) (by rw [hc]; rfl)
    obtain ⟨cs2, h3⟩ := Option.isSome_iff_exists.1 this
    exact ⟨cs2.drop off, by simp [h3]⟩
  · cases hv
theorem OpR.sp {o : Oper} {ρ : Operand → AVal} {v : AVal} {h' : List AObj} (hR : OpR P c o ρ h v h') (hs : sOp c o.op = true) (hp : SP c.D h h2) : OpR P c o ρ h2 v h2 := by
  obtain ⟨dst, op, type, pos, after, guard⟩ := o
  cases hR with
  | frz hx hz =>
    cases op <;> first | (simp [sOp] at hs; done) | (simp [frzOp] at hz; done) | skip
    case call c' =>
      obtain ⟨callee, args, argTypes⟩ := c'
      cases callee with
      | value f => simp [sOp] at hs
      | invoke r m => simp [sOp] at hs
      | builtin b => cases b <;> first | (simp [sOp] at hs; done) | (simp [frzOp] at hz; done)
  | call fo args ty hop hc => simp only at hop; subst hop; simp [sOp] at hs
  | callTo _ fo args ty hop hc => simp only at hop; subst hop; simp [sOp] at hs
  | mk _ fo args ty hop hc => simp only at hop; subst hop; simp [sOp] at hs
  | yield _ fo args ty yv y hop _ hc => simp only at hop; subst hop; simp [sOp] at hs
  | pure hx hl =>
    refine .pure _ ?_ hl
    cases op <;> first | (simp [sOp] at hs; done) | skip
    case load t a =>
      simp only [sOp] at hs
      simp only [ldOk, hs, Bool.not_true, Bool.false_or, Bool.and_eq_true] at hl
      replace hl := hl.2
      simp only [aPure] at hx ⊢
      have : pview h2 (ρ a) = pview h (ρ a) := by
        generalize ρ a = x at hl hx
        cases x <;> simp [okL] at hl <;> try rfl
        rename_i id off ext
        cases hv : pview h (.ptr id off ext) with
        | none => rw [hv] at hx; simp at hx
        | some cs =>
          obtain ⟨cs', hc, rfl⟩ := Option.map_eq_some_iff.1 hv
          obtain ⟨o, ho, rfl, hle⟩ := cellsAt_some hc
          obtain ⟨o', h1, h3, h4⟩ := hp id o ho
          have := h4 hl
          subst this
          simp [pview, cellsAt, h1, hle]
      rw [this]; exact hx
    case nilCheck y =>
      simp only [aPure] at hx ⊢
      split at hx
      · exact hx
      · split at hx
        · rename_i hl; rw [if_pos (live_sp hp hl)]; exact hx
        · cases hx
      · exact hx
      · cases hx
    case fieldAddr s y f =>
      simp only [aPure] at hx ⊢
      unfold aField at hx ⊢
      split at hx
      · split at hx
        · split at hx
          · split at hx
            · cases hx
            · rename_i hsz
              rw [if_neg hsz]
              split at hx
              · exact hx
              · split at hx
                · rename_i hl; rw [if_pos (live_sp hp hl)]; exact hx
                · cases hx
              · cases hx
          · cases hx
        · cases hx
      · cases hx
    case indexAddr t y i =>
      simp only [aPure] at hx ⊢
      unfold aIdx at hx ⊢
      split at hx
      · split at hx
        · split at hx
          · split at hx
            · exact hx
            · exact hx
            · split at hx
              · rename_i hl; rw [if_pos ⟨hl.1, hl.2.1, live_sp hp hl.2.2⟩]; exact hx
              · cases hx
            · cases hx
          · cases hx
        · split at hx
          · split at hx
            · exact hx
            · split at hx
              · rename_i hl; rw [if_pos ⟨hl.1, hl.2.1, live_sp hp hl.2.2⟩]; exact hx
              · cases hx
            · cases hx
          · cases hx
      · cases hx
    case slice t x lo hi mx => simp [aPure] at hx
    case call c' =>
      obtain ⟨callee, args, argTypes⟩ := c'
      cases callee with
      | value f => simp [sOp] at hs
      | invoke r m => simp [sOp] at hs
      | builtin b =>
        cases b <;> first | (simp [sOp] at hs; done) | skip
        simp only [aPure] at hx ⊢
        split at hx
        · split at hx
          · rename_i n cs t hv ht
            obtain ⟨cs', hv'⟩ := len_sp hp hv
            rw [hv', ht]; exact hx
          · cases hx
        all_goals first | (rename_i h1; cases h1; done) | exact hx | (rename_i h1 _; cases h1; done)
  | same hx hz => cases op <;> first | (simp [zOp] at hz; done) | (simp [sOp] at hs; done)
  | eff _ hx hnn hz hss hnz =>
    refine .eff _ _ ?_ hnn hz hss hnz
    cases op <;> first | (simp [sOp] at hs; done) | skip
    case load => simp [aEff] at hx
    case nilCheck => simp [aEff] at hx
    case fieldAddr => simp [aEff] at hx
    case indexAddr => simp [aEff] at hx
    case slice t y lo hi mx =>
      obtain _ | m := mx
      rotate_left
      · simp [sOp] at hs
      simp only [aEff] at hx ⊢
      obtain ⟨x0, hx0, hx1⟩ := Option.map_eq_some_iff.1 hx
      simp only [Prod.mk.injEq] at hx1
      obtain ⟨rfl, _⟩ := hx1
      have : aSlice P t h2 (ρ y) (lo.map ρ) (hi.map ρ) none = some x0 := aSlice_mv (fun n cs hv => len_sp hp hv) (fun id off ext _ hi => live_sp hp hi) hx0
      rw [this]; rfl
    case call c' =>
      obtain ⟨callee, args, argTypes⟩ := c'
      cases callee with
      | value f => simp [sOp] at hs
      | invoke r m => simp [sOp] at hs
      | builtin b => cases b <;> first | (simp [sOp] at hs; done) | (simp [aEff] at hx; done)
theorem eff_not_s {op : Op} (he : effOp c op = true) : sOp c op = false := by
  cases op <;> first | rfl | (simp [effOp] at he; done) | skip
  case slice t y lo hi mx => cases mx with
    | none => simp [effOp] at he
    | some m => rfl
  case call c' =>
    obtain ⟨callee, args, argTypes⟩ := c'
    cases callee with
    | value f => rfl
    | invoke r m => rfl
    | builtin b => cases b <;> first | rfl | (simp [effOp] at he; done)
theorem nOp_idle {op : Op} (hn : nOp c op = true) : effOp c op = false := by
  cases op <;> first | rfl | (simp [nOp] at hn; done) | skip
  case call c =>
    obtain ⟨callee, args, argTypes⟩ := c
    cases callee with
    | value f => simp only [nOp, Bool.and_eq_true, Bool.not_eq_true'] at hn; exact hn.1
    | invoke r m => rfl
    | builtin b => cases b <;> first | rfl | (simp [nOp] at hn; done)
end
end Go.AW
namespace Go.AW
open Go Go.RowKit
theorem orB_bit {B : Array Nat} {i : Nat} : ∀ (l : List Edge) (s0 : Nat), (l.foldl (fun s e => if Region.binds .any e then s ||| (2 ^ e.on ||| B.getD e.on 0) else s) s0).testBit i = true → s0.testBit i = true ∨ ∃ e ∈ l, Region.binds .any e = true ∧ (e.on = i ∨ (B.getD e.on 0).testBit i = true) := by
  intro l
  induction l with
  | nil => intro s0 h; exact .inl h
  | cons e l ih =>
    intro s0 h
    simp only [List.foldl_cons] at h
    rcases ih _ h with h1 | ⟨e', he', h2⟩
    · split at h1
      · rename_i hb
        simp only [Nat.testBit_or, Bool.or_eq_true, Nat.testBit_two_pow, decide_eq_true_eq] at h1
        rcases h1 with h1 | h1 | h1
        · exact .inl h1
        · exact .inr ⟨e, by simp, hb, .inl h1⟩
        · exact .inr ⟨e, by simp, hb, .inr h1⟩
      · exact .inl h1
    · exact .inr ⟨e', by simp [he'], h2⟩
def evF (f : Nat → AVal) : Operand → AVal
  | .tmp t => f t
  | .const v => ofConst v
  | .global g => match lookT tabs g with
    | some cs => .spot false (cs.map .val)
    | none => .val (.pointer (some ⟨g, 0, none⟩))
  | .func f => .func (.func f) [] []
theorem ev_evF (env : List (Nat × AVal)) : ev env = evF (look env) := by
  funext x; cases x <;> rfl
def dstOf (ops : Array Oper) (i : Nat) : Option Nat := (ops[i]?).bind (·.dst)
def envF (ops : Array Oper) (val : Nat → AVal) (e0 : Nat → AVal) (L : Nat → Bool) : Nat → (Nat → AVal)
  | 0 => e0
  | i + 1 => fun t => if L i = true ∧ dstOf ops i = some t then val i else envF ops val e0 L i t
def OpAt (P : Program) (c : EffF) (ops : Array Oper) (val : Nat → AVal) (hp : Nat → List AObj) (env : Nat → AVal) (i : Nat) (o : Oper) : Prop :=
  (OpR P c o (evF env) (hp i) (val i) (hp (i + 1)) ∧ (o.guard = none ∨ ∃ j want t, o.guard = some (j, want) ∧ dstOf ops j = some t ∧ env t = .val (.bool want))) ∨
  (val i = .val undef ∧ hp (i + 1) = hp i ∧ ∃ j want t, o.guard = some (j, want) ∧ dstOf ops j = some t ∧ ((∃ b, env t = .val (.bool b) ∧ b ≠ want) ∨ ∃ us, env t = .val (.tuple us)))
section
variable {P : Program} {W0 : World} {ok0 A : Nat → Prop} {N : Nat}
theorem awpList_run [c : EffF] {ops : Array Oper} {Qs : ASt → Prop} : ∀ (l : List Oper) (k : Nat) (s : ASt) (val0 : Nat → AVal) (hp0 : Nat → List AObj) (e0 : Nat → AVal), (∀ j, l[j]? = ops[k + j]?) → awpList P ops.toList Qs l s →
    hp0 k = s.heap → (∀ t, look s.env t = envF ops val0 e0 (fun _ => true) k t) →
    (∀ i o, i < k → ops[i]? = some o → OpAt P c ops val0 hp0 (envF ops val0 e0 (fun _ => true) i) i o) →
    ∃ val hp, hp 0 = (if k = 0 then s.heap else hp0 0) ∧ (∀ i o, i < k + l.length → ops[i]? = some o → OpAt P c ops val hp (envF ops val e0 (fun _ => true) i) i o) ∧
      ∃ s', Qs s' ∧ s'.heap = hp (k + l.length) ∧ ∀ t, look s'.env t = envF ops val e0 (fun _ => true) (k + l.length) t := by
  intro l
  induction l with
  | nil =>
    intro k s val0 hp0 e0 _ h hh henv hat
    refine ⟨val0, hp0, ?_, by simpa using hat, s, h, by simpa using hh.symm, by simpa using henv⟩
    split
    · rename_i hk; subst hk; exact hh
    · rfl
  | cons o rest ih =>
    intro k s val0 hp0 e0 hl h hh henv hat
    have ho : ops[k]? = some o := by have := hl 0; simpa using this.symm
    have hl' : ∀ j, rest[j]? = ops[k + 1 + j]? := fun j => by have := hl (j + 1); simpa [Nat.add_assoc, Nat.add_comm 1 j] using this
    have step : ∀ v h', awpList P ops.toList Qs rest ⟨putA o.dst v s.env, h'⟩ → (∀ val hp, val k = v → hp k = s.heap → hp (k + 1) = h' → (∀ t, envF ops val e0 (fun _ => true) k t = look s.env t) → OpAt P c ops val hp (envF ops val e0 (fun _ => true) k) k o) →
        ∃ val hp, hp 0 = (if k = 0 then s.heap else hp0 0) ∧ (∀ i o, i < k + (rest.length + 1) → ops[i]? = some o → OpAt P c ops val hp (envF ops val e0 (fun _ => true) i) i o) ∧
      ∃ s', Qs s' ∧ s'.heap = hp (k + (rest.length + 1)) ∧ ∀ t, look s'.env t = envF ops val e0 (fun _ => true) (k + (rest.length + 1)) t := by
      intro v h' hrest hop
      let val1 : Nat → AVal := fun i => if i = k then v else val0 i
      let hp1 : Nat → List AObj := fun i => if i = k + 1 then h' else hp0 i
      have hsame : ∀ i, i ≤ k → envF ops val1 e0 (fun _ => true) i = envF ops val0 e0 (fun _ => true) i := by
        intro i
        induction i with
        | zero => intro _; rfl
        | succ i ihi =>
          intro hi
          funext t
          simp only [envF]
          rw [ihi (by omega)]
          have : val1 i = val0 i := by simp only [val1]; rw [if_neg (by omega)]
          rw [this]
      have hv1 : val1 k = v := by simp [val1]
      have hp1k : hp1 k = s.heap := by simp only [hp1]; rw [if_neg (by omega)]; exact hh
      have hp1k1 : hp1 (k + 1) = h' := by simp [hp1]
      obtain ⟨val, hp, g1, g2, g3⟩ := ih (k + 1) ⟨putA o.dst v s.env, h'⟩ val1 hp1 e0 hl' hrest hp1k1 (fun t => by
          simp only [look_putA, envF, dstOf, ho, Option.bind_some, true_and, hv1]
          split
          · rfl
          · rw [hsame k (Nat.le_refl _), henv])
        (fun i oi hi hoi => by
          rcases Nat.lt_or_ge i k with hik | hik
          · have := hat i oi hik hoi
            rw [hsame i (by omega)]
            have e1 : val1 i = val0 i := by simp only [val1]; rw [if_neg (by omega)]
            have e2 : hp1 i = hp0 i := by simp only [hp1]; rw [if_neg (by omega)]
            have e3 : hp1 (i + 1) = hp0 (i + 1) := by simp only [hp1]; rw [if_neg (by omega)]
            simpa only [OpAt, e1, e2, e3] using this
          · have : i = k := by omega
            subst this
            rw [ho] at hoi; cases hoi
            exact hop val1 hp1 hv1 hp1k hp1k1 (fun t => by rw [hsame _ (Nat.le_refl _), henv]))
      refine ⟨val, hp, ?_, ?_, ?_⟩
      · rw [g1, if_neg (by omega)]
        split
        · rename_i hk; subst hk; exact hp1k
        · rename_i hk; simp only [hp1]; rw [if_neg (by omega)]
      · have : k + 1 + rest.length = k + (rest.length + 1) := by omega
        rwa [this] at g2
      · have : k + 1 + rest.length = k + (rest.length + 1) := by omega
        rwa [this] at g3
    have runs : (o.guard = none ∨ ∃ j want t, o.guard = some (j, want) ∧ dstOf ops j = some t ∧ look s.env t = .val (.bool want)) → opK P o (ev s.env) s.heap (fun v h' => awpList P ops.toList Qs rest ⟨putA o.dst v s.env, h'⟩) → (∃ val hp, hp 0 = (if k = 0 then s.heap else hp0 0) ∧ (∀ i o, i < k + (rest.length + 1) → ops[i]? = some o → OpAt P c ops val hp (envF ops val e0 (fun _ => true) i) i o) ∧
      ∃ s', Qs s' ∧ s'.heap = hp (k + (rest.length + 1)) ∧ ∀ t, look s'.env t = envF ops val e0 (fun _ => true) (k + (rest.length + 1)) t) := fun hg hk => by
      obtain ⟨v, h', hR, hK⟩ := opK_R hk
      refine step v h' hK fun val hp e1 e2 e3 e4 => .inl ⟨?_, ?_⟩
      · rw [e1, e2, e3, funext e4, ← ev_evF]; exact hR
      · rcases hg with hg | ⟨j, want, t, a1, a2, a3⟩
        · exact .inl hg
        · exact .inr ⟨j, want, t, a1, a2, by rw [e4]; exact a3⟩
    simp only [List.length_cons]
    simp only [awpList] at h
    split at h
    · rename_i hg; exact runs (.inl hg) h
    · rename_i j want hg
      split at h
      · rename_i t ht
        have ht' : dstOf ops j = some t := by simpa [dstOf] using ht
        split at h
        · rename_i b hb
          by_cases hbw : b = want
          · exact runs (.inr ⟨j, want, t, hg, ht', by rw [hb, hbw]⟩) (h.1 hbw)
          · exact step _ _ (h.2 hbw) fun val hp e1 e2 e3 e4 => .inr ⟨e1, by rw [e2, e3], j, want, t, hg, ht', .inl ⟨b, by rw [e4]; exact hb, hbw⟩⟩
        · rename_i us hb
          exact step _ _ h fun val hp e1 e2 e3 e4 => .inr ⟨e1, by rw [e2, e3], j, want, t, hg, ht', .inr ⟨us, by rw [e4]; exact hb⟩⟩
        · exact h.elim
      · exact h.elim
end
end Go.AW
namespace Go.AW
open Go Go.RowKit
section
variable {P : Program} {cf : EffF} {B : Bs} {W0 : World} {ok0 A : Nat → Prop} {N : Nat}
theorem map_ev {ρ ρ' : Operand → AVal} {l : List Operand} (h : ∀ x ∈ l, ρ x = ρ' x) : l.map ρ = l.map ρ' := List.map_congr_left h
theorem aPure_congr {o : Oper} {ρ ρ' : Operand → AVal} {h : List AObj} (hρ : ∀ x ∈ o.op.operands, ρ x = ρ' x) : aPure P o ρ h = aPure P o ρ' h := by
  obtain ⟨dst, op, type, pos, after, guard⟩ := o
  cases op <;> simp only [Op.operands] at hρ <;> simp only [aPure]
  case makeFunc fn first captured =>
    rw [map_ev (ρ := ρ) (ρ' := ρ') (l := first.toList) (fun x hx => hρ x (by simp at hx; simp [hx])), map_ev (ρ := ρ) (ρ' := ρ') (l := captured.toList) (fun x hx => hρ x (by simp at hx; simp [hx]))]
  case call c =>
    obtain ⟨callee, args, argTypes⟩ := c
    cases callee with
    | value f => rfl
    | invoke r m => rfl
    | builtin b =>
      have : args.toList.map ρ = args.toList.map ρ' := map_ev fun x hx => hρ x (by simp at hx; simp [Call.operands, hx])
      simp only [this]
  all_goals first | rfl | (simp_all; done)
theorem aEff_congr {o : Oper} {ρ ρ' : Operand → AVal} {h : List AObj} (hρ : ∀ x ∈ o.op.operands, ρ x = ρ' x) : aEff P o ρ h = aEff P o ρ' h := by
  obtain ⟨dst, op, type, pos, after, guard⟩ := o
  have pairs : ∀ ps : Array (Nat × Operand), (∀ x ∈ (ps.toList.map (·.2)), ρ x = ρ' x) → (ps.toList.map fun (i, x) => (i, ρ x)) = (ps.toList.map fun (i, x) => (i, ρ' x)) := fun ps hp =>
    List.map_congr_left fun p hm => by
      obtain ⟨i, x⟩ := p
      simp only [hp x (List.mem_map.2 ⟨(i, x), hm, rfl⟩)]
  cases op <;> simp only [Op.operands] at hρ <;> simp only [aEff]
  case build t ps => rw [pairs ps fun x hx => hρ x (by simpa using hx)]
  case buildSlice t n ps =>
    have hall : (ps.toList.all fun p => (ρ p.2).one) = (ps.toList.all fun p => (ρ' p.2).one) := by
      rw [Bool.eq_iff_iff, List.all_eq_true, List.all_eq_true]
      have : ∀ p ∈ ps.toList, ρ p.2 = ρ' p.2 := fun p hp => hρ p.2 (by simp at hp ⊢; exact ⟨p.1, hp⟩)
      exact ⟨fun h p hp => by rw [← this p hp]; exact h p hp, fun h p hp => by rw [this p hp]; exact h p hp⟩
    rw [pairs ps fun x hx => hρ x (by simpa using hx), hall]
  case slice t x lo hi mx => cases lo <;> cases hi <;> cases mx <;> simp_all
  case call c =>
    obtain ⟨callee, args, argTypes⟩ := c
    cases callee with
    | value f => rfl
    | invoke r m => rfl
    | builtin b =>
      have : args.toList.map ρ = args.toList.map ρ' := map_ev fun x hx => hρ x (by simp at hx; simp [Call.operands, hx])
      cases b <;> first | rfl | simp only [this]
  all_goals first | rfl | (simp_all; done)
theorem appNew_congr {o : Oper} {ρ ρ' : Operand → AVal} (hρ : ∀ x ∈ o.op.operands, ρ x = ρ' x) : appNew cf o ρ = appNew cf o ρ' := by
  unfold appNew
  split
  · rename_i args ty ho
    rw [ho] at hρ
    simp only [Op.operands, Call.operands] at hρ
    split
    · rename_i x hx
      have hm : x ∈ args := by
        obtain ⟨h1, h2⟩ := Array.getElem?_eq_some_iff.1 hx
        rw [← h2]; exact Array.getElem_mem h1
      rw [hρ x (by simp [hm])]
    · rfl
  · rfl
theorem aFrzO_congr {o : Oper} {ρ ρ' : Operand → AVal} {h : List AObj} (hρ : ∀ x ∈ o.op.operands, ρ x = ρ' x) : aFrzO P o ρ h = aFrzO P o ρ' h := by
  unfold aFrzO
  split
  · rename_i e y ho
    rw [ho] at hρ
    rw [hρ y (by simp [Op.operands])]
  · rename_i args ty ho
    rw [ho] at hρ
    simp only [Op.operands, Call.operands] at hρ
    have : args.toList.map ρ = args.toList.map ρ' := map_ev fun x hx => hρ x (by simp at hx; simp [hx])
    rw [this]
  · rfl
theorem ldOk_congr {o : Oper} {ρ ρ' : Operand → AVal} (hρ : ∀ x ∈ o.op.operands, ρ x = ρ' x) : ldOk cf o ρ = ldOk cf o ρ' := by
  unfold ldOk
  split
  · rename_i t a ho
    rw [ho] at hρ
    rw [hρ a (by simp [Op.operands])]
  · rename_i t a f ho
    rw [ho] at hρ
    rw [hρ a (by simp [Op.operands])]
  · rename_i args ty ho
    rw [ho] at hρ
    cases h0 : args[0]? with
    | none => rfl
    | some x =>
      have hm : x ∈ args := Array.mem_of_getElem? h0
      simp only
      rw [hρ x (by simp [Op.operands, Call.operands, hm])]
  · rfl
theorem stOk_congr {o : Oper} {ρ ρ' : Operand → AVal} (hρ : ∀ x ∈ o.op.operands, ρ x = ρ' x) : stOk cf o ρ = stOk cf o ρ' := by
  unfold stOk
  split
  · rename_i t a v ho
    rw [ho] at hρ
    rw [hρ a (by simp [Op.operands])]
  · rename_i args ty ho
    rw [ho] at hρ
    simp only [Op.operands, Call.operands] at hρ
    split
    · rename_i x hx
      have hm : x ∈ args := by
        obtain ⟨h1, h2⟩ := Array.getElem?_eq_some_iff.1 hx
        rw [← h2]; exact Array.getElem_mem h1
      rw [hρ x (by simp [hm])]
    · rfl
  · rename_i t x lo hi ho
    rw [ho] at hρ
    rw [hρ x (by simp [Op.operands])]
  · rfl
theorem OpR.congr {o : Oper} {ρ ρ' : Operand → AVal} {h h' : List AObj} {v : AVal} (hρ : ∀ x ∈ o.op.operands, ρ x = ρ' x) (hR : OpR P cf o ρ h v h') : OpR P cf o ρ' h v h' := by
  cases hR with
  | pure hx hl => exact .pure _ (by rw [← aPure_congr hρ]; exact hx) (by rw [← ldOk_congr hρ]; exact hl)
  | same hx hz => exact .same _ (by rw [← aEff_congr hρ]; exact hx) hz
  | eff _ hx hn hz hs hnz => exact .eff _ _ (by rw [← aEff_congr hρ]; exact hx) (by rw [← appNew_congr hρ]; exact hn) hz (by rw [← stOk_congr hρ]; exact hs) hnz
  | frz hx hz => exact .frz _ (by rw [← aFrzO_congr hρ]; exact hx) hz
  | call fo args ty ho hc hcn =>
    rw [ho] at hρ
    simp only [Op.operands, Call.operands] at hρ
    rw [hρ fo (by simp), map_ev (ρ := ρ) (ρ' := ρ') (l := args.toList) (fun x hx => hρ x (by simp at hx; simp [hx]))] at hcn
    refine .call _ fo args ty ho ?_ hcn
    rw [← hρ fo (by simp), ← map_ev (ρ := ρ) (l := args.toList) (fun x hx => hρ x (by simp at hx; simp [hx]))]
    exact hc
  | mk _ fo args ty ho he hc hcn =>
    refine .mk _ _ fo args ty ho he ?_ hcn
    rw [ho] at hρ
    simp only [Op.operands, Call.operands] at hρ
    rw [← hρ fo (by simp), ← map_ev (ρ := ρ) (l := args.toList) (fun x hx => hρ x (by simp at hx; simp [hx]))]
    exact hc
  | callTo _ fo args ty ho he hc hcn =>
    refine .callTo _ _ fo args ty ho he ?_ hcn
    rw [ho] at hρ
    simp only [Op.operands, Call.operands] at hρ
    rw [← hρ fo (by simp), ← map_ev (ρ := ρ) (l := args.toList) (fun x hx => hρ x (by simp at hx; simp [hx]))]
    exact hc
  | yield _ fo args ty yv y ho hfo he hy hc hv hcn =>
    rw [ho] at hρ
    simp only [Op.operands, Call.operands] at hρ
    refine .yield _ _ fo args ty yv y ho (by rw [← hρ fo (by simp)]; exact hfo) he hy ?_ hv hcn
    rw [← map_ev (ρ := ρ) (l := args.toList) (fun x hx => hρ x (by simp at hx; simp [hx]))]
    exact hc
theorem envF_upto {ops : Array Oper} {val : Nat → AVal} {e0 : Nat → AVal} {L : Nat → Bool} {t i : Nat} (h : ∀ j, j < i → dstOf ops j = some t → L j = true) : ∀ n, n ≤ i → envF ops val e0 L n t = envF ops val e0 (fun _ => true) n t := by
  intro n
  induction n with
  | zero => intro _; rfl
  | succ n ih =>
    intro hn
    simp only [envF, true_and]
    by_cases hd : dstOf ops n = some t
    · rw [if_pos ⟨h n (by omega) hd, hd⟩, if_pos hd]
    · rw [if_neg (fun hc => hd hc.2), if_neg hd]; exact ih (by omega)
theorem envF_beyond {ops : Array Oper} {val : Nat → AVal} {e0 : Nat → AVal} {L : Nat → Bool} {t i : Nat} : ∀ n, (∀ j, i ≤ j → j < i + n → dstOf ops j = some t → L j = false) → envF ops val e0 L (i + n) t = envF ops val e0 L i t := by
  intro n
  induction n with
  | zero => intro _; rfl
  | succ n ih =>
    intro h
    show envF ops val e0 L (i + n + 1) t = _
    simp only [envF]
    rw [if_neg, ih (fun j h1 h2 => h j h1 (by omega))]
    rintro ⟨h1, h2⟩
    rw [h (i + n) (by omega) (by omega) h2] at h1
    cases h1
theorem envF_other {ops : Array Oper} {val : Nat → AVal} {e0 : Nat → AVal} {L L' : Nat → Bool} {t i : Nat} (hd : dstOf ops i ≠ some t) (hL : ∀ j, j ≠ i → L' j = L j) : ∀ n, envF ops val e0 L' n t = envF ops val e0 L n t := by
  intro n
  induction n with
  | zero => rfl
  | succ n ih =>
    simp only [envF]
    rw [ih]
    by_cases hn : n = i
    · subst hn
      rw [if_neg (fun hc => hd hc.2), if_neg (fun hc => hd hc.2)]
    · rw [hL n hn]
theorem drawOk_at {ops : Array Oper} (hB : drawOk cf ops = true) {j : Nat} {y : Oper} (hj : ops[j]? = some y) :
    (∀ e ∈ y.after, Region.binds .any e = true → e.on < j) ∧ (Region.before ops).getD j 0 = orB (Region.before ops) y.after.toList ∧
    (∀ i x, i < j → ops[i]? = some x → confl ops x y = true ∨ (effConfl cf x y = true ∧ alPair cf ops i j x y = false) → ((Region.before ops).getD j 0).testBit i = true) := by
  have hlt : j < ops.size := (Array.getElem?_eq_some_iff.1 hj).1
  simp only [drawOk] at hB
  have h1 := List.all_eq_true.1 hB j (by simpa using hlt)
  simp only [hj, Bool.and_eq_true] at h1
  obtain ⟨h1, _⟩ := h1
  simp only [drawAt, Bool.and_eq_true, beq_iff_eq] at h1
  obtain ⟨⟨h2, h3⟩, h4⟩ := h1
  refine ⟨fun e he hb => ?_, h3, fun i x hi hx hc => ?_⟩
  · have := List.all_eq_true.1 h2 e (by simpa using he)
    simpa [hb] using this
  · have := List.all_eq_true.1 h4 i (by simpa using hi)
    simp only [hx, Bool.or_eq_true, Bool.not_eq_true'] at this
    rcases this with h5 | h5
    · rcases hc with hc | hc <;> simp [hc] at h5
    · exact h5
theorem isAl_op {o : Oper} (ha : isAl cf o = true) : ((∃ e, o.op = .alloc e) ∨ (∃ t l k, o.op = .makeSlice t l k) ∨ ∃ fo args ty, o.op = .call { callee := .value fo, args := args, argTypes := ty } ∧ cf.b fo = true ∧ cf.n fo = true) ∧ o.guard = none := by
  unfold isAl at ha
  split at ha
  · rename_i e he; exact ⟨.inl ⟨e, he⟩, by simpa using ha⟩
  · rename_i t l k he; exact ⟨.inr (.inl ⟨t, l, k, he⟩), by simpa using ha⟩
  · rename_i fo args ty he
    simp only [Bool.and_eq_true, Option.isNone_iff_eq_none] at ha
    exact ⟨.inr (.inr ⟨fo, args, ty, he, ha.1.1, ha.1.2⟩), ha.2⟩
  · cases ha
theorem isAl_eff {o : Oper} (ha : isAl cf o = true) : effOp cf o.op = true := by
  rcases (isAl_op ha).1 with ⟨e, he⟩ | ⟨t, l, k, he⟩ | ⟨fo, args, ty, he, h1, h2⟩ <;> rw [he] <;> first | rfl | exact h1
theorem isAl_not_n {o : Oper} (ha : isAl cf o = true) : nOp cf o.op = false := by
  rcases (isAl_op ha).1 with ⟨e, he⟩ | ⟨t, l, k, he⟩ | ⟨fo, args, ty, he, h1, h2⟩ <;> rw [he] <;> first | rfl | simp [nOp, h1]
theorem eff_not_l {op : Op} (he : effOp cf op = true) : lOp cf op = false := by
  cases op <;> first | rfl | (simp [effOp] at he; done) | skip
  case slice t y lo hi mx => cases mx with
    | none => simp [effOp] at he
    | some m => rfl
theorem isAl_not_st {o : Oper} (ha : isAl cf o = true) : stOp cf o.op = false := by
  rcases (isAl_op ha).1 with ⟨e, he⟩ | ⟨t, l, k, he⟩ | ⟨fo, args, ty, he, h1, h2⟩ <;> rw [he] <;> rfl
theorem alPair_l {ops : Array Oper} {i j : Nat} {x y : Oper} (h : isAl cf x = false) : alPair cf ops i j x y = false := by simp [alPair, h]
theorem alPair_r {ops : Array Oper} {i j : Nat} {x y : Oper} (h : isAl cf y = false) : alPair cf ops i j x y = false := by simp [alPair, h]
theorem step_holes {β : Nat → Nat × Nat} {h : List AObj} {w : World} (hr : HR W0 ok0 A β h w) (hs : List AObj) (hh : ∀ o ∈ hs, o.es = 0) : Step W0 ok0 A β h w β (h ++ hs) w := by
  have hget : ∀ (i : Nat) (o : AObj), (h ++ hs)[i]? = some o → o.es ≠ 0 → h[i]? = some o := by
    intro i o hi hes
    rcases Nat.lt_or_ge i h.length with hl | hl
    · rwa [List.getElem?_append_left hl] at hi
    · rw [List.getElem?_append_right hl] at hi
      exact absurd (hh _ (List.mem_of_getElem? hi)) hes
  have hlens : lens (h ++ hs) = lens h := by
    funext i
    unfold lens
    rcases Nat.lt_or_ge i h.length with hl | hl
    · rw [List.getElem?_append_left hl]
    · rw [List.getElem?_append_right hl, List.getElem?_eq_none hl]
      cases hx : hs[i - h.length]? with
      | none => rfl
      | some o => simp [hh _ (List.mem_of_getElem? hx)]
  have hlive : ∀ i, live (h ++ hs) i → live h i := fun i ⟨o, h1, h2⟩ => ⟨o, hget i o h1 h2, h2⟩
  have hok : ∀ b, okIn W0 ok0 w β h b → okIn W0 ok0 w β (h ++ hs) b := fun b hb => ⟨hb.1, fun i ⟨oi, g1, g2, g3⟩ => hb.2.1 _ ⟨oi, hget i oi g1 g2, g2, g3⟩, hb.2.2⟩
  have hm : ∀ x v, VR W0 ok0 β h w x v → VR W0 ok0 β (h ++ hs) w x v := fun x v hx => VRel.mono hok (fun _ _ h => h) (fun _ _ => rfl) (fun id l hl => ⟨l, by rw [hlens]; exact hl, Nat.le_refl _, fun _ => rfl⟩) hx
  refine ⟨⟨fun i o ho hes => ?_, fun i j hi hj => hr.inj i j (hlive i hi) (hlive j hj), fun i hi => hr.own i (hlive i hi), hr.os, hr.tape, hr.output, hr.wsize, hr.block, fun p hp => ⟨hok _ (hr.tab p hp).1, (hr.tab p hp).2⟩⟩, hm, by simp, fun b hb => ⟨hok b hb, rfl⟩, Nat.le_refl _⟩
  obtain ⟨cur, c1, c2, c3, c4, c5, c6⟩ := hr.heap i o (hget i o ho hes) hes
  exact ⟨cur, c1, c2, c3, c4, c5, fun j hj => hm _ _ (c6 j hj)⟩
theorem al_R {o : Oper} (ha : isAl cf o = true) {ρ : Operand → AVal} {h h' : List AObj} {v : AVal} (hR : OpR P cf o ρ h v h') : aEff P o ρ h = some (v, h') ∨ ∃ fo args ty, o.op = .call { callee := .value fo, args := args, argTypes := ty } ∧ cf.b fo = true ∧ cf.n fo = true ∧ MkTo P (ρ fo) (args.toList.map ρ) h v h' := by
  have hop := (isAl_op ha).1
  obtain ⟨dst, op, type, pos, after, guard⟩ := o
  simp only at hop
  rcases hop with ⟨e, rfl⟩ | ⟨t, l, k, rfl⟩ | ⟨fo0, args0, ty0, rfl, hb0, hn0⟩
  iterate 2
    cases hR with
    | pure hx _ => simp [aPure] at hx
    | frz hx hz => simp [aFrzO] at hx
    | call fo args ty hop hc => simp at hop
    | callTo _ fo args ty hop _ hc => simp at hop
    | mk _ fo args ty hop _ hc => simp at hop
    | yield _ fo args ty yv y hop _ _ _ hc _ => simp at hop
    | same hx hz => simp [zOp] at hz
    | eff _ hx _ _ _ _ => exact .inl hx
  · cases hR with
    | pure hx _ => simp [aPure] at hx
    | frz hx hz => simp [aFrzO] at hx
    | call fo args ty hop hc hn => simp only [Op.call.injEq, Call.mk.injEq, Callee.value.injEq] at hop; rw [hop.1] at hn0 hb0; simp [hn0, hb0] at hn
    | callTo _ fo args ty hop _ hc hn => simp only [Op.call.injEq, Call.mk.injEq, Callee.value.injEq] at hop; rw [hop.1] at hn0; rw [hn0] at hn; cases hn
    | mk _ fo args ty hop hb hc hn => exact .inr ⟨fo, args, ty, hop, hb, hn, hc⟩
    | yield _ fo args ty yv y hop _ _ _ _ _ hn => simp only [Op.call.injEq, Call.mk.injEq, Callee.value.injEq] at hop; rw [hop.1] at hn0; rw [hn0] at hn; cases hn
    | same hx hz => simp [zOp] at hz
    | eff _ hx _ _ _ _ => simp [aEff] at hx
theorem rn_into_hole {β' : Nat → Nat × Nat} {H : List AObj} {w' : World} {ob : AObj} {k : Nat} {rn : Nat → AVal} (hrn : Rn rn) (hk : k < H.length) (hes : ob.es ≠ 0) {u : Value} (h : VR W0 ok0 β' (H ++ [ob]) w' (rn H.length) u) :
    VR W0 ok0 (fun i => if i = k then β' H.length else β' i) (H.set k ob) w' (rn k) u := by
  cases hrn with
  | ref off n ext => exact ref_into_hole hk hes h
  | agg a b off n ext =>
    cases h with
    | agg cs vs hs hr =>
      refine .agg _ vs (by simpa using hs) fun j hj => ?_
      match j, hj with
      | 0, _ => have := hr 0 (by simp); simp only [List.getElem_cons_zero] at this ⊢; generalize vs.getD 0 undef = q at this ⊢; cases this; exact .val _
      | 1, _ => have := hr 1 (by simp); simp only [List.getElem_cons_succ, List.getElem_cons_zero] at this ⊢; generalize vs.getD 1 undef = q at this ⊢; cases this; exact .val _
      | 2, _ => exact ref_into_hole hk hes (hr 2 (by simp))
theorem step_rehole {β : Nat → Nat × Nat} {h : List AObj} {w : World} {k : Nat} {o0 : AObj} (hr : HR W0 ok0 A β h w) (hk : h[k]? = some o0) (h0 : o0.es = 0) : Step W0 ok0 A β h w β (h.set k ⟨0, 0, []⟩) w := by
  have hkl := (List.getElem?_eq_some_iff.1 hk).1
  have hget : ∀ (i : Nat) (o : AObj), (h.set k ⟨0, 0, []⟩)[i]? = some o → o.es ≠ 0 → h[i]? = some o := by
    intro i o hi hes
    by_cases hik : k = i
    · subst hik; rw [List.getElem?_set_self hkl] at hi; cases hi; exact absurd rfl hes
    · rwa [List.getElem?_set_ne hik] at hi
  have hlens : lens (h.set k ⟨0, 0, []⟩) = lens h := by
    funext i
    unfold lens
    by_cases hik : k = i
    · subst hik; rw [List.getElem?_set_self hkl, hk]; simp [h0]
    · rw [List.getElem?_set_ne hik]
  have hlive : ∀ i, live (h.set k ⟨0, 0, []⟩) i → live h i := fun i ⟨o, h1, h2⟩ => ⟨o, hget i o h1 h2, h2⟩
  have hok : ∀ b, okIn W0 ok0 w β h b → okIn W0 ok0 w β (h.set k ⟨0, 0, []⟩) b := fun b hb => ⟨hb.1, fun i ⟨o, h1, h2, h3⟩ => hb.2.1 _ ⟨o, hget i o h1 h2, h2, h3⟩, hb.2.2⟩
  have hm : ∀ x v, VR W0 ok0 β h w x v → VR W0 ok0 β (h.set k ⟨0, 0, []⟩) w x v := fun x v hx => VRel.mono hok (fun _ _ h => h) (fun _ _ => rfl) (fun id l hl => ⟨l, by rw [hlens]; exact hl, Nat.le_refl _, fun _ => rfl⟩) hx
  refine ⟨⟨fun i o ho hes => ?_, fun i j hi hj => hr.inj i j (hlive i hi) (hlive j hj), fun i hi => hr.own i (hlive i hi), hr.os, hr.tape, hr.output, hr.wsize, hr.block, fun p hp => ⟨hok _ (hr.tab p hp).1, (hr.tab p hp).2⟩⟩, hm, by simp, fun b hb => ⟨hok b hb, rfl⟩, Nat.le_refl _⟩
  obtain ⟨cur, c1, c2, c3, c4, c5, c6⟩ := hr.heap i o (hget i o ho hes) hes
  exact ⟨cur, c1, c2, c3, c4, c5, fun j hj => hm _ _ (c6 j hj)⟩
theorem al_at {o : Oper} (ha : isAl cf o = true) {ρ : Operand → AVal} {h h' : List AObj} {v : AVal} (hR : OpR P cf o ρ h v h') :
    ∃ ob : AObj, h' = h ++ [ob] ∧ ∀ (β : Nat → Nat × Nat) (H : List AObj) (w : World) (o0 : AObj) (a : Act) (next : Act → World → Prop) (Q : Exit → Act → World → Prop), HR W0 ok0 A β H w → (∀ x, VR W0 ok0 β H w (ρ x) (a.eval x)) → H[h.length]? = some o0 → o0.es = 0 →
      (∀ u β' w', Step W0 ok0 A β H w β' (H.set h.length ob) w' → VR W0 ok0 β' (H.set h.length ob) w' v u → next (a.put o.dst u) w') → o.wp P a w next Q := by
  rcases al_R ha hR with hx | ⟨fo, args, ty, hop, hb, hn, hm⟩
  case inr =>
    rcases hm with ⟨ob, rn, h1, h2, h3, rfl, rfl, h4⟩ | ⟨rfl, h4⟩
    rotate_left
    · refine ⟨⟨0, 0, []⟩, rfl, fun β H w o0 a next Q hr hev ho h0 hnx => ?_⟩
      have har : AR W0 ok0 β H w (args.toList.map ρ) (args.map a.eval) := ⟨by simp, fun j hj => by
        have hj' : j < args.size := by simpa using hj
        simpa [hj'] using hev args[j]⟩
      obtain ⟨f, vs, g1, g2⟩ := callTo_rel hr (h4 H) (hev fo) har
      unfold Oper.wp
      have hrun : (execOp a.eval o).run P w = .ok (.enter f vs) w := by
        simp only [execOp, hop, resolve]
        exact g1 w
      rw [hrun, Oper.upon_enter]
      refine g2.mono fun e w' he => ?_
      obtain ⟨u, β', rfl, hst, hv⟩ := he
      have hst2 := step_rehole hst.hr ho h0
      exact hnx u _ w' (hst.trans hst2) (hst2.vr _ _ hv)
    refine ⟨ob, rfl, fun β H w o0 a next Q hr hev ho h0 hnx => ?_⟩
    have har : AR W0 ok0 β H w (args.toList.map ρ) (args.map a.eval) := ⟨by simp, fun j hj => by
      have hj' : j < args.size := by simpa using hj
      simpa [hj'] using hev args[j]⟩
    obtain ⟨f, vs, g1, g2⟩ := callTo_rel hr (h4 H) (hev fo) har
    unfold Oper.wp
    have hrun : (execOp a.eval o).run P w = .ok (.enter f vs) w := by
      simp only [execOp, hop, resolve]
      exact g1 w
    rw [hrun, Oper.upon_enter]
    refine g2.mono fun e w' he => ?_
    obtain ⟨u, β', rfl, hst, hv⟩ := he
    have hlt : h.length < H.length := (List.getElem?_eq_some_iff.1 ho).1
    exact hnx u _ w' (Step.into_hole hr hst ho h0 h2) (rn_into_hole h3 hlt h1 hv)
  obtain ⟨hop, hg⟩ := isAl_op ha
  obtain ⟨dst, op, type, pos, after, guard⟩ := o
  simp only at hop hg
  subst hg
  rcases hop with ⟨e, rfl⟩ | ⟨t, l, k, rfl⟩ | ⟨fo, args, ty, rfl, _, _⟩
  case inr.inr => simp [aEff] at hx
  · simp only [aEff] at hx
    split at hx
    · rename_i T ht
      split at hx
      · rename_i hl
        simp only [Option.some.injEq, Prod.mk.injEq] at hx
        obtain ⟨hx1, hx2⟩ := hx
        refine ⟨⟨e, T.size, T.zero.map ofCell⟩, hx2.symm, fun β H w o0 a next Q hr _ ho h0 hn => ?_⟩
        obtain ⟨z, hz1, hz2, hz3⟩ := zero_AR (P := P) (W0 := W0) (ok0 := ok0) (β := β) (h := H) (w := w) ht
        have hst := step_fill (w' := w.alloc (.cells z.cells e)) hr h.length o0 ⟨e, T.size, T.zero.map ofCell⟩ ho h0 hl.2 z.cells 1 rfl rfl rfl rfl (by rw [hz3.1]; simp [hl]) (by simp [maxLen]) (by rw [hz3.1]; exact Nat.le_refl _) hz3.2
        unfold Oper.wp
        have hrun : (execOp a.eval ⟨dst, .alloc e, type, pos, after, none⟩).run P w = .ok (.value (.pointer (some ⟨w.heap.size, 0, none⟩))) (w.alloc (.cells z.cells e)) := by simp [execOp, Instr.alloc, hz1, newVar, newRow]
        rw [hrun]
        refine hn _ _ _ hst ?_
        rw [← hx1]
        have hlt : h.length < H.length := (List.getElem?_eq_some_iff.1 ho).1
        exact .ptr _ _ _ T.zero.length _ (by simp [lens, hlt, hl.2]) (by omega) (fun _ => by simp)
      · cases hx
    · cases hx
  · simp only [aEff] at hx
    generalize hq1 : ρ l = q1 at hx
    generalize hq2 : ρ k = q2 at hx
    unfold aMake at hx
    split at hx
    · rename_i T k1 a1 k2 b1 ht
      split at hx
      · rename_i e he
        split at hx
        · rename_i E hE
          split at hx
          · rename_i hc'
            obtain ⟨h1, h1', h2, h3, h4, h5⟩ := hc'
            simp only [Option.some.injEq, Prod.mk.injEq] at hx
            obtain ⟨hx1, hx2⟩ := hx
            refine ⟨⟨e, E.size, mkZ E.zero a1.toNat⟩, hx2.symm, fun β H w o0 a next Q hr hev ho h0 hn => ?_⟩
            have hl := hev l
            have hk := hev k
            rw [hq1] at hl
            rw [hq2] at hk
            generalize hlv : a.eval l = lv at hl
            generalize hkv : a.eval k = kv at hk
            cases hl; cases hk
            have hu := elem_slice ht he
            obtain ⟨d, i, z0, hd, hi, hz0, hT⟩ := tyI_some hE
            subst hT
            simp only at h1 h1' h4
            have hrun := run_make (P := P) w t e i z0 hu hi hz0 k1 k2 a1 b1 h2 h3 (by omega) (by omega)
            have hsz : (madeCells z0.cells (b1.toNat * i.size)).size = b1.toNat * i.size := by rw [size_madeCells]
            have hab : a1.toNat ≤ b1.toNat := by omega
            have hle : a1.toNat * i.size ≤ b1.toNat * i.size := Nat.mul_le_mul_right _ hab
            have hml : (mkZ z0.cells.toList a1.toNat).length = a1.toNat * i.size := by rw [mkZ_len, h1]
            have hst := step_fill (w' := w.alloc (.cells (madeCells z0.cells (b1.toNat * i.size)) e)) hr h.length o0 ⟨e, i.size, mkZ z0.cells.toList a1.toNat⟩ ho h0 h1' _ b1.toNat rfl rfl rfl rfl hsz (by simp only [maxLen]; omega) (by rw [hsz]; exact hml ▸ hle) (fun j hj => by
              have := mkZ_made (W0 := W0) (ok0 := ok0) (β := β) (h := H) (w := w) (z0 := z0) rfl (by rw [h1]; exact h1') hab hj
              rw [h1] at this
              exact this)
            unfold Oper.wp
            have hrun2 : (execOp a.eval ⟨dst, .makeSlice t l k, type, pos, after, none⟩).run P w = .ok (.value (.slice (some ⟨w.heap.size, 0, none⟩) a1.toNat b1.toNat)) (w.alloc (.cells (madeCells z0.cells (b1.toNat * i.size)) e)) := by simp [execOp, hlv, hkv, hrun]
            rw [hrun2]
            refine hn _ _ _ hst ?_
            rw [← hx1]
            have hlt : h.length < H.length := (List.getElem?_eq_some_iff.1 ho).1
            exact .ref _ _ _ _ (a1.toNat * i.size) _ _ (by simp [lens, hlt, h1', hml]) (Nat.le_refl _) (by omega) rfl (fun _ => by simp)
          · cases hx
        · cases hx
      · cases hx
    · cases hx
theorem al_atO {o : Oper} (ha : isAl cf o = true) {ops : Array Oper} {val : Nat → AVal} {hp : Nat → List AObj} {env : Nat → AVal} {i : Nat} (hat : OpAt P cf ops val hp env i o) : OpR P cf o (evF env) (hp i) (val i) (hp (i + 1)) := by
  rcases hat with ⟨hR, _⟩ | ⟨_, _, j, want, t, hg', _⟩
  · exact hR
  · rw [(isAl_op ha).2] at hg'; cases hg'
def alN (cf : EffF) (ops : Array Oper) (c n : Nat) : List Nat := (List.range' c n).filter fun j => match ops[j]? with | some o => isAl cf o | none => false
def obA (hp : Nat → List AObj) (j : Nat) : AObj := ((hp (j + 1))[(hp j).length]?).getD ⟨0, 0, []⟩
def pend (cf : EffF) (ops : Array Oper) (hp : Nat → List AObj) (L : Nat → Bool) (c n : Nat) : List AObj := (alN cf ops c n).map fun j => if L j = true then obA hp j else ⟨0, 0, []⟩
theorem pend_add (ops : Array Oper) (hp : Nat → List AObj) (L : Nat → Bool) (c n k : Nat) : pend cf ops hp L c (n + k) = pend cf ops hp L c n ++ pend cf ops hp L (c + n) k := by
  simp only [pend, alN, ← List.map_append, ← List.filter_append]
  rw [List.range'_append_1]
theorem pend_one (ops : Array Oper) (hp : Nat → List AObj) (L : Nat → Bool) (c : Nat) : pend cf ops hp L c 1 = if (match ops[c]? with | some o => isAl cf o | none => false) = true then [if L c = true then obA hp c else ⟨0, 0, []⟩] else [] := by
  have h : alN cf ops c 1 = if (match ops[c]? with | some o => isAl cf o | none => false) = true then [c] else [] := by simp only [alN, List.range'_one, List.filter_cons, List.filter_nil]
  unfold pend
  rw [h]
  by_cases hx : (match ops[c]? with | some o => isAl cf o | none => false) = true
  · rw [if_pos hx, if_pos hx]; rfl
  · rw [if_neg hx, if_neg hx]; rfl
theorem pend_congr (ops : Array Oper) (hp : Nat → List AObj) {L L' : Nat → Bool} (c n : Nat) (h : ∀ x o, c ≤ x → x < c + n → ops[x]? = some o → isAl cf o = true → L x = L' x) : pend cf ops hp L c n = pend cf ops hp L' c n := by
  apply List.map_congr_left
  intro j hj
  obtain ⟨h1, h2⟩ := List.mem_filter.1 hj
  obtain ⟨i, h3, h4⟩ := List.mem_range'.1 h1
  cases ho : ops[j]? with
  | none => simp [ho] at h2
  | some o => simp only [ho] at h2; rw [h j o (by omega) (by omega) ho h2]
theorem pend_length (ops : Array Oper) (hp : Nat → List AObj) (L : Nat → Bool) (c n : Nat) : (pend cf ops hp L c n).length = (alN cf ops c n).length := by simp [pend]
theorem pend_holes (ops : Array Oper) (hp : Nat → List AObj) {L : Nat → Bool} (c n : Nat) (h : ∀ x o, c ≤ x → x < c + n → ops[x]? = some o → isAl cf o = true → L x = false) : ∀ o ∈ pend cf ops hp L c n, o.es = 0 := by
  rw [pend_congr (L' := fun _ => false) ops hp c n h]
  intro o ho
  obtain ⟨j, _, rfl⟩ := List.mem_map.1 ho
  rfl
theorem pend_all {ops : Array Oper} {val : Nat → AVal} {hp : Nat → List AObj} {env : Nat → Nat → AVal} {m : Nat} (hat : ∀ i o, i < m → ops[i]? = some o → OpAt P cf ops val hp (env i) i o) (hm : m = ops.size) {L : Nat → Bool} :
    ∀ n c, c + n ≤ m → (∀ x o, c ≤ x → x < c + n → ops[x]? = some o → effOp cf o.op = true → isAl cf o = true ∧ L x = true) → hp (c + n) = hp c ++ pend cf ops hp L c n := by
  intro n
  induction n with
  | zero => intro c _ _; simp [pend, alN]
  | succ n ih =>
    intro c hc h
    have h0 := ih c (by omega) (fun x o h1 h2 h3 => h x o h1 (by omega) h3)
    obtain ⟨o, ho⟩ : ∃ o, ops[c + n]? = some o := ⟨ops[c + n]'(by omega), by simp⟩
    rw [pend_add, ← List.append_assoc, ← h0, pend_one, ho]
    simp only
    by_cases ha : isAl cf o = true
    · obtain ⟨ob, h1, _⟩ := al_at (W0 := default) (ok0 := fun _ => True) (A := fun _ => True) ha (al_atO ha (hat (c + n) o (by omega) ho))
      have hL := (h (c + n) o (by omega) (by omega) ho (isAl_eff ha)).2
      rw [if_pos ha, if_pos hL]
      simp only [obA, h1, List.getElem?_concat_length, Option.getD_some]
      exact h1
    · rw [if_neg ha]
      have he : effOp cf o.op = false := by
        cases he : effOp cf o.op with
        | false => rfl
        | true => exact absurd (h (c + n) o (by omega) (by omega) ho he).1 ha
      have h1 : hp (c + n + 1) = hp (c + n) := by
        rcases hat (c + n) o (by omega) ho with ⟨hR, _⟩ | ⟨_, h2, _⟩
        · exact hR.idle he
        · exact h2
      rw [List.append_nil]; exact h1
theorem next_e (cf : EffF) (ops : Array Oper) : ∀ n c, c + n = ops.size → ∃ e, c ≤ e ∧ e ≤ ops.size ∧ (∀ x o, c ≤ x → x < e → ops[x]? = some o → effOp cf o.op = true → isAl cf o = true) ∧ (∀ o, ops[e]? = some o → effOp cf o.op = true ∧ isAl cf o = false) := by
  intro n
  induction n with
  | zero => intro c hc; exact ⟨c, Nat.le_refl _, by omega, fun x o h1 h2 => by omega, fun o ho => by have := (Array.getElem?_eq_some_iff.1 ho).1; omega⟩
  | succ n ih =>
    intro c hc
    obtain ⟨o, ho⟩ : ∃ o, ops[c]? = some o := ⟨ops[c]'(by omega), by simp⟩
    by_cases hx : effOp cf o.op = true ∧ isAl cf o = false
    · exact ⟨c, Nat.le_refl _, by omega, fun x o h1 h2 => by omega, fun o' ho' => by rw [ho] at ho'; cases ho'; exact hx⟩
    · obtain ⟨e, h1, h2, h3, h4⟩ := ih (c + 1) (by omega)
      refine ⟨e, by omega, h2, fun x o' g1 g2 g3 g4 => ?_, h4⟩
      by_cases hxc : x = c
      · subst hxc
        rw [ho] at g3; cases g3
        cases ha : isAl cf o with
        | true => rfl
        | false => exact absurd ⟨g4, ha⟩ hx
      · exact h3 x o' (by omega) g2 g3 g4
theorem heap_pre {ops : Array Oper} {val : Nat → AVal} {hp : Nat → List AObj} {env : Nat → Nat → AVal} {m : Nat} (hat : ∀ i o, i < m → ops[i]? = some o → OpAt P cf ops val hp (env i) i o) (hm : m = ops.size) :
    ∀ n c, c + n ≤ m → (∀ x o, c ≤ x → x < c + n → ops[x]? = some o → effOp cf o.op = true → alOp cf o.op = true) → Pre (hp c) (hp (c + n)) := by
  intro n
  induction n with
  | zero => intro c _ _; exact Pre.refl _
  | succ n ih =>
    intro c hc h
    obtain ⟨o, ho⟩ : ∃ o, ops[c + n]? = some o := ⟨ops[c + n]'(by omega), by simp⟩
    have h0 := ih c (by omega) (fun x o h1 h2 h3 => h x o h1 (by omega) h3)
    have h1 : Pre (hp (c + n)) (hp (c + n + 1)) := by
      rcases hat (c + n) o (by omega) ho with ⟨hR, _⟩ | ⟨_, h2, _⟩
      · by_cases he : effOp cf o.op = true
        · obtain ⟨y, hy⟩ := hR.al (h _ _ (by omega) (by omega) ho he)
          intro i ob hi
          rw [hy, List.getElem?_append_left (List.getElem?_eq_some_iff.1 hi).1]; exact hi
        · rw [hR.idle (by simpa using he)]; exact Pre.refl _
      · rw [h2]; exact Pre.refl _
    exact fun i ob hi => h1 i ob (h0 i ob hi)
theorem heap_sp {ops : Array Oper} {val : Nat → AVal} {hp : Nat → List AObj} {env : Nat → Nat → AVal} {m : Nat} (hat : ∀ i o, i < m → ops[i]? = some o → OpAt P cf ops val hp (env i) i o) (hm : m = ops.size) :
    ∀ n c, c + n ≤ m → (∀ x o, c ≤ x → x < c + n → ops[x]? = some o → effOp cf o.op = true → alOp cf o.op = true ∨ stOp cf o.op = true) → SP cf.D (hp c) (hp (c + n)) := by
  intro n
  induction n with
  | zero => intro c _ _; exact SP.refl _ _
  | succ n ih =>
    intro c hc h
    obtain ⟨o, ho⟩ : ∃ o, ops[c + n]? = some o := ⟨ops[c + n]'(by omega), by simp⟩
    refine (ih c (by omega) (fun x o h1 h2 h3 => h x o h1 (by omega) h3)).trans ?_
    rcases hat (c + n) o (by omega) ho with ⟨hR, _⟩ | ⟨_, h2, _⟩
    · by_cases he : effOp cf o.op = true
      · rcases h _ _ (by omega) (by omega) ho he with h3 | h3
        · obtain ⟨y, hy⟩ := hR.al h3
          refine SP.of_pre fun i ob hi => ?_
          rw [show c + (n + 1) = c + n + 1 from rfl, hy, List.getElem?_append_left (List.getElem?_eq_some_iff.1 hi).1]; exact hi
        · exact (hR.st h3).1
      · rw [show c + (n + 1) = c + n + 1 from rfl, hR.idle (by simpa using he)]; exact SP.refl _ _
    · rw [show c + (n + 1) = c + n + 1 from rfl, h2]; exact SP.refl _ _
theorem heap_wd {ops : Array Oper} {val : Nat → AVal} {hp : Nat → List AObj} {env : Nat → Nat → AVal} {m : Nat} (hat : ∀ i o, i < m → ops[i]? = some o → OpAt P cf ops val hp (env i) i o) (hm : m = ops.size) :
    ∀ n c, c + n ≤ m → (∀ x o, c ≤ x → x < c + n → ops[x]? = some o → effOp cf o.op = true → wOp cf o.op = true) → WD cf.D (hp c) (hp (c + n)) := by
  intro n
  induction n with
  | zero => intro c _ _; exact WD.refl _ _
  | succ n ih =>
    intro c hc h
    obtain ⟨o, ho⟩ : ∃ o, ops[c + n]? = some o := ⟨ops[c + n]'(by omega), by simp⟩
    refine (ih c (by omega) (fun x o h1 h2 h3 => h x o h1 (by omega) h3)).trans ?_
    rcases hat (c + n) o (by omega) ho with ⟨hR, _⟩ | ⟨_, h2, _⟩
    · by_cases he : effOp cf o.op = true
      · exact hR.wd (h _ _ (by omega) (by omega) ho he)
      · rw [show c + (n + 1) = c + n + 1 from rfl, hR.idle (by simpa using he)]; exact WD.refl _ _
    · rw [show c + (n + 1) = c + n + 1 from rfl, h2]; exact WD.refl _ _
theorem heap_sp' {ops : Array Oper} {val : Nat → AVal} {hp : Nat → List AObj} {env : Nat → Nat → AVal} {m : Nat} (hat : ∀ i o, i < m → ops[i]? = some o → OpAt P cf ops val hp (env i) i o) (hm : m = ops.size) :
    ∀ n c, c + n ≤ m → (∀ x o, c ≤ x → x < c + n → ops[x]? = some o → effOp cf o.op = true → stOp cf o.op = true) → SP cf.D (hp (c + n)) (hp c) := by
  intro n
  induction n with
  | zero => intro c _ _; exact SP.refl _ _
  | succ n ih =>
    intro c hc h
    obtain ⟨o, ho⟩ : ∃ o, ops[c + n]? = some o := ⟨ops[c + n]'(by omega), by simp⟩
    refine SP.trans ?_ (ih c (by omega) (fun x o h1 h2 h3 => h x o h1 (by omega) h3))
    rcases hat (c + n) o (by omega) ho with ⟨hR, _⟩ | ⟨_, h2, _⟩
    · by_cases he : effOp cf o.op = true
      · exact (hR.st (h _ _ (by omega) (by omega) ho he)).2
      · rw [show c + (n + 1) = c + n + 1 from rfl, hR.idle (by simpa using he)]; exact SP.refl _ _
    · rw [show c + (n + 1) = c + n + 1 from rfl, h2]; exact SP.refl _ _
structure Inv (cf : EffF) (B : Bs) (W0 : World) (ok0 A : Nat → Prop) (N : Nat) (ops : Array Oper) (val : Nat → AVal) (hp : Nat → List AObj) (e0 : Nat → AVal) (listed : Array Bool) (a : Act) (w : World) : Prop where
  size : listed.size = ops.size
  closed : ∀ j, listed.getD j false = true → ∀ i, ((Region.before ops).getD j 0).testBit i = true → listed.getD i false = true
  rest : ∃ c e, c ≤ e ∧ e ≤ ops.size ∧ (∀ x o, c ≤ x → x < e → ops[x]? = some o → effOp cf o.op = true → isAl cf o = true) ∧ (∀ o, ops[e]? = some o → effOp cf o.op = true ∧ isAl cf o = false) ∧
    (∀ i o, i < c → ops[i]? = some o → effOp cf o.op = true → listed.getD i false = true) ∧ (∀ i o, e ≤ i → ops[i]? = some o → effOp cf o.op = true → listed.getD i false = false) ∧
    ∃ β, HR W0 ok0 A β (hp c ++ pend cf ops hp (fun j => listed.getD j false) c (e - c)) w ∧ (∀ t, VR W0 ok0 β (hp c ++ pend cf ops hp (fun j => listed.getD j false) c (e - c)) w (envF ops val e0 (fun i => listed.getD i false) ops.size t) (a.tmps.getD t undef)) ∧ a.tmps.size = N ∧
      Kp W0 ok0 B β (hp c ++ pend cf ops hp (fun j => listed.getD j false) c (e - c)) w a
theorem set_getD (l : Array Bool) (i j : Nat) (hi : i < l.size) : (l.setIfInBounds i true).getD j false = if j = i then true else l.getD j false := by
  simp only [Array.getD_eq_getD_getElem?]
  by_cases hj : j = i
  · subst hj; simp [hi]
  · rw [if_neg hj, Array.getElem?_setIfInBounds_ne (Ne.symm hj)]
theorem Inv.step (n : Nat) (hBo : BOk P cf W0 ok0 A B) {ops : Array Oper} {val : Nat → AVal} {hp : Nat → List AObj} {e0 : Nat → AVal} {listed : Array Bool} {a : Act} {w : World} (hB : drawOk cf ops = true) (hall : ops.toList.all (opOk N) = true) (hally : ops.toList.all (opY cf) = true)
    (hat : ∀ i o, i < ops.size → ops[i]? = some o → OpAt P cf ops val hp (envF ops val e0 (fun _ => true) i) i o) (hinv : Inv cf B W0 ok0 A N ops val hp e0 listed a w) {i : Nat} (hi : i ∈ Region.ready .any ops listed)
    {K : Act → World → Prop} {Q : Exit → Act → World → Prop} (hK : ∀ a w, Inv cf B W0 ok0 A N ops val hp e0 (listed.setIfInBounds i true) a w → K a w) : wpOpIn (Fd B.rd) n P ops Q i K a w := by
  obtain ⟨hun, o, ho, hafter⟩ := mem_ready.1 hi
  have hlt : i < ops.size := (Array.getElem?_eq_some_iff.1 ho).1
  have hlt' : i < listed.size := by rw [hinv.size]; exact hlt
  have hun' : listed.getD i false = false := by
    simp only [Array.getD_eq_getD_getElem?] at hun ⊢
    simpa [hlt'] using hun
  obtain ⟨hd1, hd2, hd3⟩ := drawOk_at hB ho
  obtain ⟨c, e, hce, hc1, hgr, hend, hc2, hc3, β, hr, henv, hs, hdf⟩ := hinv.rest
  generalize hH : hp c ++ pend cf ops hp (fun j => listed.getD j false) c (e - c) = H at *
  have hopok : opOk N o = true := by
    refine List.all_eq_true.1 hall o ?_
    rw [← Array.getElem?_toList] at ho
    exact List.mem_of_getElem? ho
  have hoy : B.v0.isSome = true → o.dst ≠ some 0 := by
    refine opY_dst (E := cf) (List.all_eq_true.1 hally o ?_) hBo.v0
    rw [← Array.getElem?_toList] at ho
    exact List.mem_of_getElem? ho
  have hyn : ∀ yv y, cf.y = some (yv, y) → ∀ args h' vs, y args H h' → AR W0 ok0 β H w args vs → YNow P W0 ok0 A β H w h' vs yv := fun yv y hy args h' vs hyy har => hdf.yield hBo hr hy hyy har
  have anc : ∀ j, ((Region.before ops).getD i 0).testBit j = true → listed.getD j false = true := by
    intro j hj
    rw [hd2] at hj
    rcases orB_bit _ _ hj with h0 | ⟨e, he, hb, h1⟩
    · simp at h0
    · have he' : listed.getD e.on false = true := hafter e (by simpa using he) hb
      rcases h1 with rfl | h1
      · exact he'
      · exact hinv.closed _ he' _ h1
  have later : ∀ j y, i < j → ops[j]? = some y → confl ops o y = true ∨ (effConfl cf o y = true ∧ alPair cf ops i j o y = false) → listed.getD j false = false := by
    intro j y hij hj hcf
    cases hl : listed.getD j false with
    | false => rfl
    | true =>
      have := hinv.closed j hl i ((drawOk_at hB hj).2.2 i o hij ho hcf)
      rw [hun'] at this; cases this
  have dst_at : ∀ {j t}, dstOf ops j = some t → ∃ y, ops[j]? = some y ∧ y.dst = some t := fun {j t} h => by
    simp only [dstOf] at h
    cases hj : ops[j]? with
    | none => simp [hj] at h
    | some y => rw [hj] at h; exact ⟨y, rfl, by simpa using h⟩
  have named : ∀ t, t ∈ o.looksAt ops → envF ops val e0 (fun i => listed.getD i false) ops.size t = envF ops val e0 (fun _ => true) i t := by
    intro t ht
    have h1 : ∀ j, j < i → dstOf ops j = some t → listed.getD j false = true := fun j hj hd => by
      obtain ⟨y, hy, hyd⟩ := dst_at hd
      exact anc j (hd3 j y hj hy (.inl (by simp [confl, hyd, ht])))
    have h2 : ∀ j, i ≤ j → j < i + (ops.size - i) → dstOf ops j = some t → listed.getD j false = false := fun j hj _ hd => by
      rcases Nat.lt_or_ge i j with hij | hij
      · obtain ⟨y, hy, hyd⟩ := dst_at hd
        exact later j y hij hy (.inl (by simp [confl, hyd, ht]))
      · have : j = i := by omega
        subst this; exact hun'
    have h3 := envF_beyond (val := val) (e0 := e0) (ops.size - i) h2
    rw [show i + (ops.size - i) = ops.size by omega] at h3
    rw [h3]
    exact envF_upto h1 i (Nat.le_refl _)
  have hρ : ∀ x ∈ o.op.operands, evF (envF ops val e0 (fun _ => true) i) x = evF (envF ops val e0 (fun i => listed.getD i false) ops.size) x := by
    intro x hx
    cases x with
    | tmp t =>
      simp only [evF]
      exact (named t (List.mem_append_left _ (List.mem_filterMap.2 ⟨.tmp t, by simpa using hx, rfl⟩))).symm
    | _ => rfl
  have hev : ∀ x, VR W0 ok0 β H w (evF (envF ops val e0 (fun i => listed.getD i false) ops.size) x) (a.eval x) := by
    intro x
    cases x with
    | tmp t => exact henv t
    | const v => exact ofConst_rel v
    | global g => exact global_rel hr.tab g
    | func f => exact .func _ _ _ _ _ rfl rfl (fun j hj => by simp at hj) (fun j hj => by simp at hj)
  have after : ∀ c' e' β' w' u, c' ≤ e' → e' ≤ ops.size → (∀ x o, c' ≤ x → x < e' → ops[x]? = some o → effOp cf o.op = true → isAl cf o = true) → (∀ o, ops[e']? = some o → effOp cf o.op = true ∧ isAl cf o = false) →
      (∀ j y, j < c' → ops[j]? = some y → effOp cf y.op = true → (listed.setIfInBounds i true).getD j false = true) →
      (∀ j y, e' ≤ j → ops[j]? = some y → effOp cf y.op = true → (listed.setIfInBounds i true).getD j false = false) →
      Step W0 ok0 A β H w β' (hp c' ++ pend cf ops hp (fun j => (listed.setIfInBounds i true).getD j false) c' (e' - c')) w' →
      VR W0 ok0 β' (hp c' ++ pend cf ops hp (fun j => (listed.setIfInBounds i true).getD j false) c' (e' - c')) w' (val i) u → Inv cf B W0 ok0 A N ops val hp e0 (listed.setIfInBounds i true) (a.put o.dst u) w' := by
    intro c' e' β' w' u q1 q2 q3 q4 g2 g3 hst hv
    refine ⟨by simp [hinv.size], ?_, c', e', q1, q2, q3, q4, g2, g3, β', hst.hr, fun t => ?_, by rw [put_size, hs], (hdf.step hst).put o.dst u hoy⟩
    · intro j hj k hk
      rw [set_getD _ _ _ hlt'] at hj ⊢
      split
      · rfl
      · split at hj
        · rename_i hji; subst hji; exact anc k hk
        · exact hinv.closed j hj k hk
    · rw [put_getD _ _ _ _ (fun d hd => by rw [hs]; exact opOk_dst hopok d hd)]
      split
      · rename_i hd
        have hdi : dstOf ops i = some t := by simp [dstOf, ho, hd]
        have h2 : ∀ j, i + 1 ≤ j → j < i + 1 + (ops.size - (i + 1)) → dstOf ops j = some t → (listed.setIfInBounds i true).getD j false = false := fun j hj _ hd' => by
          rw [set_getD _ _ _ hlt', if_neg (by omega)]
          obtain ⟨y, hy, hyd⟩ := dst_at hd'
          exact later j y (by omega) hy (.inl (by simp [confl, hyd, hd]))
        have h3 := envF_beyond (val := val) (e0 := e0) (ops.size - (i + 1)) h2
        rw [show i + 1 + (ops.size - (i + 1)) = ops.size by omega] at h3
        rw [h3]
        simp only [envF]
        rw [if_pos ⟨by rw [set_getD _ _ _ hlt']; simp, hdi⟩]
        exact hv
      · rename_i hd
        have hdi : dstOf ops i ≠ some t := by simp only [dstOf, ho, Option.bind_some]; exact hd
        rw [envF_other hdi (L := fun i => listed.getD i false) (fun j hj => by rw [set_getD _ _ _ hlt', if_neg hj])]
        exact hst.vr _ _ (henv t)
  have effc : effOp cf o.op = true → isAl cf o = false → i = e ∧ hp i = H := by
    intro he ha
    have hne : nOp cf o.op = false := by
      cases hn : nOp cf o.op with
      | false => rfl
      | true => rw [nOp_idle hn] at he; cases he
    have hei : e ≤ i := by
      rcases Nat.lt_or_ge i e with h1 | h1
      · rcases Nat.lt_or_ge i c with h2 | h2
        · have := hc2 i o h2 ho he; rw [hun'] at this; cases this
        · have := hgr i o h2 h1 ho he; rw [ha] at this; cases this
      · exact h1
    have hie : i = e := by
      rcases Nat.lt_or_ge e i with h1 | h1
      · obtain ⟨y, hy⟩ : ∃ y, ops[e]? = some y := ⟨ops[e]'(by omega), by simp⟩
        obtain ⟨hey, hay⟩ := hend y hy
        have hL := hc3 e y (Nat.le_refl _) hy hey
        have := anc e (hd3 e y h1 hy (.inr ⟨by simp [effConfl, hey, hne, eff_not_s he, eff_not_l he], alPair_r ha⟩))
        rw [hL] at this; cases this
      · omega
    refine ⟨hie, ?_⟩
    subst hie
    have := pend_all (L := fun j => listed.getD j false) hat rfl (i - c) c (by omega) (fun x y h1 h2 hx hex => ⟨hgr x y h1 (by omega) hx hex, anc x (hd3 x y (by omega) hx (.inr ⟨by simp [effConfl, hex, hne, eff_not_s he, eff_not_l he], alPair_r ha⟩))⟩)
    rw [show c + (i - c) = i by omega] at this
    rw [this, hH]
  have set_other : ∀ c' n, (∀ x y, c' ≤ x → x < c' + n → ops[x]? = some y → isAl cf y = true → x ≠ i) → pend cf ops hp (fun j => (listed.setIfInBounds i true).getD j false) c' n = pend cf ops hp (fun j => listed.getD j false) c' n := by
    intro c' n hx
    refine pend_congr ops hp c' n fun x y h1 h2 h3 h4 => ?_
    rw [set_getD _ _ _ hlt', if_neg (hx x y h1 h2 h3 h4)]
  have eff_done : effOp cf o.op = true → isAl cf o = false → ∀ β' w' u, Step W0 ok0 A β H w β' (hp (i + 1)) w' → VR W0 ok0 β' (hp (i + 1)) w' (val i) u → Inv cf B W0 ok0 A N ops val hp e0 (listed.setIfInBounds i true) (a.put o.dst u) w' := by
    intro he ha β' w' u hst hv
    obtain ⟨hie, _⟩ := effc he ha
    have hne : nOp cf o.op = false := by
      cases hn : nOp cf o.op with
      | false => rfl
      | true => rw [nOp_idle hn] at he; cases he
    obtain ⟨e', q1, q2, q3, q4⟩ := next_e cf ops (ops.size - (i + 1)) (i + 1) (by omega)
    have hun2 : ∀ j y, i + 1 ≤ j → ops[j]? = some y → effOp cf y.op = true → (listed.setIfInBounds i true).getD j false = false := fun j y hj hy hey => by
      rw [set_getD _ _ _ hlt', if_neg (by omega)]
      exact hc3 j y (by omega) hy hey
    have hsh := step_holes hst.hr (pend cf ops hp (fun j => (listed.setIfInBounds i true).getD j false) (i + 1) (e' - (i + 1))) (pend_holes ops hp _ _ fun x y h1 h2 h3 h4 => hun2 x y h1 h3 (isAl_eff h4))
    refine after (i + 1) e' β' w' u q1 q2 q3 q4 (fun j y hj hy hey => ?_) (fun j y hj hy hey => hun2 j y (by omega) hy hey) (hst.trans hsh) (hsh.vr _ _ hv)
    rw [set_getD _ _ _ hlt']
    split
    · rfl
    · rename_i hji
      exact anc j (hd3 j y (by omega) hy (.inr ⟨by simp [effConfl, hey, hne, eff_not_s he, eff_not_l he], alPair_r ha⟩))
  have idle_done : effOp cf o.op = false → ∀ β' w' u, Step W0 ok0 A β H w β' H w' → VR W0 ok0 β' H w' (val i) u → Inv cf B W0 ok0 A N ops val hp e0 (listed.setIfInBounds i true) (a.put o.dst u) w' := by
    intro he β' w' u hst hv
    have hp2 := set_other c (e - c) fun x y _ _ h3 h4 hxi => by
      subst hxi; rw [ho] at h3; cases h3; rw [isAl_eff h4] at he; cases he
    refine after c e β' w' u hce hc1 hgr hend (fun j y hj hy hey => ?_) (fun j y hj hy hey => ?_) (by rw [hp2, hH]; exact hst) (by rw [hp2, hH]; exact hv)
    · rw [set_getD _ _ _ hlt']
      split
      · rfl
      · exact hc2 j y hj hy hey
    · rw [set_getD _ _ _ hlt', if_neg]
      · exact hc3 j y hj hy hey
      · rintro rfl; rw [ho] at hy; cases hy; rw [he] at hey; cases hey
  have guard_named : ∀ j want t, o.guard = some (j, want) → dstOf ops j = some t → t ∈ o.looksAt ops := by
    intro j want t hg hd
    refine List.mem_append_right _ ?_
    rw [hg]
    simp only [dstOf] at hd
    simp [hd]
  unfold wpOpIn
  simp only [ho]
  rcases hat i o hlt ho with ⟨hR, hg⟩ | ⟨hv, hh, j, want, t, hg, hd, hb⟩
  · -- it is run
    have hw : Region.wanted o (yielded ops a.tmps) = true := by
      rcases hg with hg | ⟨j, want, t, hg, hd, hb⟩
      · simp [Region.wanted, hg]
      · have h1 := named t (guard_named j want t hg hd)
        rw [hb] at h1
        have h2 := henv t
        rw [h1] at h2
        have := yielded_bool (ops := ops.toList) (j := j) (by simpa [dstOf] using hd) h2
        simp only [Array.toArray_toList] at this
        simp [Region.wanted, hg, this]
    rw [if_pos hw]
    have hR' := hR.congr hρ
    cases he : effOp cf o.op with
    | true =>
      by_cases ha : isAl cf o = true
      · have hne := isAl_not_n ha
        have hci : c ≤ i := by
          rcases Nat.lt_or_ge i c with h1 | h1
          · have := hc2 i o h1 ho he; rw [hun'] at this; cases this
          · exact h1
        have hie : i < e := by
          rcases Nat.lt_or_ge i e with h1 | h1
          · exact h1
          · exfalso
            obtain ⟨y, hy⟩ : ∃ y, ops[e]? = some y := ⟨ops[e]'(by omega), by simp⟩
            obtain ⟨hey, hay⟩ := hend y hy
            rcases Nat.lt_or_ge e i with h2 | h2
            · have hL := hc3 e y (Nat.le_refl _) hy hey
              have := anc e (hd3 e y h2 hy (.inr ⟨by simp [effConfl, hey, hne, eff_not_s he, eff_not_l he], alPair_l hay⟩))
              rw [hL] at this; cases this
            · have : i = e := by omega
              subst this
              rw [ho] at hy; cases hy; rw [ha] at hay; cases hay
        obtain ⟨ob, hob2, hob3⟩ := al_at (W0 := W0) (ok0 := ok0) (A := A) ha hR'
        have hpi : hp i = hp c ++ pend cf ops hp (fun _ => true) c (i - c) := by
          have := pend_all (L := fun _ => true) hat rfl (i - c) c (by omega) (fun x y h1 h2 hx hex => ⟨hgr x y h1 (by omega) hx hex, rfl⟩)
          rwa [show c + (i - c) = i by omega] at this
        have hlen : (hp i).length = (hp c ++ pend cf ops hp (fun j => listed.getD j false) c (i - c)).length := by rw [hpi]; simp only [List.length_append, pend_length]
        have hsplit : ∀ L : Nat → Bool, pend cf ops hp L c (e - c) = pend cf ops hp L c (i - c) ++ ((if L i = true then obA hp i else ⟨0, 0, []⟩) :: pend cf ops hp L (i + 1) (e - (i + 1))) := by
          intro L
          have h1 := pend_add (cf := cf) ops hp L c (i - c) (e - i)
          rw [show i - c + (e - i) = e - c by omega, show c + (i - c) = i by omega] at h1
          have h2 := pend_add (cf := cf) ops hp L i 1 (e - (i + 1))
          rw [show 1 + (e - (i + 1)) = e - i by omega, pend_one, ho] at h2
          simp only [if_pos ha] at h2
          rw [h1, h2]; rfl
        have hobA : obA hp i = ob := by simp only [obA, hob2, List.getElem?_concat_length, Option.getD_some]
        have hH1 : H = (hp c ++ pend cf ops hp (fun j => listed.getD j false) c (i - c)) ++ (⟨0, 0, []⟩ :: pend cf ops hp (fun j => listed.getD j false) (i + 1) (e - (i + 1))) := by
          rw [← hH, hsplit]
          simp only [hun', Bool.false_eq_true, if_false, List.append_assoc]
        have hH2 : H.set (hp i).length ob = hp c ++ pend cf ops hp (fun j => (listed.setIfInBounds i true).getD j false) c (e - c) := by
          rw [hsplit, set_other c (i - c) (fun x y h1 h2 _ _ => by omega), set_other (i + 1) (e - (i + 1)) (fun x y h1 h2 _ _ => by omega), hH1, hlen, List.set_append_right _ _ (Nat.le_refl _), Nat.sub_self, List.set_cons_zero]
          simp only [set_getD _ _ _ hlt', if_true, hobA, List.append_assoc]
        have hget : H[(hp i).length]? = some ⟨0, 0, []⟩ := by
          rw [hH1, hlen, List.getElem?_append_right (Nat.le_refl _), Nat.sub_self]; rfl
        refine wpIn_of_wp _ _ (opOk_def hopok) (hob3 β H w _ a _ _ hr hev hget rfl fun u β' w' hst hvu => hK _ _ ?_)
        rw [hH2] at hst hvu
        refine after c e β' w' u hce hc1 hgr hend (fun j y hj hy hey => ?_) (fun j y hj hy hey => ?_) hst hvu
        · rw [set_getD _ _ _ hlt', if_neg (by omega)]; exact hc2 j y hj hy hey
        · rw [set_getD _ _ _ hlt', if_neg (by omega)]; exact hc3 j y hj hy hey
      · have ha' : isAl cf o = false := by simpa using ha
        obtain ⟨hie, hhc⟩ := effc he ha'
        rw [hhc] at hR'
        exact opR_wp _ _ hr hev hopok hR' hyn fun u β' w' hst hvu => hK _ _ (eff_done he ha' β' w' u hst hvu)
    | false =>
      have ha' : isAl cf o = false := by
        cases ha : isAl cf o with
        | false => rfl
        | true => rw [isAl_eff ha] at he; cases he
      cases hn : nOp cf o.op with
      | true => exact opR_wp _ _ hr hev hopok (hR'.anywhere hn) hyn fun u β' w' hst hvu => hK _ _ (idle_done he β' w' u hst hvu)
      | false =>
        have hHc : Pre (hp c) H := fun k ob hk => by
          rw [← hH, List.getElem?_append_left (List.getElem?_eq_some_iff.1 hk).1]; exact hk
        have upto : ∀ k, c ≤ k → k ≤ e → (∀ x y, c ≤ x → x < k → ops[x]? = some y → isAl cf y = true → listed.getD x false = true) → Pre (hp k) H := by
          intro k h1 h2 hx
          have h3 := pend_all (L := fun j => listed.getD j false) hat rfl (k - c) c (by omega) (fun x y h3 h4 h5 h6 => ⟨hgr x y h3 (by omega) h5 h6, hx x y h3 (by omega) h5 (hgr x y h3 (by omega) h5 h6)⟩)
          rw [show c + (k - c) = k by omega] at h3
          have h4 := pend_add (cf := cf) ops hp (fun j => listed.getD j false) c (k - c) (e - k)
          rw [show k - c + (e - k) = e - c by omega] at h4
          intro j ob hj
          rw [← hH, h4, ← List.append_assoc, ← h3, List.getElem?_append_left (List.getElem?_eq_some_iff.1 hj).1]; exact hj
        by_cases hlo : lOp cf o.op = true
        · have key : ∀ k, c ≤ k → k ≤ e → ∀ (id : Nat) (ob ob' : AObj), (hp k)[id]? = some ob → H[id]? = some ob' → ob'.es ≠ 0 → ob' = ob := by
            intro k h1 h2 id ob ob' g1 g2 g3
            have h3 := pend_all (L := fun _ => true) hat rfl (k - c) c (by omega) (fun x y h3 h4 h5 h6 => ⟨hgr x y h3 (by omega) h5 h6, rfl⟩)
            rw [show c + (k - c) = k by omega] at h3
            have h4 := pend_add (cf := cf) ops hp (fun j => listed.getD j false) c (k - c) (e - k)
            rw [show k - c + (e - k) = e - c by omega] at h4
            rw [← hH, h4] at g2
            rw [h3] at g1
            rcases Nat.lt_or_ge id (hp c).length with hl | hl
            · rw [List.getElem?_append_left hl] at g1 g2
              rw [g1] at g2; cases g2; rfl
            · rw [List.getElem?_append_right hl] at g1 g2
              have hk : id - (hp c).length < (alN cf ops c (k - c)).length := by
                have := (List.getElem?_eq_some_iff.1 g1).1
                rwa [pend_length] at this
              rw [List.getElem?_append_left (by rwa [pend_length])] at g2
              simp only [pend, List.getElem?_map] at g1 g2
              obtain ⟨j, hj, rfl⟩ := Option.map_eq_some_iff.1 g1
              rw [hj] at g2
              simp only [Option.map_some, Option.some.injEq] at g2
              split at g2
              · simpa using g2.symm
              · subst g2; exact absurd rfl g3
          have hag : ∀ id ob ob', cf.D id = false → (hp i)[id]? = some ob → H[id]? = some ob' → ob'.es ≠ 0 → ob' = ob := by
            intro id ob ob' hd g1 g2 g3
            rcases Nat.lt_or_ge i c with h1 | h1
            · have hwd := heap_wd hat rfl (c - i) i (by omega) (fun x y h2 h3 hx hex => by
                cases hw : wOp cf y.op with
                | true => rfl
                | false =>
                  simp only [wOp, Bool.or_eq_false_iff] at hw
                  have hxi : x ≠ i := by rintro rfl; rw [ho] at hx; cases hx; rw [he] at hex; cases hex
                  have hL := hc2 x y (by omega) hx hex
                  have := later x y (by omega) hx (.inr ⟨by simp only [effConfl, he, hex, hn, hw.1.1, hw.1.2, wOp, hw.2]; rfl, alPair_l ha'⟩)
                  rw [hL] at this; cases this)
              rw [show i + (c - i) = c by omega] at hwd
              have hid := (List.getElem?_eq_some_iff.1 g1).1
              have := hwd.2 id hid hd
              rw [g1] at this
              exact key c (Nat.le_refl _) hce id ob ob' this g2 g3
            · rcases Nat.le_total i e with h2 | h2
              · exact key i h1 h2 id ob ob' g1 g2 g3
              · have hwd := heap_wd hat rfl (i - e) e (by omega) (fun x y h3 h4 hx hex => by
                  cases hw : wOp cf y.op with
                  | true => rfl
                  | false =>
                    have hw0 := hw
                    simp only [wOp, Bool.or_eq_false_iff] at hw
                    have hL := hc3 x y (by omega) hx hex
                    have := anc x (hd3 x y (by omega) hx (.inr ⟨by simp only [effConfl, hex, hn, hw.1.2, hw0]; rfl, alPair_r ha'⟩))
                    rw [hL] at this; cases this)
                rw [show e + (i - e) = i by omega] at hwd
                have hlen : H.length = (hp e).length := by
                  have h3 := pend_all (L := fun _ => true) hat rfl (e - c) c (by omega) (fun x y h3 h4 h5 h6 => ⟨hgr x y h3 (by omega) h5 h6, rfl⟩)
                  rw [show c + (e - c) = e by omega] at h3
                  rw [← hH, h3]; simp only [List.length_append, pend_length]
                have hid := (List.getElem?_eq_some_iff.1 g2).1
                have := hwd.2 id (by omega) hd
                rw [g1] at this
                exact key e hce (Nat.le_refl _) id ob ob' this.symm g2 g3
          exact opR_wp _ _ hr hev hopok (hR'.live hlo hev hag) hyn fun u β' w' hst hvu => hK _ _ (idle_done he β' w' u hst hvu)
        replace hlo : lOp cf o.op = false := by simpa using hlo
        have al_done : ∀ x y, c ≤ x → x < i → ops[x]? = some y → isAl cf y = true → listed.getD x false = true := fun x y h1 h2 h3 h4 =>
          anc x (hd3 x y h2 h3 (.inr ⟨by simp [effConfl, isAl_eff h4, hn, isAl_not_st h4, hlo], alPair_r ha'⟩))
        cases hso : sOp cf o.op with
        | true =>
          have hsp : SP cf.D (hp i) H := by
            rcases Nat.le_total c i with h1 | h1
            · rcases Nat.le_total i e with h2 | h2
              · exact SP.of_pre (upto i h1 h2 al_done)
              · have h3 := heap_sp' hat rfl (i - e) e (by omega) (fun x y h3 h4 hx hex => by
                  cases hst : stOp cf y.op with
                  | true => rfl
                  | false =>
                    have hL := hc3 x y h3 hx hex
                    have := anc x (hd3 x y (by omega) hx (.inr ⟨by simp [effConfl, hex, hn, hst, hlo], alPair_r ha'⟩))
                    rw [hL] at this; cases this)
                rw [show e + (i - e) = i by omega] at h3
                exact h3.trans (SP.of_pre (upto e hce (Nat.le_refl _) (fun x y g1 g2 g3 g4 => al_done x y g1 (by omega) g3 g4)))
            · have := heap_sp hat rfl (c - i) i (by omega) (fun x y h2 h3 hx hex => by
                cases hal : alOp cf y.op with
                | true => exact .inl rfl
                | false =>
                  cases hst : stOp cf y.op with
                  | true => exact .inr rfl
                  | false =>
                    have hxi : x ≠ i := by rintro rfl; rw [ho] at hx; cases hx; rw [he] at hex; cases hex
                    have hL := hc2 x y (by omega) hx hex
                    have := later x y (by omega) hx (.inr ⟨by simp [effConfl, he, hex, hn, hal, hst, hlo], alPair_l ha'⟩)
                    rw [hL] at this; cases this)
              rw [show i + (c - i) = c by omega] at this
              exact this.trans (SP.of_pre hHc)
          exact opR_wp _ _ hr hev hopok (hR'.sp hso hsp) hyn fun u β' w' hst hvu => hK _ _ (idle_done he β' w' u hst hvu)
        | false =>
          have hpre : Pre (hp i) H := by
            rcases Nat.le_total c i with h1 | h1
            · refine upto i h1 ?_ al_done
              rcases Nat.lt_or_ge e i with h2 | h2
              · exfalso
                obtain ⟨y, hy⟩ : ∃ y, ops[e]? = some y := ⟨ops[e]'(by omega), by simp⟩
                obtain ⟨hey, hay⟩ := hend y hy
                have hL := hc3 e y (Nat.le_refl _) hy hey
                have := anc e (hd3 e y h2 hy (.inr ⟨by simp [effConfl, hey, hn, hso, hlo], alPair_r ha'⟩))
                rw [hL] at this; cases this
              · exact h2
            · have := heap_pre hat rfl (c - i) i (by omega) (fun x y h2 h3 hx hex => by
                cases hal : alOp cf y.op with
                | true => rfl
                | false =>
                  have hxi : x ≠ i := by rintro rfl; rw [ho] at hx; cases hx; rw [he] at hex; cases hex
                  have hL := hc2 x y (by omega) hx hex
                  have := later x y (by omega) hx (.inr ⟨by simp [effConfl, he, hex, hn, hal, hso, hlo], alPair_l ha'⟩)
                  rw [hL] at this; cases this)
              rw [show i + (c - i) = c by omega] at this
              exact fun k ob hk => hHc k ob (this k ob hk)
          exact opR_wp_pre _ _ hr hpre hev hopok hR' he fun u β' w' hst hvu => hK _ _ (idle_done he β' w' u hst hvu)
  · -- it is not wanted
    have h1 := named t (guard_named j want t hg hd)
    have h2 := henv t
    rw [h1] at h2
    have hw : Region.wanted o (yielded ops a.tmps) = false := by
      rcases hb with ⟨b, hb, hne⟩ | ⟨us, hb⟩
      · rw [hb] at h2
        have := yielded_bool (ops := ops.toList) (j := j) (by simpa [dstOf] using hd) h2
        simp only [Array.toArray_toList] at this
        simp [Region.wanted, hg, this, hne]
      · rw [hb] at h2
        have := yielded_tuple (ops := ops.toList) (j := j) (by simpa [dstOf] using hd) h2
        simp only [Array.toArray_toList] at this
        simp [Region.wanted, hg, this]
    rw [if_neg (by simp [hw])]
    have hvu : ∀ h', VR W0 ok0 β h' w (val i) undef := fun h' => by rw [hv]; exact .val _
    have ha' : isAl cf o = false := by
      cases ha : isAl cf o with
      | false => rfl
      | true => have hg' := (isAl_op ha).2; rw [hg] at hg'; cases hg'
    cases he : effOp cf o.op with
    | true =>
      obtain ⟨hie, hhc⟩ := effc he ha'
      have hst : Step W0 ok0 A β H w β (hp (i + 1)) w := by rw [hh, hhc]; exact Step.refl hr
      exact ⟨fun _ _ => trivial, hK _ _ (eff_done he ha' β w undef hst (hvu _))⟩
    | false => exact ⟨fun _ _ => trivial, hK _ _ (idle_done he β w undef (Step.refl hr) (hvu _))⟩
theorem count_lt {p p' : Nat → Bool} {i : Nat} (hpp : ∀ x, p' x = true → p x = true) : ∀ (l : List Nat), i ∈ l → p i = true → p' i = false → l.countP p' < l.countP p := by
  have hle : ∀ l : List Nat, l.countP p' ≤ l.countP p := fun l => by
    induction l with
    | nil => simp
    | cons x l ih =>
      rw [List.countP_cons, List.countP_cons]
      cases h1 : p' x with
      | false => cases p x <;> simp <;> omega
      | true => rw [hpp x h1]; simp; exact ih
  intro l
  induction l with
  | nil => intro h; simp at h
  | cons x l ih =>
    intro hm h1 h2
    rw [List.countP_cons, List.countP_cons]
    rcases List.mem_cons.1 hm with rfl | hm
    · have := hle l
      rw [h1, h2]; simp; omega
    · have := ih hm h1 h2
      cases h3 : p' x with
      | false => cases p x <;> simp <;> omega
      | true => rw [hpp x h3]; simp; exact this
theorem draw_any (n : Nat) (hBo : BOk P cf W0 ok0 A B) {ops : Array Oper} {Qs : ASt → Prop} {Q : Exit → Act → World → Prop} {val : Nat → AVal} {hp : Nat → List AObj} {e0 : Nat → AVal} (hB : drawOk cf ops = true) (hall : ops.toList.all (opOk N) = true) (hally : ops.toList.all (opY cf) = true)
    (hat : ∀ i o, i < ops.size → ops[i]? = some o → OpAt P cf ops val hp (envF ops val e0 (fun _ => true) i) i o)
    (hQ : ∀ s a w, Qs s → FR W0 ok0 A N B s a w → Q .normal a w) (s' : ASt) (hs' : Qs s') (hh : s'.heap = hp ops.size) (he : ∀ t, look s'.env t = envF ops val e0 (fun _ => true) ops.size t) :
    ∀ (fuel : Nat) (listed : Array Bool) (a : Act) (w : World), (List.range ops.size).countP (fun i => !listed.getD i false) ≤ fuel → Inv cf B W0 ok0 A N ops val hp e0 listed a w → wpAnyIn (Fd B.rd) n P .any ops Q fuel listed a w := by
  have fin : ∀ (listed : Array Bool) (a : Act) (w : World), Inv cf B W0 ok0 A N ops val hp e0 listed a w → (∀ i, i < ops.size → listed.getD i false = true) → Q .normal a w := by
    intro listed a w hinv hl
    obtain ⟨c, e, hce, hc1, hgr, hend, hc2, hc3, β, hr, henv, hs, hd⟩ := hinv.rest
    have hee : e = ops.size := by
      rcases Nat.lt_or_ge e ops.size with h1 | h1
      · obtain ⟨y, hy⟩ : ∃ y, ops[e]? = some y := ⟨ops[e]'(by omega), by simp⟩
        have h3 := hc3 e y (Nat.le_refl _) hy (hend y hy).1
        rw [hl e h1] at h3; cases h3
      · omega
    subst hee
    have hhc : hp ops.size = hp c ++ pend cf ops hp (fun j => listed.getD j false) c (ops.size - c) := by
      have := pend_all (L := fun j => listed.getD j false) hat rfl (ops.size - c) c (by omega) (fun x y h1 h2 hx hex => ⟨hgr x y h1 (by omega) hx hex, hl x (by omega)⟩)
      rwa [show c + (ops.size - c) = ops.size by omega] at this
    refine hQ s' a w hs' ⟨β, by rw [hh, hhc]; exact hr, fun t => ?_, hs, by rw [hh, hhc]; exact hd⟩
    rw [he, hh, hhc, ← envF_upto (L := fun i => listed.getD i false) (fun j hj _ => hl j hj) ops.size (Nat.le_refl _)]
    exact henv t
  have none_ready : ∀ (listed : Array Bool) (a : Act) (w : World), Inv cf B W0 ok0 A N ops val hp e0 listed a w → Region.ready .any ops listed = [] → ∀ i, i < ops.size → listed.getD i false = true := by
    intro listed a w hinv hr i
    induction i using Nat.strongRecOn with
    | _ i ih =>
      intro hi
      cases hl : listed.getD i false with
      | true => rfl
      | false =>
        exfalso
        have ho : ops[i]? = some ops[i] := by simp [hi]
        have : i ∈ Region.ready .any ops listed := by
          refine mem_ready.2 ⟨?_, ops[i], ho, fun e he hb => ?_⟩
          · have : i < listed.size := by rw [hinv.size]; exact hi
            simp only [Array.getD_eq_getD_getElem?] at hl ⊢
            simpa [this] using hl
          · have hlt := (drawOk_at hB ho).1 e he hb
            exact ih e.on hlt (by omega)
        rw [hr] at this; cases this
  intro fuel
  induction fuel with
  | zero =>
    intro listed a w hf hinv
    have hl : ∀ i, i < ops.size → listed.getD i false = true := by
      intro i hi
      cases hl : listed.getD i false with
      | true => rfl
      | false =>
        exfalso
        have : 0 < (List.range ops.size).countP (fun i => !listed.getD i false) := List.countP_pos_iff.2 ⟨i, by simpa using hi, by simp [hl]⟩
        omega
    refine ⟨?_, fin listed a w hinv hl⟩
    cases hr : Region.ready .any ops listed with
    | nil => rfl
    | cons x xs =>
      exfalso
      obtain ⟨h1, o, ho, _⟩ := mem_ready.1 (show x ∈ Region.ready .any ops listed by rw [hr]; simp)
      have hx : x < ops.size := (Array.getElem?_eq_some_iff.1 ho).1
      have h2 := hl x hx
      have : x < listed.size := by rw [hinv.size]; exact hx
      simp only [Array.getD_eq_getD_getElem?] at h1 h2
      simp [this] at h1 h2
      rw [h1] at h2; cases h2
  | succ fuel ih =>
    intro listed a w hf hinv
    refine ⟨fun hr => fin listed a w hinv (none_ready listed a w hinv hr), fun i hi => ?_⟩
    refine Inv.step n hBo hB hall hally hat hinv hi fun a' w' hinv' => ih _ a' w' ?_ hinv'
    obtain ⟨h1, o, ho, _⟩ := mem_ready.1 hi
    have hx : i < ops.size := (Array.getElem?_eq_some_iff.1 ho).1
    have hxl : i < listed.size := by rw [hinv.size]; exact hx
    have h1' : listed.getD i false = false := by
      simp only [Array.getD_eq_getD_getElem?] at h1 ⊢
      simpa [hxl] using h1
    have := count_lt (p := fun j => !listed.getD j false) (p' := fun j => !(listed.setIfInBounds i true).getD j false) (i := i) (fun x hx => by
      rw [set_getD _ _ _ hxl] at hx
      split at hx
      · cases hx
      · exact hx) (List.range ops.size) (by simpa using hx) (by simp only [h1']; rfl) (by rw [set_getD _ _ _ hxl]; simp)
    omega
theorem draw_sound (n : Nat) (hBo : BOk P cf W0 ok0 A B) (hm : P.follows .mixedOrders = true) {id : Nat} {ops : Array Oper} {Qs : ASt → Prop} {Q : Exit → Act → World → Prop} (hB : drawOk cf ops = true) (hall : ops.toList.all (opOk N) = true) (hally : ops.toList.all (opY cf) = true)
    (hQ : ∀ s a w, Qs s → FR W0 ok0 A N B s a w → Q .normal a w) {s : ASt} {a : Act} {w : World} (h : @awpList P cf ops.toList Qs ops.toList s) (hf : FR W0 ok0 A N B s a w) : (Code.region id ops true).wpIn (Fd B.rd) n P Q a w := by
  refine wpIn_region_any hm ?_
  obtain ⟨val, hp, g1, g2, s', g3, g4, g5⟩ := awpList_run (c := cf) (ops := ops) ops.toList 0 s (fun _ => .undef) (fun _ => s.heap) (look s.env) (fun j => by simp) h rfl (fun t => rfl) (fun i o hi => by omega)
  simp only [if_true, Array.length_toList, Nat.zero_add] at g1 g2 g4 g5
  obtain ⟨β, hr, henv, hs, hd⟩ := hf
  obtain ⟨e, q1, q2, q3, q4⟩ := next_e cf ops ops.size 0 (by omega)
  have hnl : ∀ i, (Array.replicate ops.size false).getD i false = false := fun i => by
    by_cases hi : i < ops.size <;> simp [hi]
  have hst1 := step_world hr ((Below.refl w.heap.size w).drew)
  have hst := hst1.trans (step_holes hst1.hr (pend cf ops hp (fun j => (Array.replicate ops.size false).getD j false) 0 (e - 0)) (pend_holes ops hp _ _ fun x y _ _ _ _ => hnl x))
  refine draw_any n hBo hB hall hally g2 hQ s' g3 g4 g5 ops.size _ a _ ?_ ?_
  · exact Nat.le_trans List.countP_le_length (by simp)
  · refine ⟨by simp, fun j hj => ?_, 0, e, q1, q2, q3, q4, fun i o hi => by omega, fun i o _ ho _ => hnl i, β, by rw [g1]; exact hst.hr, fun t => ?_, hs, by rw [g1]; exact hd.step hst⟩
    · simp [Array.getElem?_replicate] at hj
      split at hj <;> simp at hj
    · have hno : ∀ n, envF ops val (look s.env) (fun i => (Array.replicate ops.size false).getD i false) n t = look s.env t := by
        intro n
        induction n with
        | zero => rfl
        | succ n ih =>
          simp only [envF]
          rw [if_neg, ih]
          rintro ⟨hc, _⟩
          simp [Array.getElem?_replicate] at hc
          split at hc <;> simp at hc
      rw [hno, g1]
      exact hst.vr _ _ (henv t)
end
end Go.AW
namespace Go.AW
open Go Go.RowKit
def nodupB : List Nat → Bool
  | [] => true
  | x :: r => !r.contains x && nodupB r
theorem nodupB_nodup : ∀ {l : List Nat}, nodupB l = true → l.Nodup
  | [], _ => List.nodup_nil
  | x :: r, h => by
    simp only [nodupB, Bool.and_eq_true, Bool.not_eq_true'] at h
    refine List.nodup_cons.2 ⟨fun hm => ?_, nodupB_nodup h.2⟩
    have := h.1
    simp [hm] at this
def noGo (Q : Exit → Act → World → Prop) : Exit → Act → World → Prop
  | .goto _, _, _ => False
  | e, a, w => Q e a w
theorem stepR_scope {P : Program} {b : Frame} {a : Act} {k : List Item} {cs : List Frame} {w : World} {c : Code} : step P (lone (b.atR a (.code (.scope c) :: k)) cs w) = .next (lone (b.atR a (.code c :: .inScope c :: k)) cs w) :=
  step_lone_go (by simp [stepG, stepG.exec, Frame.atR])
theorem stepR_inScope {P : Program} {b : Frame} {a : Act} {k : List Item} {cs : List Frame} {w : World} {c : Code} : step P (lone (b.atR a (.inScope c :: k)) cs w) = .next (lone (b.atR a k) cs w) :=
  step_lone_go (by simp [stepG, stepG.exec, Frame.atR])
theorem wpIn_scope {F : Fence} {n : Nat} {P : Program} {Q : Exit → Act → World → Prop} {a : Act} {w : World} {c : Code} (h : c.wpIn F n P (noGo Q) a w) : (Code.scope c).wpIn F n P Q a w := by
  intro b k cs hro hb hr
  have h0 : (lone (b.atR a (.code (.scope c) :: k)) cs w).fenced P F := fenced_calm hb hr rfl
  obtain ⟨e, a₁, w₁, hq, harr⟩ := h b (.inScope c :: k) cs hro hb hr
  cases e with
  | normal => exact ⟨.normal, a₁, w₁, hq, .head h0 stepR_scope (StepsIn.trans harr (.one (fenced_calm hb hr rfl) stepR_inScope))⟩
  | exit id =>
    have hx : exitTo id (.inScope c :: k) = exitTo id k := by simp [exitTo]
    exact ⟨.exit id, a₁, w₁, hq, fun k' hk => .head h0 stepR_scope (harr.1 k' (by rw [hx]; exact hk)),
      fun hr' hk => let ⟨k₁, h1, h2⟩ := harr.2 hr' (by rw [hx]; exact hk); ⟨k₁, h1, .head h0 stepR_scope h2⟩⟩
  | goto l => exact hq.elim
  | ret => exact ⟨_, a₁, w₁, hq, .of_steps (.one h0 stepR_scope) harr⟩
  | panic ch => exact ⟨_, a₁, w₁, hq, .of_steps (.one h0 stepR_scope) harr⟩
  | outgrown => exact ⟨_, a₁, w₁, hq, .of_steps (.one h0 stepR_scope) harr⟩
def codeOk (N : Nat) (E : EffF) : Code → Bool
  | .region _ ops d => ops.toList.all (opOk N) && ops.toList.all (opY E) && (!d || drawOk E ops)
  | .seq a b => codeOk N E a && codeOk N E b
  | .cond _ x y => codeOk N E x && codeOk N E y
  | .block _ c => codeOk N E c
  | .scope c => codeOk N E c
  | .loop c => codeOk N E c
  | .rangeFunc _ ps x c => codeOk N E x && codeOk N E c && ps.toList.all (fun p => decide (p < N) && (E.y.isNone || !(p == 0))) && nodupB ps.toList
  | _ => true
section
variable {P : Program} {E : EffF} {B : Bs} {W0 : World} {ok0 A : Nat → Prop} {N : Nat}
theorem opY_in {E : EffF} {l : List Oper} (h : l.all (opY E) = true) : l.all (@opY (effIn E)) = true := h
theorem BOk.effIn (hB : BOk P E W0 ok0 A B) : BOk P (effIn E) W0 ok0 A B := ⟨hB.hr, hB.y, hB.v0, hB.rd⟩
theorem enter_fd (w : World) (fn : FuncId) (tmps : Array Value) (ps : Array Tmp) (x c : Code) (rd : Option Nat) (hrd : ∀ l, rd = some l → ∃ r, w.heap[l]? = some (.loop r)) :
    ∃ (l : Nat) (mark : List Deferred) (w1 : World) (dd : Nat), (Instr.enterLoop fn tmps ps x c rd).run P w = .ok (l, mark) w1 ∧ Below w.heap.size w w1 ∧ w.heap.size ≤ l ∧
      w1.heap[l]? = some (.loop { state := .ready, pending := none, fn, tmps, params := ps, assign := x, body := c, defers := dd }) ∧
      ((mark = [] ∧ rd.isSome = true) ∨ (rd = none ∧ mark = [markD w.heap.size] ∧ l ≠ w.heap.size ∧ w1.heap[w.heap.size]? = some (.deferred (some [])))) := by
  cases rd with
  | none =>
    refine ⟨w.heap.size + 1, _, _, w.heap.size, run_enterLoop_outer fn tmps ps x c, ((Below.refl _ w).alloc (Nat.le_refl _) _).alloc (by simp) _, by omega, ?_, .inr ⟨rfl, rfl, by omega, ?_⟩⟩
    · have := World.alloc_heap_new (w.alloc (.deferred (some []))) (.loop { state := .ready, pending := none, fn, tmps, params := ps, assign := x, body := c, defers := w.heap.size })
      simpa using this
    · rw [Below.heap_alloc _ _ _ (by simp)]
      exact World.alloc_heap_new w _
  | some l0 =>
    obtain ⟨r0, h0⟩ := hrd l0 rfl
    exact ⟨w.heap.size, [], _, r0.defers, run_enterLoop_inner h0 fn tmps ps x c, (Below.refl _ w).alloc (Nat.le_refl _) _, Nat.le_refl _, World.alloc_heap_new w _, .inl ⟨rfl, rfl⟩⟩
theorem fold_size (ps : List Tmp) : ∀ (vs : List Value) (t : Array Value), ((ps.zip vs).foldl (fun t (p : Tmp × Value) => t.setIfInBounds p.1 p.2) t).size = t.size := by
  induction ps with
  | nil => intro vs t; rfl
  | cons p ps ih =>
    intro vs t
    cases vs with
    | nil => rfl
    | cons v vs => simp only [List.zip_cons_cons, List.foldl_cons]; rw [ih]; simp
theorem fold_rel {R : AVal → Value → Prop} : ∀ (ps : List Tmp) (args : List AVal) (vs : List Value) (env : List (Nat × AVal)) (t : Array Value), args.length = ps.length → vs.length = ps.length → ps.Nodup → (∀ p ∈ ps, p < t.size) →
    (∀ j (h : j < args.length), R args[j] (vs.getD j undef)) → (∀ k, R (look env k) (t.getD k undef)) → ∀ k, R (look (ps.zip args ++ env) k) (((ps.zip vs).foldl (fun t (p : Tmp × Value) => t.setIfInBounds p.1 p.2) t).getD k undef) := by
  intro ps
  induction ps with
  | nil => intro args vs env t _ _ _ _ _ he k; simpa using he k
  | cons p ps ih =>
    intro args vs env t h1 h2 hnd hlt hr he k
    obtain ⟨x, args, rfl⟩ : ∃ x r, args = x :: r := by cases args with | nil => simp at h1 | cons x r => exact ⟨x, r, rfl⟩
    obtain ⟨v, vs, rfl⟩ : ∃ x r, vs = x :: r := by cases vs with | nil => simp at h2 | cons x r => exact ⟨x, r, rfl⟩
    simp only [List.zip_cons_cons, List.cons_append, List.foldl_cons]
    rw [List.nodup_cons] at hnd
    have hp : p < t.size := hlt p (by simp)
    have key := ih args vs ((p, x) :: env) (t.setIfInBounds p v) (by simpa using h1) (by simpa using h2) hnd.2 (fun q hq => by simpa using hlt q (by simp [hq])) (fun j hj => hr (j + 1) (by simpa using hj)) (fun q => by
      simp only [look]
      by_cases hq : p = q
      · subst hq
        have h0 : R x v := hr 0 (by simp)
        simpa [hp] using h0
      · rw [if_neg hq]
        simp only [Array.getD_eq_getD_getElem?]
        rw [Array.getElem?_setIfInBounds_ne hq]
        simpa [Array.getD_eq_getD_getElem?] using he q) k
    have hlook : ∀ (l : List (Nat × AVal)), (∀ e ∈ l, e.1 ≠ p) → look (l ++ (p, x) :: env) k = look ((p, x) :: (l ++ env)) k := by
      intro l
      induction l with
      | nil => intro _; rfl
      | cons e l ihl =>
        intro hne
        have h3 := ihl (fun e' he' => hne e' (by simp [he']))
        have h4 := hne e (by simp)
        simp only [List.cons_append, look] at h3 ⊢
        by_cases h5 : e.1 = k
        · rw [if_pos h5, if_neg (fun h6 => h4 (h5.trans h6.symm)), if_pos h5]
        · rw [if_neg h5, h3, if_neg h5]
    rw [hlook _ (fun e he' => by
      intro hep
      have := (List.of_mem_zip he').1
      rw [hep] at this
      exact hnd.1 this)] at key
    exact key
theorem fr_obj {s : ASt} {a : Act} {w : World} {β : Nat → Nat × Nat} (hr : HR W0 ok0 A β s.heap w) (henv : ∀ t, VR W0 ok0 β s.heap w (look s.env t) (a.tmps.getD t undef)) (hs : a.tmps.size = N) (hk : Kp W0 ok0 B β s.heap w a)
    {D : Nat} {o o' : Obj} (hold : w.heap[D]? = some o) (hnc : ∀ c t f, o ≠ .cells c t f) (hD : B.w.heap.size ≤ D) (hW : W0.heap.size ≤ B.w.heap.size) {ds : List Deferred}
    (hm : ∃ Ds : List Nat, ds = Ds.map markD ∧ (B.rd.isSome = true → Ds = []) ∧ Ds.Nodup ∧ ∀ D' ∈ Ds, B.w.heap.size ≤ D' ∧ okIn W0 ok0 w β s.heap D' ∧ (w.putObj D o').heap[D']? = some (.deferred (some []))) :
    FR W0 ok0 A N B s { a with defers := ds } (w.putObj D o') := by
  refine ⟨β, hr_obj hr hold hnc (fun h => by omega), fun t => vr_obj hold hnc (henv t), hs, ⟨fun x v hx => vr_obj hold hnc (hk.base x v hx), hk.len, fun b hb => ?_, hk.v0, ?_, by rw [World.putObj_size]; exact hk.wsz⟩⟩
  · obtain ⟨h1, h2⟩ := hk.ok b hb
    have hbl := hb.1
    exact ⟨okIn_putObj.2 h1, (World.putObj_heap_other (by omega)).trans h2⟩
  · obtain ⟨Ds, h1, h2, h3, h4⟩ := hm
    refine ⟨Ds, h1, h2, h3, fun D' hD' => ?_⟩
    obtain ⟨g1, g2, g3⟩ := h4 D' hD'
    exact ⟨g1, okIn_putObj.2 g2, g3⟩
theorem range_sound {g : Operand} {ps : Array Tmp} {x c : Code} {s : ASt} {h' : List AObj} {n : Nat} {Q : Exit → Act → World → Prop} {a : Act} {w : World} (hB : BOk P E W0 ok0 A B)
    (hps : ps.toList.all (fun p => decide (p < N) && (E.y.isNone || !(p == 0))) = true) (hnd : nodupB ps.toList = true) {f : FuncId} {cs : List AVal} {y : List AVal → List AObj → List AObj → Prop} (hg : ev s.env g = .func (.func f) [] cs) (hspecY : SpecY P f y cs s.heap h')
    (hround : ∀ args h1 h2, y args h1 h2 → args.length = ps.size ∧ ∃ M : ASt → Prop,
      (∀ (n : Nat) (B' : Bs) (s0 : ASt) (a : Act) (w : World) (Q : Exit → Act → World → Prop), B'.h = h1 → BOk P E W0 ok0 A B' → (∀ t, look s0.env t = look (ps.toList.zip args ++ s.env) t) → s0.heap = h1 → FR W0 ok0 A N B' s0 a w → (∀ s1 a1 w1, M s1 → FR W0 ok0 A N B' s1 a1 w1 → Q .normal a1 w1) → x.wpIn (Fd B'.rd) n P Q a w) ∧
      (∀ s1, M s1 → ∀ (n : Nat) (B' : Bs) (a : Act) (w : World) (Q : Exit → Act → World → Prop), B'.h = s1.heap → BOk P E W0 ok0 A B' → FR W0 ok0 A N B' s1 a w → (∀ s2 a2 w2, Wk s1.heap ⟨[], s2.heap⟩ ⟨[], h2⟩ → FR W0 ok0 A N B' s2 a2 w2 → Q .normal a2 w2) → c.wpIn (Fd B'.rd) n P Q a w))
    (hf : FR W0 ok0 A N B s a w) (hq : ∀ a w, FR W0 ok0 A N B ⟨s.env, h'⟩ a w → Q .normal a w) : (Code.rangeFunc g ps x c).wpIn (Fd B.rd) n P Q a w := by
  replace hnd := nodupB_nodup hnd
  obtain ⟨hcall, hspec⟩ := hspecY
  obtain ⟨β, hr, henv, hs, hk⟩ := hf
  have hgv := ev_rel hr.tab henv g
  rw [hg] at hgv
  obtain ⟨cv, hev, hcs, hcr⟩ : ∃ cv : Array Value, a.eval g = .func (.func f) #[] cv ∧ cv.size = cs.length ∧ ∀ j (h : j < cs.length), VR W0 ok0 β s.heap w cs[j] (cv.getD j undef) := by
    generalize a.eval g = u at hgv
    cases hgv with
    | func _ _ _ fv cv hfs hcs hf hc =>
      obtain rfl : fv = #[] := Array.eq_empty_of_size_eq_zero (by simpa using hfs)
      exact ⟨cv, rfl, hcs, hc⟩
  have hrdw : ∀ l, B.rd = some l → ∃ r, w.heap[l]? = some (.loop r) := fun l hl => by
    obtain ⟨g1, r, g2⟩ := hB.rd l hl
    exact ⟨r, (hk.ok l g1).2.trans g2⟩
  have heg : ∀ args w, (callFunc f args).run P w = .ok (.enter f args) w := fun args w => by
    unfold callable at hcall
    split at hcall
    · rename_i fn hfn
      simp only [Bool.and_eq_true, Bool.not_eq_true', beq_eq_false_iff_ne] at hcall
      obtain ⟨c1, c2⟩ := hcall
      obtain ⟨bd, c3⟩ := Option.isSome_iff_exists.1 c2
      simp [callFunc, hfn, c1, c3]
    · cases hcall
  have hWB : W0.heap.size ≤ B.w.heap.size := hB.hr.wsize
  refine wpIn_rangeFunc fun fn _ => ?_
  obtain ⟨l, mark, w1, dd, hent, hbel, hl, hrec, hmark⟩ := enter_fd (P := P) w fn a.tmps ps x c B.rd hrdw
  have hst1 := step_world hr hbel
  have hl1 : l < w1.heap.size := (Array.getElem?_eq_some_iff.1 hrec).1
  have hokl : okIn W0 ok0 w1 β s.heap l := ⟨hl1, fun i hi => by have := hr.lt hi.live; omega, .inl (by have := hr.wsize; omega)⟩
  have hBl : B.w.heap.size ≤ l := Nat.le_trans hk.wsz hl
  refine ⟨l, mark, w1, { target := .fn (.func f) cv, args := #[.func (.yield l) #[] #[]] }, w1, f, #[.func (.yield l) #[] #[]] ++ cv, w1, hent, ?_, fun _ _ => trivial, ?_, (fun hd => by cases hd), ?_⟩
  · simp only [resolve, hev]
    simp [go_sem]
  · simp [invoke, go_sem, heg]
  refine (calls_fd _ _ (hspec W0 ok0 A β w1 cv (.func (.yield l) #[] #[]) hst1.hr ⟨hcs, fun j hj => hst1.vr _ _ (hcr j hj)⟩ (fun args h1 h2 hyy β1 w2 vs hr2 hb2 ho2 har2 => ?_))).mono ?_
  · -- a round
    obtain ⟨hlen, M, hx, hc⟩ := hround args h1 h2 hyy
    obtain ⟨hol, hrec2⟩ := ho2 l hokl
    replace hrec2 := hrec2.trans hrec
    have hvs : vs.size = ps.size := by rw [har2.1]; exact hlen
    refine ⟨l, fn, _, x, c, rfl, run_yield hrec2 hvs, fun n' => roundIn_of_wpIn trivial ?_⟩
    have hle : Bs.le W0 ok0 B ⟨β1, h1, w2, B.v0, some l⟩ := ⟨fun u v hu => hb2 _ _ (hst1.vr _ _ (hk.base u v hu)), fun b hbb => by
      obtain ⟨g1, g2⟩ := hk.ok b hbb
      obtain ⟨g3, g4⟩ := hst1.ok b g1
      obtain ⟨g5, g6⟩ := ho2 b g3
      exact ⟨g5, g6.trans (g4.trans g2)⟩, rfl⟩
    have hB2 : BOk P E W0 ok0 A ⟨β1, h1, w2, B.v0, some l⟩ := ⟨hr2, fun yv y hy => (hB.y yv y hy).mono hle, hB.v0, fun l' hl' => by cases hl'; exact ⟨hol, _, hrec2⟩⟩
    have hps' : ∀ p ∈ ps.toList, p < N ∧ (E.y.isSome = true → p ≠ 0) := fun p hp => by
      have := List.all_eq_true.1 hps p hp
      simp only [Bool.and_eq_true, decide_eq_true_eq, Bool.or_eq_true, Bool.not_eq_true'] at this
      refine ⟨this.1, fun he h0 => ?_⟩
      rcases this.2 with h3 | h3
      · cases hy : E.y <;> simp [hy] at he h3
      · simp [h0] at h3
    have hfold : (ps.zip vs).foldl (fun tmps (p : Tmp × Value) => tmps.setIfInBounds p.1 p.2) a.tmps = (ps.toList.zip vs.toList).foldl (fun tmps (p : Tmp × Value) => tmps.setIfInBounds p.1 p.2) a.tmps := by
      rw [← Array.foldl_toList, Array.toList_zip]
    have hf2 : FR W0 ok0 A N ⟨β1, h1, w2, B.v0, some l⟩ ⟨ps.toList.zip args ++ s.env, h1⟩ { tmps := (ps.zip vs).foldl (fun tmps (p : Tmp × Value) => tmps.setIfInBounds p.1 p.2) a.tmps, defers := [] } w2 := by
      refine ⟨β1, hr2, fun t => ?_, ?_, ⟨fun _ _ h => h, Nat.le_refl _, fun _ h => ⟨h, rfl⟩, fun v hv => ?_, ⟨[], rfl, fun _ => rfl, List.nodup_nil, fun _ h => by cases h⟩, Nat.le_refl _⟩⟩
      · simp only [hfold]
        refine fold_rel (R := VR W0 ok0 β1 h1 w2) ps.toList args vs.toList s.env a.tmps (by simpa using hlen) (by simpa using hvs) hnd (fun p hp => by rw [hs]; exact (hps' p hp).1) (fun j hj => ?_) (fun k => hb2 _ _ (hst1.vr _ _ (henv k))) t
        have := har2.2 j hj
        simpa using this
      · simp only [hfold]; rw [fold_size]; exact hs
      · simp only [hfold]
        have h0 := hk.v0 v hv
        have hy0 := hB.v0 (by rw [show B.v0 = some v from hv]; rfl)
        have : ∀ (l : List (Tmp × Value)) (t : Array Value), (∀ p ∈ l, p.1 ≠ 0) → (l.foldl (fun t (p : Tmp × Value) => t.setIfInBounds p.1 p.2) t).getD 0 undef = t.getD 0 undef := by
          intro l
          induction l with
          | nil => intro t _; rfl
          | cons p l ih =>
            intro t hne
            simp only [List.foldl_cons]
            rw [ih _ (fun q hq => hne q (by simp [hq]))]
            simp only [Array.getD_eq_getD_getElem?]
            rw [Array.getElem?_setIfInBounds_ne (hne p (by simp))]
        rw [this _ _ (fun p hp => (hps' _ (List.of_mem_zip hp).1).2 hy0)]
        exact h0
    refine hx n' ⟨β1, h1, w2, B.v0, some l⟩ _ _ _ _ rfl hB2 (fun _ => rfl) rfl hf2 (fun s1 a1 w3 hM hf3 => ?_)
    obtain ⟨β3, hr3, henv3, hs3, hk3⟩ := hf3
    obtain ⟨hol3, hrec3⟩ := hk3.ok l hol
    replace hrec3 := hrec3.trans hrec2
    refine ⟨_, run_beginRound hrec3 rfl, ?_⟩
    obtain ⟨Ds3, hd3, hd3n, _, _⟩ := hk3.marks
    obtain rfl := hd3n rfl
    have hnc : ∀ r : Loop, ∀ c t f, Obj.loop r ≠ .cells c t f := fun r c t f h => by cases h
    have hl3 : l < w3.heap.size := (Array.getElem?_eq_some_iff.1 hrec3).1
    generalize hbusy : (Obj.loop { state := .busy, pending := none, fn := fn, tmps := a.tmps, params := ps, assign := x, body := c, defers := dd }) = busy
    have hw0l : W0.heap.size ≤ l := by have := hr.wsize; omega
    have hr4 := hr_obj (o' := busy) hr3 hrec3 (hnc _) (fun h => by omega)
    have hB3 : BOk P E W0 ok0 A ⟨β3, s1.heap, w3.putObj l busy, B.v0, some l⟩ := by
      refine ⟨hr4, fun yv y hy => (hB.y yv y hy).mono ⟨fun u v hu => vr_obj hrec3 (hnc _) (hk3.base _ _ (hle.base u v hu)), fun b hbb => ?_, rfl⟩, hB.v0, fun l' hl' => ?_⟩
      · obtain ⟨g1, g2⟩ := hle.ok b hbb
        obtain ⟨g3, g4⟩ := hk3.ok b g1
        have := hbb.1
        exact ⟨okIn_putObj.2 g3, (World.putObj_heap_other (by omega)).trans (g4.trans g2)⟩
      · cases hl'
        exact ⟨okIn_putObj.2 hol3, by rw [World.putObj_heap_same hl3, ← hbusy]; exact ⟨_, rfl⟩⟩
    have hf4 : FR W0 ok0 A N ⟨β3, s1.heap, w3.putObj l busy, B.v0, some l⟩ s1 a1 (w3.putObj l busy) :=
      ⟨β3, hr4, fun t => vr_obj hrec3 (hnc _) (henv3 t), hs3, ⟨fun _ _ h => h, Nat.le_refl _, fun _ h => ⟨h, rfl⟩, hk3.v0, ⟨[], hd3, fun _ => rfl, List.nodup_nil, fun _ h => by cases h⟩, Nat.le_refl _⟩⟩
    refine hc s1 hM n' ⟨β3, s1.heap, w3.putObj l busy, B.v0, some l⟩ a1 (w3.putObj l busy) _ rfl hB3 hf4 (fun s2 a5 w5 hwk hf5 => ?_)
    have hf6 : FR W0 ok0 A N ⟨β3, s1.heap, w3.putObj l busy, B.v0, some l⟩ ⟨[], h2⟩ a5 w5 := hwk _ _ _ _ _ _ _ ⟨rfl, hr4⟩ (by
      obtain ⟨β5, hr5, henv5, hs5, hk5⟩ := hf5
      exact ⟨β5, hr5, fun t => .undef _, hs5, hk5⟩)
    obtain ⟨β6, hr6, _, _, hk6⟩ := hf6
    obtain ⟨hol6, hrec6⟩ := hk6.ok l (okIn_putObj.2 hol3)
    simp only at hrec6
    rw [World.putObj_heap_same hl3, ← hbusy] at hrec6
    have hl6 : l < w5.heap.size := (Array.getElem?_eq_some_iff.1 hrec6).1
    refine ⟨_, _, run_endRound none hrec6, β6, rfl, ?_⟩
    simp only [Option.isNone_none, if_true]
    refine ⟨hr_obj hr6 hrec6 (hnc _) (fun h => by omega), fun u v hu => vr_obj hrec6 (hnc _) (hk6.base _ _ (vr_obj hrec3 (hnc _) (hk3.base _ _ hu))), Nat.le_trans hk3.len hk6.len, fun b hbb => ?_, ?_⟩
    · obtain ⟨g1, g2⟩ := hk3.ok b hbb
      obtain ⟨g3, g4⟩ := hk6.ok b (okIn_putObj.2 g1)
      refine ⟨okIn_putObj.2 g3, ?_⟩
      by_cases hbl : b = l
      · subst hbl
        rw [World.putObj_heap_same hl6, hrec2]
      · rw [World.putObj_heap_other hbl, g4]
        exact (World.putObj_heap_other hbl).trans g2
    · have g1 := hk3.wsz
      have g2 := hk6.wsz
      simp only [World.putObj_size] at g1 g2 ⊢
      omega
  · -- behind the function
    rintro e w7 ⟨v, β7, rfl, hst⟩
    obtain ⟨hol7, hrec7⟩ := hst.ok l hokl
    replace hrec7 := hrec7.trans hrec
    refine ⟨none, _, run_endLoop hrec7 (by simp), ?_⟩
    have hst' := hst1.trans hst
    have hk7 := hk.step hst'
    refine hq _ _ (fr_obj (s := ⟨s.env, h'⟩) (a := a) hst.hr (fun t => hst'.vr _ _ (henv t)) hs hk7 hrec7 (fun c t f h => by cases h) hBl hWB ?_)
    obtain ⟨Ds, g1, g2, g3, g4⟩ := hk.marks
    have hold : ∀ D ∈ Ds, B.w.heap.size ≤ D ∧ okIn W0 ok0 w7 β7 h' D ∧ (w7.putObj l (.loop { state := .exhausted, pending := none, fn := fn, tmps := a.tmps, params := ps, assign := x, body := c, defers := dd })).heap[D]? = some (.deferred (some [])) := fun D hD => by
      obtain ⟨k1, k2, k3⟩ := g4 D hD
      obtain ⟨k4, k5⟩ := hst'.ok D k2
      have := k2.1
      exact ⟨k1, k4, (World.putObj_heap_other (by omega)).trans (k5.trans k3)⟩
    rcases hmark with ⟨rfl, hrd⟩ | ⟨hrd, rfl, hne, hD⟩
    · exact ⟨Ds, by rw [← g1]; rfl, g2, g3, hold⟩
    · refine ⟨w.heap.size :: Ds, by rw [g1]; rfl, (fun h => by rw [hrd] at h; cases h), List.nodup_cons.2 ⟨fun hm => ?_, g3⟩, fun D hDm => ?_⟩
      · have := (g4 _ hm).2.1.1; omega
      · rcases List.mem_cons.1 hDm with rfl | hDm
        · have hokD : okIn W0 ok0 w1 β s.heap w.heap.size := ⟨(Array.getElem?_eq_some_iff.1 hD).1, fun i hi => by have := hr.lt hi.live; omega, .inl hr.wsize⟩
          obtain ⟨k4, k5⟩ := hst.ok _ hokD
          exact ⟨hk.wsz, k4, (World.putObj_heap_other (fun e => hne e.symm)).trans (k5.trans hD)⟩
        · exact hold D hDm
theorem putObj_comm (w : World) {i j : Nat} {x y : Obj} (h : i ≠ j) : (w.putObj j y).putObj i x = (w.putObj i x).putObj j y := by
  simp only [World.putObj]
  congr 1
  apply Array.ext_getElem?
  intro k
  simp only [Array.getElem?_setIfInBounds, Array.size_setIfInBounds]
  by_cases h1 : i = k <;> by_cases h2 : j = k
  · omega
  · simp [h1, h2]
  · simp [h1, h2]
  · simp [h1, h2]
theorem putObj_same (w : World) (i : Nat) (x y : Obj) : (w.putObj i x).putObj i y = w.putObj i y := by
  simp only [World.putObj]
  congr 1
  apply Array.ext_getElem?
  intro k
  simp only [Array.getElem?_setIfInBounds, Array.size_setIfInBounds]
  by_cases h1 : i = k <;> simp [h1]
theorem range_stop_sound {g : Operand} {ps : Array Tmp} {x c : Code} {s : ASt} {hS : List AObj} {n : Nat} {Q : Exit → Act → World → Prop} {a : Act} {w : World} (hB : BOk P E W0 ok0 A B)
    (hps : ps.toList.all (fun p => decide (p < N) && (E.y.isNone || !(p == 0))) = true) (hnd : nodupB ps.toList = true) {f : FuncId} {cs : List AVal} {y : List AVal → List AObj → List AObj → Prop} {yS : List AVal → List AObj → Prop} {ej : Exit} {jc : Code} (hj : ej = .ret ∧ jc = .ret ∨ ∃ id, ej = .exit id ∧ jc = .exit id) (hg : ev s.env g = .func (.func f) [] cs) (hspecX : SpecX P f y yS cs s.heap hS)
    (hround : ∀ args h1 h2, y args h1 h2 → args.length = ps.size ∧ ∃ M : ASt → Prop,
      (∀ (n : Nat) (B' : Bs) (s0 : ASt) (a : Act) (w : World) (Q : Exit → Act → World → Prop), B'.h = h1 → BOk P E W0 ok0 A B' → (∀ t, look s0.env t = look (ps.toList.zip args ++ s.env) t) → s0.heap = h1 → FR W0 ok0 A N B' s0 a w → (∀ s1 a1 w1, M s1 → FR W0 ok0 A N B' s1 a1 w1 → Q .normal a1 w1) → x.wpIn (Fd B'.rd) n P Q a w) ∧
      (∀ s1, M s1 → ∀ (n : Nat) (B' : Bs) (a : Act) (w : World) (Q : Exit → Act → World → Prop), B'.h = s1.heap → BOk P E W0 ok0 A B' → FR W0 ok0 A N B' s1 a w → (∀ s2 a2 w2, Wk s1.heap ⟨[], s2.heap⟩ ⟨[], h2⟩ → FR W0 ok0 A N B' s2 a2 w2 → Q .normal a2 w2) → c.wpIn (Fd B'.rd) n P Q a w))
    (hroundS : ∀ args h1, yS args h1 → args.length = ps.size ∧ ∃ M : ASt → Prop,
      (∀ (n : Nat) (B' : Bs) (s0 : ASt) (a : Act) (w : World) (Q : Exit → Act → World → Prop), B'.h = h1 → BOk P E W0 ok0 A B' → (∀ t, look s0.env t = look (ps.toList.zip args ++ s.env) t) → s0.heap = h1 → FR W0 ok0 A N B' s0 a w → (∀ s1 a1 w1, M s1 → FR W0 ok0 A N B' s1 a1 w1 → Q .normal a1 w1) → x.wpIn (Fd B'.rd) n P Q a w) ∧
      (∀ s1, M s1 → ∀ (n : Nat) (B' : Bs) (a : Act) (w : World) (Q : Exit → Act → World → Prop), B'.h = s1.heap → BOk P E W0 ok0 A B' → FR W0 ok0 A N B' s1 a w → (∀ s2 a2 w2, Wk s1.heap ⟨[], s2.heap⟩ ⟨[], hS⟩ → FR W0 ok0 A N B' s2 a2 w2 → Q ej a2 w2) → c.wpIn (Fd B'.rd) n P Q a w))
    (hf : FR W0 ok0 A N B s a w) (hq : ∀ a w, FR W0 ok0 A N B ⟨s.env, hS⟩ a w → Q ej a w) : (Code.rangeFunc g ps x c).wpIn (Fd B.rd) n P Q a w := by
  replace hnd := nodupB_nodup hnd
  obtain ⟨hcall, hspec⟩ := hspecX
  obtain ⟨β, hr, henv, hs, hk⟩ := hf
  have hgv := ev_rel hr.tab henv g
  rw [hg] at hgv
  obtain ⟨cv, hev, hcs, hcr⟩ : ∃ cv : Array Value, a.eval g = .func (.func f) #[] cv ∧ cv.size = cs.length ∧ ∀ j (h : j < cs.length), VR W0 ok0 β s.heap w cs[j] (cv.getD j undef) := by
    generalize a.eval g = u at hgv
    cases hgv with
    | func _ _ _ fv cv hfs hcs hf hc =>
      obtain rfl : fv = #[] := Array.eq_empty_of_size_eq_zero (by simpa using hfs)
      exact ⟨cv, rfl, hcs, hc⟩
  have hrdw : ∀ l, B.rd = some l → ∃ r, w.heap[l]? = some (.loop r) := fun l hl => by
    obtain ⟨g1, r, g2⟩ := hB.rd l hl
    exact ⟨r, (hk.ok l g1).2.trans g2⟩
  have heg : ∀ args w, (callFunc f args).run P w = .ok (.enter f args) w := fun args w => by
    unfold callable at hcall
    split at hcall
    · rename_i fn hfn
      simp only [Bool.and_eq_true, Bool.not_eq_true', beq_eq_false_iff_ne] at hcall
      obtain ⟨c1, c2⟩ := hcall
      obtain ⟨bd, c3⟩ := Option.isSome_iff_exists.1 c2
      simp [callFunc, hfn, c1, c3]
    · cases hcall
  have hWB : W0.heap.size ≤ B.w.heap.size := hB.hr.wsize
  refine wpIn_rangeFunc fun fn _ => ?_
  obtain ⟨l, mark, w1, dd, hent, hbel, hl, hrec, hmark⟩ := enter_fd (P := P) w fn a.tmps ps x c B.rd hrdw
  have hst1 := step_world hr hbel
  have hl1 : l < w1.heap.size := (Array.getElem?_eq_some_iff.1 hrec).1
  have hokl : okIn W0 ok0 w1 β s.heap l := ⟨hl1, fun i hi => by have := hr.lt hi.live; omega, .inl (by have := hr.wsize; omega)⟩
  have hBl : B.w.heap.size ≤ l := Nat.le_trans hk.wsz hl
  refine ⟨l, mark, w1, { target := .fn (.func f) cv, args := #[.func (.yield l) #[] #[]] }, w1, f, #[.func (.yield l) #[] #[]] ++ cv, w1, hent, ?_, fun _ _ => trivial, ?_, (fun hd => by cases hd), ?_⟩
  · simp only [resolve, hev]
    simp [go_sem]
  · simp [invoke, go_sem, heg]
  refine (calls_fd _ _ (hspec W0 ok0 A β w1 cv (.func (.yield l) #[] #[]) (fun ws w' => ws.heap[l]? = some (.loop { state := .ready, pending := none, fn := fn, tmps := a.tmps, params := ps, assign := x, body := c, defers := dd }) ∧ w' = ws.putObj l (.loop { state := .done, pending := some jc, fn := fn, tmps := a.tmps, params := ps, assign := x, body := c, defers := dd })) ⟨?_⟩ hst1.hr ⟨hcs, fun j hj => hst1.vr _ _ (hcr j hj)⟩ (fun args h1 h2 hyy β1 w2 vs hr2 hb2 ho2 har2 => ?_) (fun args h1 hyy β1 w2 vs hr2 hb2 ho2 har2 => ?_))).mono ?_
  · rintro ws w' D ⟨g1, rfl⟩ hD
    have hne : D ≠ l := by rintro rfl; rw [hD] at g1; cases g1
    exact ⟨(World.putObj_heap_other hne).trans hD, (World.putObj_heap_other hne.symm).trans g1, putObj_comm _ hne⟩
  · -- a round
    obtain ⟨hlen, M, hx, hc⟩ := hround args h1 h2 hyy
    obtain ⟨hol, hrec2⟩ := ho2 l hokl
    replace hrec2 := hrec2.trans hrec
    have hvs : vs.size = ps.size := by rw [har2.1]; exact hlen
    refine ⟨l, fn, _, x, c, rfl, run_yield hrec2 hvs, fun n' => roundIn_of_wpIn trivial ?_⟩
    have hle : Bs.le W0 ok0 B ⟨β1, h1, w2, B.v0, some l⟩ := ⟨fun u v hu => hb2 _ _ (hst1.vr _ _ (hk.base u v hu)), fun b hbb => by
      obtain ⟨g1, g2⟩ := hk.ok b hbb
      obtain ⟨g3, g4⟩ := hst1.ok b g1
      obtain ⟨g5, g6⟩ := ho2 b g3
      exact ⟨g5, g6.trans (g4.trans g2)⟩, rfl⟩
    have hB2 : BOk P E W0 ok0 A ⟨β1, h1, w2, B.v0, some l⟩ := ⟨hr2, fun yv y hy => (hB.y yv y hy).mono hle, hB.v0, fun l' hl' => by cases hl'; exact ⟨hol, _, hrec2⟩⟩
    have hps' : ∀ p ∈ ps.toList, p < N ∧ (E.y.isSome = true → p ≠ 0) := fun p hp => by
      have := List.all_eq_true.1 hps p hp
      simp only [Bool.and_eq_true, decide_eq_true_eq, Bool.or_eq_true, Bool.not_eq_true'] at this
      refine ⟨this.1, fun he h0 => ?_⟩
      rcases this.2 with h3 | h3
      · cases hy : E.y <;> simp [hy] at he h3
      · simp [h0] at h3
    have hfold : (ps.zip vs).foldl (fun tmps (p : Tmp × Value) => tmps.setIfInBounds p.1 p.2) a.tmps = (ps.toList.zip vs.toList).foldl (fun tmps (p : Tmp × Value) => tmps.setIfInBounds p.1 p.2) a.tmps := by
      rw [← Array.foldl_toList, Array.toList_zip]
    have hf2 : FR W0 ok0 A N ⟨β1, h1, w2, B.v0, some l⟩ ⟨ps.toList.zip args ++ s.env, h1⟩ { tmps := (ps.zip vs).foldl (fun tmps (p : Tmp × Value) => tmps.setIfInBounds p.1 p.2) a.tmps, defers := [] } w2 := by
      refine ⟨β1, hr2, fun t => ?_, ?_, ⟨fun _ _ h => h, Nat.le_refl _, fun _ h => ⟨h, rfl⟩, fun v hv => ?_, ⟨[], rfl, fun _ => rfl, List.nodup_nil, fun _ h => by cases h⟩, Nat.le_refl _⟩⟩
      · simp only [hfold]
        refine fold_rel (R := VR W0 ok0 β1 h1 w2) ps.toList args vs.toList s.env a.tmps (by simpa using hlen) (by simpa using hvs) hnd (fun p hp => by rw [hs]; exact (hps' p hp).1) (fun j hj => ?_) (fun k => hb2 _ _ (hst1.vr _ _ (henv k))) t
        have := har2.2 j hj
        simpa using this
      · simp only [hfold]; rw [fold_size]; exact hs
      · simp only [hfold]
        have h0 := hk.v0 v hv
        have hy0 := hB.v0 (by rw [show B.v0 = some v from hv]; rfl)
        have : ∀ (l : List (Tmp × Value)) (t : Array Value), (∀ p ∈ l, p.1 ≠ 0) → (l.foldl (fun t (p : Tmp × Value) => t.setIfInBounds p.1 p.2) t).getD 0 undef = t.getD 0 undef := by
          intro l
          induction l with
          | nil => intro t _; rfl
          | cons p l ih =>
            intro t hne
            simp only [List.foldl_cons]
            rw [ih _ (fun q hq => hne q (by simp [hq]))]
            simp only [Array.getD_eq_getD_getElem?]
            rw [Array.getElem?_setIfInBounds_ne (hne p (by simp))]
        rw [this _ _ (fun p hp => (hps' _ (List.of_mem_zip hp).1).2 hy0)]
        exact h0
    refine hx n' ⟨β1, h1, w2, B.v0, some l⟩ _ _ _ _ rfl hB2 (fun _ => rfl) rfl hf2 (fun s1 a1 w3 hM hf3 => ?_)
    obtain ⟨β3, hr3, henv3, hs3, hk3⟩ := hf3
    obtain ⟨hol3, hrec3⟩ := hk3.ok l hol
    replace hrec3 := hrec3.trans hrec2
    refine ⟨_, run_beginRound hrec3 rfl, ?_⟩
    obtain ⟨Ds3, hd3, hd3n, _, _⟩ := hk3.marks
    obtain rfl := hd3n rfl
    have hnc : ∀ r : Loop, ∀ c t f, Obj.loop r ≠ .cells c t f := fun r c t f h => by cases h
    have hl3 : l < w3.heap.size := (Array.getElem?_eq_some_iff.1 hrec3).1
    generalize hbusy : (Obj.loop { state := .busy, pending := none, fn := fn, tmps := a.tmps, params := ps, assign := x, body := c, defers := dd }) = busy
    have hw0l : W0.heap.size ≤ l := by have := hr.wsize; omega
    have hr4 := hr_obj (o' := busy) hr3 hrec3 (hnc _) (fun h => by omega)
    have hB3 : BOk P E W0 ok0 A ⟨β3, s1.heap, w3.putObj l busy, B.v0, some l⟩ := by
      refine ⟨hr4, fun yv y hy => (hB.y yv y hy).mono ⟨fun u v hu => vr_obj hrec3 (hnc _) (hk3.base _ _ (hle.base u v hu)), fun b hbb => ?_, rfl⟩, hB.v0, fun l' hl' => ?_⟩
      · obtain ⟨g1, g2⟩ := hle.ok b hbb
        obtain ⟨g3, g4⟩ := hk3.ok b g1
        have := hbb.1
        exact ⟨okIn_putObj.2 g3, (World.putObj_heap_other (by omega)).trans (g4.trans g2)⟩
      · cases hl'
        exact ⟨okIn_putObj.2 hol3, by rw [World.putObj_heap_same hl3, ← hbusy]; exact ⟨_, rfl⟩⟩
    have hf4 : FR W0 ok0 A N ⟨β3, s1.heap, w3.putObj l busy, B.v0, some l⟩ s1 a1 (w3.putObj l busy) :=
      ⟨β3, hr4, fun t => vr_obj hrec3 (hnc _) (henv3 t), hs3, ⟨fun _ _ h => h, Nat.le_refl _, fun _ h => ⟨h, rfl⟩, hk3.v0, ⟨[], hd3, fun _ => rfl, List.nodup_nil, fun _ h => by cases h⟩, Nat.le_refl _⟩⟩
    refine hc s1 hM n' ⟨β3, s1.heap, w3.putObj l busy, B.v0, some l⟩ a1 (w3.putObj l busy) _ rfl hB3 hf4 (fun s2 a5 w5 hwk hf5 => ?_)
    have hf6 : FR W0 ok0 A N ⟨β3, s1.heap, w3.putObj l busy, B.v0, some l⟩ ⟨[], h2⟩ a5 w5 := hwk _ _ _ _ _ _ _ ⟨rfl, hr4⟩ (by
      obtain ⟨β5, hr5, henv5, hs5, hk5⟩ := hf5
      exact ⟨β5, hr5, fun t => .undef _, hs5, hk5⟩)
    obtain ⟨β6, hr6, _, _, hk6⟩ := hf6
    obtain ⟨hol6, hrec6⟩ := hk6.ok l (okIn_putObj.2 hol3)
    simp only at hrec6
    rw [World.putObj_heap_same hl3, ← hbusy] at hrec6
    have hl6 : l < w5.heap.size := (Array.getElem?_eq_some_iff.1 hrec6).1
    refine ⟨_, _, run_endRound none hrec6, β6, rfl, ?_⟩
    simp only [Option.isNone_none, if_true]
    refine ⟨hr_obj hr6 hrec6 (hnc _) (fun h => by omega), fun u v hu => vr_obj hrec6 (hnc _) (hk6.base _ _ (vr_obj hrec3 (hnc _) (hk3.base _ _ hu))), Nat.le_trans hk3.len hk6.len, fun b hbb => ?_, ?_⟩
    · obtain ⟨g1, g2⟩ := hk3.ok b hbb
      obtain ⟨g3, g4⟩ := hk6.ok b (okIn_putObj.2 g1)
      refine ⟨okIn_putObj.2 g3, ?_⟩
      by_cases hbl : b = l
      · subst hbl
        rw [World.putObj_heap_same hl6, hrec2]
      · rw [World.putObj_heap_other hbl, g4]
        exact (World.putObj_heap_other hbl).trans g2
    · have g1 := hk3.wsz
      have g2 := hk6.wsz
      simp only [World.putObj_size] at g1 g2 ⊢
      omega
  · -- the last round
    obtain ⟨hlen, M, hx, hc⟩ := hroundS args h1 hyy
    obtain ⟨hol, hrec2⟩ := ho2 l hokl
    replace hrec2 := hrec2.trans hrec
    have hvs : vs.size = ps.size := by rw [har2.1]; exact hlen
    refine ⟨l, fn, _, x, c, rfl, run_yield hrec2 hvs, fun n' => roundIn_of_wpIn trivial ?_⟩
    have hle : Bs.le W0 ok0 B ⟨β1, h1, w2, B.v0, some l⟩ := ⟨fun u v hu => hb2 _ _ (hst1.vr _ _ (hk.base u v hu)), fun b hbb => by
      obtain ⟨g1, g2⟩ := hk.ok b hbb
      obtain ⟨g3, g4⟩ := hst1.ok b g1
      obtain ⟨g5, g6⟩ := ho2 b g3
      exact ⟨g5, g6.trans (g4.trans g2)⟩, rfl⟩
    have hB2 : BOk P E W0 ok0 A ⟨β1, h1, w2, B.v0, some l⟩ := ⟨hr2, fun yv y hy => (hB.y yv y hy).mono hle, hB.v0, fun l' hl' => by cases hl'; exact ⟨hol, _, hrec2⟩⟩
    have hps' : ∀ p ∈ ps.toList, p < N ∧ (E.y.isSome = true → p ≠ 0) := fun p hp => by
      have := List.all_eq_true.1 hps p hp
      simp only [Bool.and_eq_true, decide_eq_true_eq, Bool.or_eq_true, Bool.not_eq_true'] at this
      refine ⟨this.1, fun he h0 => ?_⟩
      rcases this.2 with h3 | h3
      · cases hy : E.y <;> simp [hy] at he h3
      · simp [h0] at h3
    have hfold : (ps.zip vs).foldl (fun tmps (p : Tmp × Value) => tmps.setIfInBounds p.1 p.2) a.tmps = (ps.toList.zip vs.toList).foldl (fun tmps (p : Tmp × Value) => tmps.setIfInBounds p.1 p.2) a.tmps := by
      rw [← Array.foldl_toList, Array.toList_zip]
    have hf2 : FR W0 ok0 A N ⟨β1, h1, w2, B.v0, some l⟩ ⟨ps.toList.zip args ++ s.env, h1⟩ { tmps := (ps.zip vs).foldl (fun tmps (p : Tmp × Value) => tmps.setIfInBounds p.1 p.2) a.tmps, defers := [] } w2 := by
      refine ⟨β1, hr2, fun t => ?_, ?_, ⟨fun _ _ h => h, Nat.le_refl _, fun _ h => ⟨h, rfl⟩, fun v hv => ?_, ⟨[], rfl, fun _ => rfl, List.nodup_nil, fun _ h => by cases h⟩, Nat.le_refl _⟩⟩
      · simp only [hfold]
        refine fold_rel (R := VR W0 ok0 β1 h1 w2) ps.toList args vs.toList s.env a.tmps (by simpa using hlen) (by simpa using hvs) hnd (fun p hp => by rw [hs]; exact (hps' p hp).1) (fun j hj => ?_) (fun k => hb2 _ _ (hst1.vr _ _ (henv k))) t
        have := har2.2 j hj
        simpa using this
      · simp only [hfold]; rw [fold_size]; exact hs
      · simp only [hfold]
        have h0 := hk.v0 v hv
        have hy0 := hB.v0 (by rw [show B.v0 = some v from hv]; rfl)
        have : ∀ (l : List (Tmp × Value)) (t : Array Value), (∀ p ∈ l, p.1 ≠ 0) → (l.foldl (fun t (p : Tmp × Value) => t.setIfInBounds p.1 p.2) t).getD 0 undef = t.getD 0 undef := by
          intro l
          induction l with
          | nil => intro t _; rfl
          | cons p l ih =>
            intro t hne
            simp only [List.foldl_cons]
            rw [ih _ (fun q hq => hne q (by simp [hq]))]
            simp only [Array.getD_eq_getD_getElem?]
            rw [Array.getElem?_setIfInBounds_ne (hne p (by simp))]
        rw [this _ _ (fun p hp => (hps' _ (List.of_mem_zip hp).1).2 hy0)]
        exact h0
    refine hx n' ⟨β1, h1, w2, B.v0, some l⟩ _ _ _ _ rfl hB2 (fun _ => rfl) rfl hf2 (fun s1 a1 w3 hM hf3 => ?_)
    obtain ⟨β3, hr3, henv3, hs3, hk3⟩ := hf3
    obtain ⟨hol3, hrec3⟩ := hk3.ok l hol
    replace hrec3 := hrec3.trans hrec2
    refine ⟨_, run_beginRound hrec3 rfl, ?_⟩
    obtain ⟨Ds3, hd3, hd3n, _, _⟩ := hk3.marks
    obtain rfl := hd3n rfl
    have hnc : ∀ r : Loop, ∀ c t f, Obj.loop r ≠ .cells c t f := fun r c t f h => by cases h
    have hl3 : l < w3.heap.size := (Array.getElem?_eq_some_iff.1 hrec3).1
    generalize hbusy : (Obj.loop { state := .busy, pending := none, fn := fn, tmps := a.tmps, params := ps, assign := x, body := c, defers := dd }) = busy
    have hw0l : W0.heap.size ≤ l := by have := hr.wsize; omega
    have hr4 := hr_obj (o' := busy) hr3 hrec3 (hnc _) (fun h => by omega)
    have hB3 : BOk P E W0 ok0 A ⟨β3, s1.heap, w3.putObj l busy, B.v0, some l⟩ := by
      refine ⟨hr4, fun yv y hy => (hB.y yv y hy).mono ⟨fun u v hu => vr_obj hrec3 (hnc _) (hk3.base _ _ (hle.base u v hu)), fun b hbb => ?_, rfl⟩, hB.v0, fun l' hl' => ?_⟩
      · obtain ⟨g1, g2⟩ := hle.ok b hbb
        obtain ⟨g3, g4⟩ := hk3.ok b g1
        have := hbb.1
        exact ⟨okIn_putObj.2 g3, (World.putObj_heap_other (by omega)).trans (g4.trans g2)⟩
      · cases hl'
        exact ⟨okIn_putObj.2 hol3, by rw [World.putObj_heap_same hl3, ← hbusy]; exact ⟨_, rfl⟩⟩
    have hf4 : FR W0 ok0 A N ⟨β3, s1.heap, w3.putObj l busy, B.v0, some l⟩ s1 a1 (w3.putObj l busy) :=
      ⟨β3, hr4, fun t => vr_obj hrec3 (hnc _) (henv3 t), hs3, ⟨fun _ _ h => h, Nat.le_refl _, fun _ h => ⟨h, rfl⟩, hk3.v0, ⟨[], hd3, fun _ => rfl, List.nodup_nil, fun _ h => by cases h⟩, Nat.le_refl _⟩⟩
    refine hc s1 hM n' ⟨β3, s1.heap, w3.putObj l busy, B.v0, some l⟩ a1 (w3.putObj l busy) _ rfl hB3 hf4 (fun s2 a5 w5 hwk hf5 => ?_)
    have hf6 : FR W0 ok0 A N ⟨β3, s1.heap, w3.putObj l busy, B.v0, some l⟩ ⟨[], hS⟩ a5 w5 := hwk _ _ _ _ _ _ _ ⟨rfl, hr4⟩ (by
      obtain ⟨β5, hr5, henv5, hs5, hk5⟩ := hf5
      exact ⟨β5, hr5, fun t => .undef _, hs5, hk5⟩)
    obtain ⟨β6, hr6, _, _, hk6⟩ := hf6
    obtain ⟨hol6, hrec6⟩ := hk6.ok l (okIn_putObj.2 hol3)
    simp only at hrec6
    rw [World.putObj_heap_same hl3, ← hbusy] at hrec6
    have hl6 : l < w5.heap.size := (Array.getElem?_eq_some_iff.1 hrec6).1
    have fin : Step W0 ok0 A β1 h1 w2 β6 hS (w5.putObj l (.loop { state := .ready, pending := none, fn := fn, tmps := a.tmps, params := ps, assign := x, body := c, defers := dd })) := ?fin
    have hz : w5.putObj l (.loop { state := .done, pending := some jc, fn := fn, tmps := a.tmps, params := ps, assign := x, body := c, defers := dd }) = (w5.putObj l (.loop { state := .ready, pending := none, fn := fn, tmps := a.tmps, params := ps, assign := x, body := c, defers := dd })).putObj l (.loop { state := .done, pending := some jc, fn := fn, tmps := a.tmps, params := ps, assign := x, body := c, defers := dd }) := (putObj_same _ _ _ _).symm
    rcases hj with ⟨rfl, rfl⟩ | ⟨id, rfl, rfl⟩
    · exact ⟨_, _, run_endRound (some .ret) hrec6, β6, _, rfl, fin, World.putObj_heap_same hl6, hz⟩
    · exact ⟨_, _, run_endRound (some (.exit id)) hrec6, β6, _, rfl, fin, World.putObj_heap_same hl6, hz⟩
    refine ⟨hr_obj hr6 hrec6 (hnc _) (fun h => by omega), fun u v hu => vr_obj hrec6 (hnc _) (hk6.base _ _ (vr_obj hrec3 (hnc _) (hk3.base _ _ hu))), Nat.le_trans hk3.len hk6.len, fun b hbb => ?_, ?_⟩
    · obtain ⟨g1, g2⟩ := hk3.ok b hbb
      obtain ⟨g3, g4⟩ := hk6.ok b (okIn_putObj.2 g1)
      refine ⟨okIn_putObj.2 g3, ?_⟩
      by_cases hbl : b = l
      · subst hbl
        rw [World.putObj_heap_same hl6, hrec2]
      · rw [World.putObj_heap_other hbl, g4]
        exact (World.putObj_heap_other hbl).trans g2
    · have g1 := hk3.wsz
      have g2 := hk6.wsz
      simp only [World.putObj_size] at g1 g2 ⊢
      omega
  · -- behind the function
    rintro e w7 ⟨v, β7, ws, rfl, hst, hrec7, rfl⟩
    obtain ⟨hol7, _⟩ := hst.ok l hokl
    have hl7 : l < ws.heap.size := (Array.getElem?_eq_some_iff.1 hrec7).1
    refine ⟨some jc, _, run_endLoop (World.putObj_heap_same hl7) (by simp), ?_⟩
    have hst' := hst1.trans hst
    have hk7 := hk.step hst'
    rw [putObj_same]
    have hfin : ∀ ds, (∃ Ds : List Nat, ds = Ds.map markD ∧ (B.rd.isSome = true → Ds = []) ∧ Ds.Nodup ∧ ∀ D' ∈ Ds, B.w.heap.size ≤ D' ∧ okIn W0 ok0 ws β7 hS D' ∧ (ws.putObj l (.loop { state := .exhausted, pending := some jc, fn := fn, tmps := a.tmps, params := ps, assign := x, body := c, defers := dd })).heap[D']? = some (.deferred (some []))) →
        FR W0 ok0 A N B ⟨s.env, hS⟩ { a with defers := ds } (ws.putObj l (.loop { state := .exhausted, pending := some jc, fn := fn, tmps := a.tmps, params := ps, assign := x, body := c, defers := dd })) := fun ds hm =>
      fr_obj (s := ⟨s.env, hS⟩) (a := a) hst.hr (fun t => hst'.vr _ _ (henv t)) hs hk7 hrec7 (fun c t f h => by cases h) hBl hWB hm
    have hjump : ∀ a' w', FR W0 ok0 A N B ⟨s.env, hS⟩ a' w' → jc.wpIn (Fd B.rd) n P Q a' w' := fun a' w' hf' => by
      rcases hj with ⟨rfl, rfl⟩ | ⟨id, rfl, rfl⟩
      · exact wpIn_ret (hq _ _ hf')
      · exact wpIn_exit (hq _ _ hf')
    refine hjump _ _ (hfin _ ?_)
    obtain ⟨Ds, g1, g2, g3, g4⟩ := hk.marks
    have hold : ∀ D ∈ Ds, B.w.heap.size ≤ D ∧ okIn W0 ok0 ws β7 hS D ∧ (ws.putObj l (.loop { state := .exhausted, pending := some jc, fn := fn, tmps := a.tmps, params := ps, assign := x, body := c, defers := dd })).heap[D]? = some (.deferred (some [])) := fun D hD => by
      obtain ⟨k1, k2, k3⟩ := g4 D hD
      obtain ⟨k4, k5⟩ := hst'.ok D k2
      have := k2.1
      exact ⟨k1, k4, (World.putObj_heap_other (by omega)).trans (k5.trans k3)⟩
    rcases hmark with ⟨rfl, hrd⟩ | ⟨hrd, rfl, hne, hD⟩
    · exact ⟨Ds, by rw [← g1]; rfl, g2, g3, hold⟩
    · refine ⟨w.heap.size :: Ds, by rw [g1]; rfl, (fun h => by rw [hrd] at h; cases h), List.nodup_cons.2 ⟨fun hm => ?_, g3⟩, fun D hDm => ?_⟩
      · have := (g4 _ hm).2.1.1; omega
      · rcases List.mem_cons.1 hDm with rfl | hDm
        · have hokD : okIn W0 ok0 w1 β s.heap w.heap.size := ⟨(Array.getElem?_eq_some_iff.1 hD).1, fun i hi => by have := hr.lt hi.live; omega, .inl hr.wsize⟩
          obtain ⟨k4, k5⟩ := hst.ok _ hokD
          exact ⟨hk.wsz, k4, (World.putObj_heap_other (fun e => hne e.symm)).trans (k5.trans hD)⟩
        · exact hold D hDm
theorem awp_sound (hm : P.follows .mixedOrders = true) : ∀ (c : Code) (n : Nat) (B : Bs) (hb : List AObj) (Qa : Exit → ASt → Prop) (Q : Exit → Act → World → Prop) (s : ASt) (a : Act) (w : World), B.h = hb → BOk P E W0 ok0 A B → codeOk N E c = true → (∀ e s a w, Qa e s → FR W0 ok0 A N B s a w → Q e a w) →
    awp P E hb c Qa s → FR W0 ok0 A N B s a w → c.wpIn (Fd B.rd) n P Q a w := by
  intro c
  induction c with
  | skip => intro n B hb Qa Q s a w _ _ _ hq h hf; exact wpIn_skip (hq _ _ _ _ h hf)
  | region id ops d =>
    intro n B hb Qa Q s a w hBh hB hok hq h hf
    simp only [codeOk, Bool.and_eq_true, Bool.or_eq_true, Bool.not_eq_true'] at hok
    obtain ⟨⟨h1, h1y⟩, h2⟩ := hok
    cases d with
    | true =>
      exact draw_sound n hB hm (h2.resolve_left (by simp)) h1 h1y (fun s a w => hq _ s a w) h hf
    | false =>
      have := @awpList_sound P B W0 ok0 A N (effIn E) n hB.effIn _ _ Q (fun s a w => hq _ s a w) ops.toList s a w h1 (opY_in h1y) h hf
      simp only [Array.toArray_toList] at this
      exact wpIn_region_list this
  | seq x y ihx ihy =>
    intro n B hb Qa Q s a w hBh hB hok hq h hf
    simp only [codeOk, Bool.and_eq_true] at hok
    refine wpIn_seq (ihx _ _ _ _ _ s a w hBh hB hok.1 (fun e s a w he hf => ?_) h hf)
    cases e with
    | normal => exact ihy _ _ _ _ _ s a w hBh hB hok.2 hq he hf
    | _ => exact hq _ _ _ _ he hf
  | cond c x y ihx ihy =>
    intro n B hb Qa Q s a w hBh hB hok hq h hf
    simp only [codeOk, Bool.and_eq_true] at hok
    simp only [awp] at h
    split at h
    · rename_i b hb'
      obtain ⟨β, hr, henv, hs, hd⟩ := hf
      have hc := ev_rel hr.tab henv c
      rw [hb'] at hc
      have hcb : a.eval c = .bool b := by
        generalize a.eval c = u at hc
        cases hc; rfl
      refine wpIn_cond hcb ?_
      cases b with
      | true => exact ihx _ _ _ _ _ s a w hBh hB hok.1 hq (h.1 rfl) ⟨β, hr, henv, hs, hd⟩
      | false => exact ihy _ _ _ _ _ s a w hBh hB hok.2 hq (h.2 rfl) ⟨β, hr, henv, hs, hd⟩
    · exact h.elim
  | scope c ih =>
    intro n B hb Qa Q s a w hBh hB hok hq h hf
    refine wpIn_scope (ih _ _ _ _ _ s a w hBh hB hok (fun e s a w he hf => ?_) h hf)
    cases e with
    | goto l => exact he.elim
    | _ => exact hq _ _ _ _ he hf
  | label l => intro n B hb Qa Q s a w _ _ _ hq h hf; exact wpIn_label (hq _ _ _ _ h hf)
  | block id c ih =>
    intro n B hb Qa Q s a w hBh hB hok hq h hf
    refine wpIn_block (ih _ _ _ _ _ s a w hBh hB hok (fun e s a w he hf => ?_) h hf)
    cases e with
    | exit id' =>
      simp only [Exit.inBlock] at he ⊢
      split
      · rename_i hid; rw [if_pos hid] at he; exact hq _ _ _ _ he hf
      · rename_i hid; rw [if_neg hid] at he; exact hq _ _ _ _ he hf
    | _ => exact hq _ _ _ _ he hf
  | loop c ih =>
    intro nn B hb Qa Q s a w hBh hB hok hq h hf
    obtain ⟨I, n, ⟨s1, hw1, h0⟩, hr⟩ := h
    have hnb : B.h = hb ∧ HR W0 ok0 A B.β B.h B.w := ⟨hBh, hB.hr⟩
    refine wp_loop_fuel (fun n a w => ∃ s, I n s ∧ FR W0 ok0 A N B s a w) (fun n a w ⟨s, hs, hf⟩ => ?_) (n := n) ⟨_, h0, hw1 _ _ _ _ _ _ _ hnb hf⟩
    refine ih _ _ _ _ _ s a w hBh hB hok (fun e s a w he hf => ?_) (hr n s hs) hf
    cases e with
    | normal =>
      obtain ⟨m, s1, hlt, hw1, hm⟩ := he
      exact ⟨m, hlt, _, hm, hw1 _ _ _ _ _ _ _ hnb hf⟩
    | _ => exact hq _ _ _ _ he hf
  | exit id => intro n B hb Qa Q s a w _ _ _ hq h hf; exact wpIn_exit (hq _ _ _ _ h hf)
  | ret => intro n B hb Qa Q s a w _ _ _ hq h hf; exact wpIn_ret (hq _ _ _ _ h hf)
  | rangeFunc g ps x c ihx ihc =>
    intro n B hb Qa Q s0 a w hBh hB hok hq h hf
    simp only [codeOk, Bool.and_eq_true] at hok
    obtain ⟨⟨⟨hokx, hokc⟩, hps⟩, hnd⟩ := hok
    have hall : ∀ (s : ASt) (args : List AVal) (h1 h2 : List AObj) (ez : Exit), (args.length = ps.size ∧ awp P E h1 x (fun e s1 => e = .normal ∧ awp P E s1.heap c (fun e s2 => e = ez ∧ Wk s1.heap ⟨[], s2.heap⟩ ⟨[], h2⟩) s1) ⟨ps.toList.zip args ++ s.env, h1⟩) → args.length = ps.size ∧ ∃ M : ASt → Prop,
        (∀ (n : Nat) (B' : Bs) (s0 : ASt) (a : Act) (w : World) (Q : Exit → Act → World → Prop), B'.h = h1 → BOk P E W0 ok0 A B' → (∀ t, look s0.env t = look (ps.toList.zip args ++ s.env) t) → s0.heap = h1 → FR W0 ok0 A N B' s0 a w → (∀ s1 a1 w1, M s1 → FR W0 ok0 A N B' s1 a1 w1 → Q .normal a1 w1) → x.wpIn (Fd B'.rd) n P Q a w) ∧
        (∀ s1, M s1 → ∀ (n : Nat) (B' : Bs) (a : Act) (w : World) (Q : Exit → Act → World → Prop), B'.h = s1.heap → BOk P E W0 ok0 A B' → FR W0 ok0 A N B' s1 a w → (∀ s2 a2 w2, Wk s1.heap ⟨[], s2.heap⟩ ⟨[], h2⟩ → FR W0 ok0 A N B' s2 a2 w2 → Q ez a2 w2) → c.wpIn (Fd B'.rd) n P Q a w) := by
      rintro s args h1 h2 ez ⟨hlen, hA⟩
      refine ⟨hlen, fun s1 => awp P E s1.heap c (fun e s2 => e = ez ∧ Wk s1.heap ⟨[], s2.heap⟩ ⟨[], h2⟩) s1, fun n B' s0 a w Q hBh hB' hs0 hh0 hf hQ => ?_, fun s1 hA2 n B' a w Q hBh hB' hf hQ => ?_⟩
      · have hf' : FR W0 ok0 A N B' ⟨ps.toList.zip args ++ s.env, h1⟩ a w := by
          obtain ⟨β, hr, henv, hs, hk⟩ := hf
          rw [hh0] at hr hk
          exact ⟨β, hr, fun t => by rw [← hs0 t, ← hh0]; exact henv t, hs, hk⟩
        refine ihx n B' h1 _ _ _ _ _ hBh hB' hokx (fun e s1 a1 w1 he hf1 => ?_) hA hf'
        obtain ⟨rfl, hA2⟩ := he
        exact hQ s1 a1 w1 hA2 hf1
      · refine ihc n B' s1.heap _ _ _ _ _ hBh hB' hokc (fun e s2 a2 w2 he hf2 => ?_) hA2 hf
        obtain ⟨rfl, hwk⟩ := he
        exact hQ s2 a2 w2 hwk hf2
    rcases h with ⟨s, hws, f, cs, y, h', hg, hspec, hround, hQ⟩ | ⟨s, hws, f, cs, y, yS, hS, ej, hg, hspec, hej, hround, hroundS, hQ⟩
    · replace hf := hws _ _ _ _ _ _ _ ⟨hBh, hB.hr⟩ hf
      exact range_sound hB hps hnd hg hspec (fun args h1 h2 hyy => hall s args h1 h2 .normal (hround args h1 h2 hyy)) hf (fun a w hf => hq _ _ _ _ hQ hf)
    · replace hf := hws _ _ _ _ _ _ _ ⟨hBh, hB.hr⟩ hf
      obtain ⟨jc, hj⟩ : ∃ jc : Code, ej = .ret ∧ jc = .ret ∨ ∃ id, ej = .exit id ∧ jc = .exit id := by
        rcases hej with h | ⟨id, h⟩
        · exact ⟨.ret, .inl ⟨h, rfl⟩⟩
        · exact ⟨.exit id, .inr ⟨id, h, rfl⟩⟩
      exact range_stop_sound hB hps hnd hj hg hspec (fun args h1 h2 hyy => hall s args h1 h2 .normal (hround args h1 h2 hyy)) (fun args h1 hyy => hall s args h1 hS ej (hroundS args h1 hyy)) hf (fun a w hf => hq _ _ _ _ hQ hf)
  | _ => intros; rename_i h _; exact h.elim
def resAt (P : Program) (s : ASt) : ResultVar → Option AVal
  | .tmp t => some (look s.env t)
  | .cell a t => match pview s.heap (look s.env a) with
    | some cs => aPart P t cs
    | none => none
def resVal (P : Program) (fn : Func) (s : ASt) : Option AVal :=
  match fn.results.toList.mapM (resAt P s) with
  | some [x] => some x
  | some l => some (.tuple l)
  | none => none
theorem resAt_rel {β : Nat → Nat × Nat} {s : ASt} {a : Act} {w : World} (hr : HR W0 ok0 A β s.heap w) (henv : ∀ t, VR W0 ok0 β s.heap w (look s.env t) (a.tmps.getD t undef)) {r : ResultVar} {x : AVal} (hx : resAt P s r = some x) :
    ∃ v, (match r with | .tmp t => pure (a.tmps.getD t undef) | .cell p t => do loadVar t (← asAddr (a.tmps.getD p undef)) : Sem Value).run P w = .ok v w ∧ VR W0 ok0 β s.heap w x v := by
  cases r with
  | tmp t => simp only [resAt, Option.some.injEq] at hx; subst hx; exact ⟨_, rfl, henv t⟩
  | cell p t =>
    simp only [resAt] at hx
    split at hx
    · rename_i cs hp
      obtain ⟨b, off, hv, hc⟩ := pview_rel hr (henv p) hp
      obtain ⟨v, h1, h2⟩ := loadVar_rel hx hc
      refine ⟨v, ?_, h2⟩
      simp [hv, asAddr, h1]
    · cases hx
theorem resVal_rel {β : Nat → Nat × Nat} {s : ASt} {a : Act} {w : World} (hr : HR W0 ok0 A β s.heap w) (henv : ∀ t, VR W0 ok0 β s.heap w (look s.env t) (a.tmps.getD t undef)) {fn : Func} {x : AVal} (hx : resVal P fn s = some x) :
    ∃ v, (results fn a.tmps).run P w = .ok v w ∧ VR W0 ok0 β s.heap w x v := by
  have key : ∀ (l : List ResultVar) (xs : List AVal), l.mapM (resAt P s) = some xs → ∃ vs : List Value, (l.mapM (fun r => match r with | .tmp t => pure (a.tmps.getD t undef) | .cell p t => do loadVar t (← asAddr (a.tmps.getD p undef)) : ResultVar → Sem Value)).run P w = .ok vs w ∧ vs.length = xs.length ∧ ∀ j (hj : j < xs.length), VR W0 ok0 β s.heap w xs[j] (vs.getD j undef) := by
    intro l
    induction l with
    | nil => intro xs h; simp at h; subst h; exact ⟨[], by simp, rfl, fun j hj => by simp at hj⟩
    | cons r l ih =>
      intro xs h
      simp only [List.mapM_cons, Option.bind_eq_bind, Option.pure_def] at h
      cases h1 : resAt P s r with
      | none => simp [h1] at h
      | some x =>
        cases h2 : l.mapM (resAt P s) with
        | none => simp [h1, h2] at h
        | some xs' =>
          simp [h1, h2] at h
          subst h
          obtain ⟨v, g1, g2⟩ := resAt_rel hr henv h1
          obtain ⟨vs, g3, g4, g5⟩ := ih xs' h2
          refine ⟨v :: vs, ?_, by simp [g4], fun j hj => ?_⟩
          · simp only [List.mapM_cons, Sem.run_bind, g1, Result.andThen_ok, g3, Sem.run_pure]
          · cases j with
            | zero => simpa using g2
            | succ j => simpa using g5 j (by simpa using hj)
  unfold resVal at hx
  cases hm : fn.results.toList.mapM (resAt P s) with
  | none => simp [hm] at hx
  | some xs =>
    obtain ⟨vs, g1, g2, g3⟩ := key _ _ hm
    have hrun : (results fn a.tmps).run P w = .ok (if h : vs.toArray.size = 1 then vs.toArray[0] else .tuple vs.toArray) w := by
      unfold results
      simp only [Sem.run_bind, Array.mapM_eq_mapM_toList, Sem.run_map]
      exact Eq.trans (congrArg (fun (r : Result (List Value)) => (r.andThen fun a w' => Result.ok a.toArray w').andThen fun a w' => Sem.run P (pure (if h : a.size = 1 then a[0] else Value.tuple a)) w') g1) rfl
    rw [hm] at hx
    rcases xs with _ | ⟨x0, _ | ⟨x1, xr⟩⟩
    · simp only [Option.some.injEq] at hx; subst hx
      obtain rfl : vs = [] := List.eq_nil_of_length_eq_zero (by simpa using g2)
      exact ⟨.tuple #[], by rw [hrun]; simp, .tuple _ _ rfl (fun j hj => by simp at hj)⟩
    · simp only [Option.some.injEq] at hx; subst hx
      obtain ⟨v0, rfl⟩ : ∃ v0, vs = [v0] := by
        rcases vs with _ | ⟨v0, _ | ⟨v1, vr⟩⟩
        · simp at g2
        · exact ⟨v0, rfl⟩
        · simp at g2
      refine ⟨v0, by rw [hrun]; simp, ?_⟩
      simpa using g3 0 (by simp)
    · simp only [Option.some.injEq] at hx; subst hx
      refine ⟨.tuple vs.toArray, by rw [hrun, dif_neg (by simp at g2 ⊢; omega)], .tuple _ _ (by simp at g2 ⊢; omega) (fun j hj => ?_)⟩
      have := g3 j hj
      have hj' : j < vs.length := by omega
      simpa [VR, hj'] using this
def args0 (args : List AVal) : List (Nat × AVal) := args.zipIdx.map fun (v, i) => (i, v)
theorem look_args : ∀ (args : List AVal) (k t : Nat), look ((args.zipIdx k).map fun (p : AVal × Nat) => (p.2, p.1)) t = if k ≤ t then (args[t - k]?).getD .undef else .undef := by
  intro args
  induction args with
  | nil => intro k t; simp [look]
  | cons x args ih =>
    intro k t
    simp only [List.zipIdx_cons, List.map_cons, look]
    by_cases hk : k = t
    · subst hk; simp
    · rw [if_neg hk, ih]
      by_cases h1 : k + 1 ≤ t
      · rw [if_pos h1, if_pos (by omega)]
        have : t - k = (t - (k + 1)) + 1 := by omega
        rw [this, List.getElem?_cons_succ]
      · rw [if_neg h1, if_neg (by omega)]
theorem fr_leave {n : Nat} {fn : Func} {R : Ending → World → Prop} {s : ASt} (hW : W0.heap.size ≤ B.w.heap.size) : ∀ (Ds : List Nat) (a : Act) (w : World), a.defers = Ds.map markD → FR W0 ok0 A N B s a w →
    (∀ w', FR W0 ok0 A N B s { a with defers := [] } w' → ∃ v, (results fn a.tmps).run P w' = .ok v w' ∧ R (.returned v) w') → LeavesInM (Fd none) n P fn a.tmps R a.defers .returning w := by
  intro Ds
  induction Ds with
  | nil =>
    intro a w hd hf h
    rw [hd]
    have ha : a = { a with defers := [] } := by cases a; simp_all
    exact h w (by rw [← ha]; exact hf)
  | cons D Ds ih =>
    intro a w hd hf h
    obtain ⟨β, hr, henv, hs, hk⟩ := hf
    obtain ⟨Ds', g1, g2, g3, g4⟩ := hk.marks
    have hinj : ∀ (l l' : List Nat), l.map markD = l'.map markD → l = l' := by
      intro l
      induction l with
      | nil => intro l' h; cases l' with | nil => rfl | cons _ _ => cases h
      | cons x l ih =>
        intro l' h
        cases l' with
        | nil => cases h
        | cons y l' =>
          simp only [List.map_cons, List.cons.injEq] at h
          have h1 : x = y := by have := h.1; simp only [markD, Deferred.mk.injEq, Target.collected.injEq] at this; exact this.1
          rw [h1, ih _ h.2]
    obtain rfl : Ds' = D :: Ds := hinj _ _ (g1.symm.trans hd)
    obtain ⟨k1, k2, k3⟩ := g4 D (by simp)
    rw [hd, List.map_cons]
    refine ⟨by simp, .inl ⟨D, _, rfl, run_takeDeferred k3, ?_⟩⟩
    rw [List.nodup_cons] at g3
    have := fr_obj (o' := .deferred none) (ds := Ds.map markD) hr henv hs hk k3 (fun c t f h => by cases h) k1 hW ⟨Ds, rfl, (fun hrd => by have := g2 hrd; cases this), g3.2, fun D' hD' => by
      obtain ⟨q1, q2, q3⟩ := g4 D' (by simp [hD'])
      exact ⟨q1, q2, (World.putObj_heap_other (by rintro rfl; exact g3.1 hD')).trans q3⟩⟩
    exact ih { a with defers := Ds.map markD } _ rfl this h
theorem bok_plain (hr : HR W0 ok0 A B.β B.h B.w) (hy : E.y = none) (hv : B.v0 = none) (hd : B.rd = none) : BOk P E W0 ok0 A B :=
  ⟨hr, fun yv y h => by (rw [hy] at h; cases h), fun h => by (rw [hv] at h; cases h), fun l h => by (rw [hd] at h; cases h)⟩
theorem kp_refl {β : Nat → Nat × Nat} {h : List AObj} {w : World} {v0 : Option Value} {a : Act} (hv : ∀ v, v0 = some v → a.tmps.getD 0 undef = v) (hd : a.defers = []) : Kp W0 ok0 ⟨β, h, w, v0, none⟩ β h w a :=
  ⟨fun _ _ h => h, Nat.le_refl _, fun _ h => ⟨h, rfl⟩, hv, ⟨[], hd, fun _ => rfl, List.nodup_nil, fun _ h => by cases h⟩, Nat.le_refl _⟩
theorem look_args0 (args : List AVal) (t : Nat) : look (args0 args) t = (args[t]?).getD .undef := by
  have := look_args args 0 t
  simpa [args0] using this
theorem args0_rel {R : AVal → Value → Prop} (hu : ∀ v, R .undef v) {args : List AVal} {vs : Array Value} (k : Nat) (hsz : vs.size = args.length) (hrel : ∀ t (h : t < args.length), R args[t] (vs.getD t undef)) (t : Nat) : R (look (args0 args) t) ((vs ++ Array.replicate k undef).getD t undef) := by
  rw [look_args0]
  by_cases ht : t < args.length
  · have e1 : (args[t]?).getD .undef = args[t] := by simp [ht]
    have e2 : (vs ++ Array.replicate k undef).getD t undef = vs.getD t undef := by
      simp only [Array.getD_eq_getD_getElem?]
      rw [Array.getElem?_append_left (by omega)]
    rw [e1, e2]; exact hrel t ht
  · have e1 : (args[t]?).getD .undef = .undef := by simp [ht]
    rw [e1]; exact hu _
theorem calls_body {f : FuncId} {fn : Func} {c : Code} {h : List AObj} {β : Nat → Nat × Nat} {w : World} {env : List (Nat × AVal)} {vs : Array Value} {v0 : Option Value} {R : Ending → World → Prop} {Qa : ASt → Prop} (hm : P.follows .mixedOrders = true) (hf : P.funcs[f]? = some fn) (hb : fn.body = some c) (hok : codeOk fn.ntmps E c = true)
    (hB : BOk P E W0 ok0 A ⟨β, h, w, v0, none⟩) (hv : ∀ v, v0 = some v → vs.getD 0 undef = v ∧ 0 < vs.size) (hsz : vs.size ≤ fn.ntmps) (henv : ∀ t, VR W0 ok0 β h w (look env t) ((vs ++ Array.replicate (fn.ntmps - vs.size) undef).getD t undef))
    (hw : awp P E h c (fun e s => match e with | .normal | .ret => Qa s | _ => False) ⟨env, h⟩)
    (hR : ∀ (s : ASt) (a : Act) (w' : World), Qa s → FR W0 ok0 A fn.ntmps ⟨β, h, w, v0, none⟩ s { a with defers := [] } w' → ∃ v, (results fn a.tmps).run P w' = .ok v w' ∧ R (.returned v) w') : Calls P f vs w R := by
  refine callsIn_wide.1 (callsIn_of_wp_marks (n := 0) hf hb trivial ?_)
  have hW : W0.heap.size ≤ w.heap.size := hB.hr.wsize
  have hinit : FR W0 ok0 A fn.ntmps ⟨β, h, w, v0, none⟩ ⟨env, h⟩ { tmps := vs ++ Array.replicate (fn.ntmps - vs.size) undef, defers := [] } w := by
    refine ⟨β, hB.hr, henv, by simp; omega, kp_refl (fun v hv' => ?_) rfl⟩
    obtain ⟨h1, h2⟩ := hv v hv'
    rw [← h1]
    simp only [Array.getD_eq_getD_getElem?]
    rw [Array.getElem?_append_left h2]
  refine awp_sound (N := fn.ntmps) hm c 0 ⟨β, h, w, v0, none⟩ h _ _ _ _ _ rfl hB hok (fun e s a w' he hfr => ?_) hw hinit
  have fin : Qa s → LeavesInM (Fd none) 0 P fn a.tmps R a.defers .returning w' := fun hq => by
    have hfr0 := hfr
    obtain ⟨_, _, _, _, hk⟩ := hfr0
    obtain ⟨Ds, g1, _⟩ := hk.marks
    exact fr_leave hW Ds a w' g1 hfr (fun w2 hf2 => hR s a w2 hq hf2)
  cases e with
  | normal => exact fin he
  | ret => exact fin he
  | _ => exact he.elim
theorem codeOk_y (E : EffF) (yv yv' : Value) (y y' : List AVal → List AObj → List AObj → Prop) (c : Code) (N : Nat) : codeOk N (effY E yv y) c = codeOk N (effY E yv' y') c := by
  induction c with
  | region id ops d => rfl
  | seq a b iha ihb => simp only [codeOk, iha, ihb]
  | cond c x y ihx ihy => simp only [codeOk, ihx, ihy]
  | block id c ih => simp only [codeOk, ih]
  | scope c ih => simp only [codeOk, ih]
  | loop c ih => simp only [codeOk, ih]
  | rangeFunc g ps x c ihx ihc => simp only [codeOk, ihx, ihc]; rfl
  | _ => rfl
theorem Contract.intro {f : FuncId} {fn : Func} {c : Code} {args : List AVal} {res : AVal} (E : EffF) (n : Nat) (hm : P.follows .mixedOrders = true) (hf : P.funcs[f]? = some fn) (hname : (fn.name == "runtime.NumGoroutine") = false) (hb : fn.body = some c) (hok : codeOk fn.ntmps E c = true) (hargs : args.length ≤ fn.ntmps)
    (h : awp P E [] c (fun e s => match e with | .normal | .ret => (resVal P fn s).map (resOf s.heap n) = some res | _ => False) ⟨args0 args, []⟩) (hEy : E.y = none := by rfl) : Contract P f args res := by
  refine ⟨by simp [callable, hf, hname, hb], fun w ok vs hok0 htab hsz hrel => ?_⟩
  have hr0 : HR w ok (fun _ => False) (fun _ => (0, 0)) [] w := ⟨fun i o hi => by simp at hi, fun i j hi => by have := live_lt hi; simp at this, fun i hi => by have := live_lt hi; simp at this, rfl, rfl, rfl, Nat.le_refl _, fun _ _ _ => rfl, fun p hp => ⟨⟨hok0 _ (htab p hp).1, fun i hi => by have := live_lt hi.live; simp at this, .inr (htab p hp).1⟩, (htab p hp).2⟩⟩
  refine calls_body (W0 := w) (ok0 := ok) (A := fun _ => False) (β := fun _ => (0, 0)) (v0 := none) hm hf hb hok (bok_plain hr0 hEy rfl rfl) (fun v h => by cases h) (by omega) (args0_rel (fun v => .undef v) _ hsz (fun t ht => ?_)) h (fun s a w' hres hfr => ?_)
  · exact VRel.mono (fun b hb => ⟨hok0 b hb, fun i hi => by have := live_lt hi.live; simp at this, .inr hb⟩) (fun b _ hb => hb.elim) (fun b _ => rfl) (fun id l hl => by cases hl) (hrel t ht)
  · obtain ⟨x, hx1, hx2⟩ := Option.map_eq_some_iff.1 hres
    obtain ⟨β, hr, henv, hs, hd⟩ := hfr
    obtain ⟨v, h1, h2⟩ := resVal_rel (a := a) hr henv hx1
    refine ⟨v, h1, v, rfl, ?_, ⟨hr.os, hr.tape, hr.output, hr.wsize, fun k hk => hr.block k hk id⟩⟩
    rw [← hx2]
    exact resOf_rel hr n x v h2
theorem SpecTo.intro {f : FuncId} {fn : Func} {c : Code} {args : List AVal} {h : List AObj} {res : AVal} {h' : List AObj} (E : EffF) (hm : P.follows .mixedOrders = true) (hf : P.funcs[f]? = some fn) (hname : (fn.name == "runtime.NumGoroutine") = false) (hb : fn.body = some c) (hok : codeOk fn.ntmps E c = true) (hargs : args.length ≤ fn.ntmps)
    (hw : awp P E h c (fun e s => match e with | .normal | .ret => ∃ x, resVal P fn s = some x ∧ Wk h ⟨[(0, x)], s.heap⟩ ⟨[(0, res)], h'⟩ | _ => False) ⟨args0 args, h⟩) (hEy : E.y = none := by rfl) : SpecTo P f args h res h' := by
  refine ⟨by simp [callable, hf, hname, hb], fun W0 ok0 A β w vs hr har => ?_⟩
  refine calls_body (W0 := W0) (ok0 := ok0) (A := A) (β := β) (v0 := none) hm hf hb hok (bok_plain hr hEy rfl rfl) (fun v h => by cases h) (by have := har.1; omega) (args0_rel (fun v => .undef v) _ har.1 har.2) hw (fun s a w' hres hfr => ?_)
  obtain ⟨x, hx1, hx2⟩ := hres
  obtain ⟨β1, hr1, henv, hs, hk⟩ := hfr
  obtain ⟨v, h1, h2⟩ := resVal_rel (a := a) hr1 henv hx1
  have hfr' : FR W0 ok0 A 1 ⟨β, h, w, none, none⟩ ⟨[(0, x)], s.heap⟩ { tmps := #[v], defers := [] } w' := by
    refine ⟨β1, hr1, fun t => ?_, rfl, ⟨hk.base, hk.len, hk.ok, (fun v h => by cases h), ⟨[], rfl, fun _ => rfl, List.nodup_nil, fun _ h => by cases h⟩, hk.wsz⟩⟩
    cases t with
    | zero => simpa [look] using h2
    | succ t => simp [look]; exact .undef _
  obtain ⟨β2, hr2, henv2, _, hk2⟩ := hx2 _ _ _ _ _ _ _ ⟨rfl, hr⟩ hfr'
  have hv := henv2 0
  simp [look] at hv
  exact ⟨v, h1, v, β2, rfl, ⟨hr2, hk2.base, hk2.len, hk2.ok, hk2.wsz⟩, hv⟩
theorem SpecY.intro {f : FuncId} {fn : Func} {c : Code} {args : List AVal} {h : List AObj} {h' : List AObj} {y : List AVal → List AObj → List AObj → Prop} (E : EffF) (hm : P.follows .mixedOrders = true) (hf : P.funcs[f]? = some fn) (hname : (fn.name == "runtime.NumGoroutine") = false) (hb : fn.body = some c) (hok : codeOk fn.ntmps (effY E undef (fun _ _ _ => False)) c = true) (hargs : args.length + 1 ≤ fn.ntmps) (hres : fn.results = #[])
    (hw : ∀ yv, awp P (effY E yv y) h c (fun e s => match e with | .normal | .ret => Wk h ⟨[], s.heap⟩ ⟨[], h'⟩ | _ => False) ⟨args0 (.val yv :: args), h⟩) : SpecY P f y args h h' := by
  refine ⟨by simp [callable, hf, hname, hb], fun W0 ok0 A β w vs yv hr har hy => ?_⟩
  refine calls_body (E := effY E yv y) (W0 := W0) (ok0 := ok0) (A := A) (β := β) (v0 := none) hm hf hb (by rw [codeOk_y E yv undef y (fun _ _ _ => False)]; exact hok) ⟨hr, fun yv' y' h => ?_, (fun h => by cases h), (fun l h => by cases h)⟩ (fun v h => by cases h) (by have := har.1; simp; omega) (args0_rel (fun v => .undef v) _ (by simp [har.1]; omega) (fun t ht => ?_)) (hw yv) (fun s a w' hwk hfr => ?_)
  · cases h; exact hy
  · cases t with
    | zero =>
      have e0 : (#[yv] ++ vs).getD 0 undef = yv := by simp [Array.getElem?_append]
      rw [e0]; exact .val _
    | succ t =>
      have h1 := har.2 t (by simpa using ht)
      have e2 : (#[yv] ++ vs).getD (t + 1) undef = vs.getD t undef := by
        simp only [Array.getD_eq_getD_getElem?]
        rw [Array.getElem?_append_right (by simp)]; simp
      rw [e2]; simpa using h1
  · obtain ⟨β1, hr1, henv, hs, hk⟩ := hfr
    have hfr' : FR W0 ok0 A fn.ntmps ⟨β, h, w, none, none⟩ ⟨[], s.heap⟩ { a with defers := [] } w' := ⟨β1, hr1, fun t => .undef _, hs, hk⟩
    obtain ⟨β2, hr2, _, _, hk2⟩ := hwk _ _ _ _ _ _ _ ⟨rfl, hr⟩ hfr'
    refine ⟨.tuple #[], ?_, .tuple #[], β2, rfl, ⟨hr2, hk2.base, hk2.len, hk2.ok, hk2.wsz⟩⟩
    simp [results, hres]
theorem Contract.ofSpec {f : FuncId} {args : List AVal} {res : AVal} {h' : List AObj} (n : Nat) (hs : SpecTo P f args [] res h') : Contract P f args (resOf h' n res) := by
  refine ⟨hs.1, fun w ok vs hok0 htab hsz hrel => ?_⟩
  have hr : HR w ok (fun _ => False) (fun _ => (0, 0)) [] w := ⟨fun i o hi => by simp at hi, fun i j hi => by have := live_lt hi; simp at this, fun i hi => by have := live_lt hi; simp at this, rfl, rfl, rfl, Nat.le_refl _, fun _ _ _ => rfl, fun p hp => ⟨⟨hok0 _ (htab p hp).1, fun i hi => by have := live_lt hi.live; simp at this, .inr (htab p hp).1⟩, (htab p hp).2⟩⟩
  refine (hs.2 w ok (fun _ => False) (fun _ => (0, 0)) w vs hr ⟨hsz, fun j hj => ?_⟩).mono ?_
  · exact VRel.mono (fun b hb => ⟨hok0 b hb, fun i hi => by have := live_lt hi.live; simp at this, .inr hb⟩) (fun b _ hb => hb.elim) (fun b _ => rfl) (fun id l hl => by cases hl) (hrel j hj)
  · rintro e w' ⟨v, β', rfl, hst, hv⟩
    exact ⟨v, rfl, resOf_rel hst.hr n res v hv, ⟨hst.hr.os, hst.hr.tape, hst.hr.output, hst.hr.wsize, fun k hk => hst.hr.block k hk id⟩⟩
end
end Go.AW
namespace Go.AW
open Go
abbrev I (n : Int) : AVal := .val (.int .i64 n)
abbrev B (b : Bool) : AVal := .val (.bool b)
def ints (l : List Int) : List AVal := l.map I
def bools (l : List Bool) : List AVal := l.map B
class KB (α : Type) where
  run : α → Prop
class PQ where
  p : Prop
  q : Prop
class LB where
  c : Code
  Q : Exit → ASt → Prop
def bindK {α : Type} (x : Option α) [k : KB α] : Prop := match x with | some v => k.run v | none => False
theorem bindK_some {α : Type} (v : α) (K : α → Prop) : @bindK α (some v) ⟨K⟩ = K v := _root_.id rfl
def condK (x : AVal) [k : PQ] : Prop := match x with | .val (.bool b) => (b = true → k.p) ∧ (b = false → k.q) | _ => False
def guardK (x : AVal) (want : Bool) [k : PQ] : Prop := match x with | .val (.bool b) => (b = want → k.p) ∧ (b ≠ want → k.q) | .val (.tuple _) => k.q | _ => False
theorem guardK_undef (want : Bool) (p q : Prop) : @guardK (.val undef) want ⟨p, q⟩ = q := _root_.id rfl
class EffB where
  b : Bool
  n : Bool
  y : Option (Value × (List AVal → List AObj → List AObj → Prop))
class KB2 where
  run : AVal → List AObj → Prop
def callK (P : Program) (f : AVal) (args : List AVal) (h : List AObj) [fl : EffB] [k : KB2] : Prop := ((fl.n = false ∨ fl.b = false ∧ (noRef 8 f && args.all (noRef 8)) = true) ∧ ∃ v, CallOk P f args h v ∧ k.run v h) ∨ (fl.n = false ∧ fl.b = true ∧ ∃ v h', CallTo P f args h v h' ∧ k.run v h') ∨ (fl.n = false ∧ ∃ yv y h', fl.y = some (yv, y) ∧ f = .val yv ∧ fl.b = true ∧ y args h h' ∧ k.run (.val (.bool true)) h') ∨ (fl.n = true ∧ fl.b = true ∧ ∃ v h', MkTo P f args h v h' ∧ k.run v h')
class RB where
  x : Code
  c : Code
  Q : Exit → ASt → Prop
def rangeK (P : Program) (E : EffF) (hb : List AObj) (g : Operand) (ps : Array Tmp) (s0 : ASt) [k : RB] : Prop := (∃ s, Wk hb s0 s ∧ ∃ f cs y h', ev s.env g = .func (.func f) [] cs ∧ SpecY P f y cs s.heap h' ∧
  (∀ args h1 h2, y args h1 h2 → args.length = ps.size ∧ awp P E h1 k.x (fun e s1 => e = .normal ∧ awp P E s1.heap k.c (fun e s2 => e = .normal ∧ Wk s1.heap ⟨[], s2.heap⟩ ⟨[], h2⟩) s1) ⟨ps.toList.zip args ++ s.env, h1⟩) ∧ k.Q .normal ⟨s.env, h'⟩) ∨
  (∃ s, Wk hb s0 s ∧ ∃ f cs y yS hS ej, ev s.env g = .func (.func f) [] cs ∧ SpecX P f y yS cs s.heap hS ∧ (ej = .ret ∨ ∃ id, ej = .exit id) ∧
  (∀ args h1 h2, y args h1 h2 → args.length = ps.size ∧ awp P E h1 k.x (fun e s1 => e = .normal ∧ awp P E s1.heap k.c (fun e s2 => e = .normal ∧ Wk s1.heap ⟨[], s2.heap⟩ ⟨[], h2⟩) s1) ⟨ps.toList.zip args ++ s.env, h1⟩) ∧
  (∀ args h1, yS args h1 → args.length = ps.size ∧ awp P E h1 k.x (fun e s1 => e = .normal ∧ awp P E s1.heap k.c (fun e s2 => e = ej ∧ Wk s1.heap ⟨[], s2.heap⟩ ⟨[], hS⟩) s1) ⟨ps.toList.zip args ++ s.env, h1⟩) ∧ k.Q ej ⟨s.env, hS⟩)
def loopK (P : Program) (E : EffF) (hb : List AObj) (s : ASt) [k : LB] : Prop := awp P E hb (.loop k.c) k.Q s
theorem condK_t (p q : Prop) : @condK (.val (.bool true)) ⟨p, q⟩ = p := by simp [condK]
theorem condK_f (p q : Prop) : @condK (.val (.bool false)) ⟨p, q⟩ = q := by simp [condK]
theorem guardK_tt (p q : Prop) : @guardK (.val (.bool true)) true ⟨p, q⟩ = p := by simp [guardK]
theorem guardK_tf (p q : Prop) : @guardK (.val (.bool true)) false ⟨p, q⟩ = q := by simp [guardK]
theorem guardK_ft (p q : Prop) : @guardK (.val (.bool false)) true ⟨p, q⟩ = q := by simp [guardK]
theorem guardK_ff (p q : Prop) : @guardK (.val (.bool false)) false ⟨p, q⟩ = p := by simp [guardK]
theorem beq_t {a b : Int} (h : a = b) : (a == b) = true := by simp [h]
theorem beq_f {a b : Int} (h : a ≠ b) : (a == b) = false := by simp [h]
theorem bne_t {a b : Int} (h : a ≠ b) : (a != b) = true := by simp [h]
theorem bne_f {a b : Int} (h : a = b) : (a != b) = false := by simp [h]
section
variable {P : Program} {E : EffF} {hb : List AObj} {fb fn ff fl fz : Operand → Bool} {fD : Nat → Bool} {fy : Option (Value × (List AVal → List AObj → List AObj → Prop))} {b : Bool} {Q : Exit → ASt → Prop} {s : ASt}
theorem awp_skip : awp P E hb .skip Q s = Q .normal s := _root_.id rfl
theorem awp_region_n (id : Nat) (ops : Array Oper) : awp P E hb (.region id ops false) Q s = @awpList P ⟨fun _ => true, fun _ => false, E.f, fun _ => false, fun _ => true, fun _ => false, E.y⟩ ops.toList (Q .normal) ops.toList s := _root_.id rfl
theorem awp_region_d (id : Nat) (ops : Array Oper) : awp P E hb (.region id ops true) Q s = @awpList P ⟨E.b, E.n, E.f, E.l, E.D, E.z, E.y⟩ ops.toList (Q .normal) ops.toList s := _root_.id rfl
theorem awp_seq (a b : Code) : awp P E hb (.seq a b) Q s = awp P E hb a (fun e s' => match e with | .normal => awp P E hb b Q s' | e => Q e s') s := _root_.id rfl
theorem awp_cond (c : Operand) (x y : Code) : awp P E hb (.cond c x y) Q s = @condK (ev s.env c) ⟨awp P E hb x Q s, awp P E hb y Q s⟩ := _root_.id rfl
theorem awp_block (id : Nat) (c : Code) : awp P E hb (.block id c) Q s = awp P E hb c (fun e s' => match e with | .exit id' => if id' = id then Q .normal s' else Q (.exit id') s' | e => Q e s') s := _root_.id rfl
theorem awp_scope (c : Code) : awp P E hb (.scope c) Q s = awp P E hb c (fun e s' => match e with | .goto _ => False | e => Q e s') s := _root_.id rfl
theorem awp_label (l : Nat) : awp P E hb (.label l) Q s = Q .normal s := _root_.id rfl
theorem awp_rangeK (g : Operand) (ps : Array Tmp) (x c : Code) : awp P E hb (.rangeFunc g ps x c) Q s = @rangeK P E hb g ps s ⟨x, c, Q⟩ := _root_.id rfl
theorem awp_exit (id : Nat) : awp P E hb (.exit id) Q s = Q (.exit id) s := _root_.id rfl
theorem awp_ret : awp P E hb .ret Q s = Q .ret s := _root_.id rfl
variable {ops : List Oper} {Qs : ASt → Prop} {rest : List Oper} {dst : Option Tmp} {op : Op} {ty : TypeId} {pos : String} {after : Array Edge} {g0 : Option (Nat × Bool)}
theorem awpList_nil : @awpList P ⟨fb, fn, ff, fl, fD, fz, fy⟩ ops Qs [] s = Qs s := _root_.id rfl
theorem awpList_plain {env : List (Nat × AVal)} {h : List AObj} {d : Nat} : @awpList P ⟨fb, fn, ff, fl, fD, fz, fy⟩ ops Qs (⟨some d, op, ty, pos, after, none⟩ :: rest) ⟨env, h⟩ = @opK P ⟨fb, fn, ff, fl, fD, fz, fy⟩ ⟨some d, op, ty, pos, after, none⟩ (ev env) h (fun v h' => @awpList P ⟨fb, fn, ff, fl, fD, fz, fy⟩ ops Qs rest ⟨(d, v) :: env, h'⟩) := _root_.id rfl
theorem awpList_none {env : List (Nat × AVal)} {h : List AObj} : @awpList P ⟨fb, fn, ff, fl, fD, fz, fy⟩ ops Qs (⟨none, op, ty, pos, after, none⟩ :: rest) ⟨env, h⟩ = @opK P ⟨fb, fn, ff, fl, fD, fz, fy⟩ ⟨none, op, ty, pos, after, none⟩ (ev env) h (fun _ h' => @awpList P ⟨fb, fn, ff, fl, fD, fz, fy⟩ ops Qs rest ⟨env, h'⟩) := _root_.id rfl
def dstAt : List Oper → Nat → Option Nat
  | [], _ => none
  | o :: _, 0 => o.dst
  | _ :: r, j + 1 => dstAt r j
theorem dstAt_eq : ∀ (l : List Oper) (j : Nat), (l[j]?).bind (·.dst) = dstAt l j
  | [], _ => _root_.id rfl
  | _ :: _, 0 => _root_.id rfl
  | _ :: r, j + 1 => by simpa [dstAt] using dstAt_eq r j
theorem dstAt_zero {r : List Oper} : dstAt (⟨dst, op, ty, pos, after, g0⟩ :: r) 0 = dst := _root_.id rfl
theorem dstAt_succ {o : Oper} {r : List Oper} (j : Nat) : dstAt (o :: r) (j + 1) = dstAt r j := _root_.id rfl
theorem awpList_guard {env : List (Nat × AVal)} {h : List AObj} {j d : Nat} {want : Bool} : @awpList P ⟨fb, fn, ff, fl, fD, fz, fy⟩ ops Qs (⟨some d, op, ty, pos, after, some (j, want)⟩ :: rest) ⟨env, h⟩ =
    @bindK _ (dstAt ops j) ⟨fun t => @guardK (look env t) want ⟨@opK P ⟨fb, fn, ff, fl, fD, fz, fy⟩ ⟨some d, op, ty, pos, after, some (j, want)⟩ (ev env) h (fun v h' => @awpList P ⟨fb, fn, ff, fl, fD, fz, fy⟩ ops Qs rest ⟨(d, v) :: env, h'⟩), @awpList P ⟨fb, fn, ff, fl, fD, fz, fy⟩ ops Qs rest ⟨(d, .val undef) :: env, h⟩⟩⟩ := by
  simp only [awpList, dstAt_eq, putA]
  cases dstAt ops j <;> rfl
theorem awpList_guardN {env : List (Nat × AVal)} {h : List AObj} {j : Nat} {want : Bool} : @awpList P ⟨fb, fn, ff, fl, fD, fz, fy⟩ ops Qs (⟨none, op, ty, pos, after, some (j, want)⟩ :: rest) ⟨env, h⟩ =
    @bindK _ (dstAt ops j) ⟨fun t => @guardK (look env t) want ⟨@opK P ⟨fb, fn, ff, fl, fD, fz, fy⟩ ⟨none, op, ty, pos, after, some (j, want)⟩ (ev env) h (fun _ h' => @awpList P ⟨fb, fn, ff, fl, fD, fz, fy⟩ ops Qs rest ⟨env, h'⟩), @awpList P ⟨fb, fn, ff, fl, fD, fz, fy⟩ ops Qs rest ⟨env, h⟩⟩⟩ := by
  simp only [awpList, dstAt_eq, putA]
  cases dstAt ops j <;> rfl
variable {ρ : Operand → AVal} {h : List AObj} {K : AVal → List AObj → Prop} {g : Option (Nat × Bool)}
def noCall : Op → Bool
  | .call { callee := .value _, .. } => false
  | _ => true
theorem zOp_of {c : EffF} {op : Op} (h : isEff op = false) : zOp c op = false := by cases op <;> first | rfl | (simp [isEff] at h; done)
theorem opK_pure {o : Oper} (h1 : noCall o.op = true) (h2 : isEff o.op = false) (h4 : frzOp ⟨fb, fn, ff, fl, fD, fz, fy⟩ o.op = false) (h5 : ldOk ⟨fb, fn, ff, fl, fD, fz, fy⟩ o ρ = true) : @opK P ⟨fb, fn, ff, fl, fD, fz, fy⟩ o ρ h K = @bindK _ (aPure P o ρ h) ⟨fun v => K v h⟩ := by
  unfold opK
  split
  · rename_i ho; rw [ho] at h1; cases h1
  · rw [if_neg (by simp [zOp_of h2]), if_neg (by simp [h4]), if_neg (by simp [h2]), if_pos h5]
    cases aPure P o ρ h <;> rfl
theorem opK_eff {o : Oper} (h1 : noCall o.op = true) (h2 : isEff o.op = true) (h3 : appNew ⟨fb, fn, ff, fl, fD, fz, fy⟩ o ρ = true) (h4 : frzOp ⟨fb, fn, ff, fl, fD, fz, fy⟩ o.op = false) (h5 : stOk ⟨fb, fn, ff, fl, fD, fz, fy⟩ o ρ = true) (h6 : zOp ⟨fb, fn, ff, fl, fD, fz, fy⟩ o.op = false) : @opK P ⟨fb, fn, ff, fl, fD, fz, fy⟩ o ρ h K = @bindK _ (aEff P o ρ h) ⟨fun r => K r.1 r.2⟩ := by
  unfold opK
  split
  · rename_i ho; rw [ho] at h1; cases h1
  · rw [if_neg (by simp [h6]), if_neg (by simp [h4]), if_pos h2, if_pos ⟨h3, h5⟩]
    cases aEff P o ρ h <;> rfl
theorem opK_move (x : Operand) : @opK P ⟨fb, fn, ff, fl, fD, fz, fy⟩ ⟨dst, .move x, ty, pos, after, g⟩ ρ h K = @bindK _ (some (ρ x)) ⟨fun v => K v h⟩ := _root_.id rfl
theorem opK_assign (x : Operand) : @opK P ⟨fb, fn, ff, fl, fD, fz, fy⟩ ⟨dst, .assign x, ty, pos, after, g⟩ ρ h K = @bindK _ (some (ρ x)) ⟨fun v => K v h⟩ := _root_.id rfl
theorem opK_pick (c a b : Operand) : @opK P ⟨fb, fn, ff, fl, fD, fz, fy⟩ ⟨dst, .pick c a b, ty, pos, after, g⟩ ρ h K = @bindK _ ((match ρ c with | .val (.bool t) => some (if t then ρ a else ρ b) | _ => none : Option AVal)) ⟨fun v => K v h⟩ := opK_pure rfl rfl rfl rfl
theorem opK_binOp (op : BinOp) (t u : TypeId) (x y : Operand) : @opK P ⟨fb, fn, ff, fl, fD, fz, fy⟩ ⟨dst, .binOp op t x y u, ty, pos, after, g⟩ ρ h K = @bindK _ (aBin P t op (ρ x) (ρ y)) ⟨fun v => K v h⟩ := opK_pure rfl rfl rfl rfl
theorem opK_unOp (op : UnOp) (t : TypeId) (x : Operand) : @opK P ⟨fb, fn, ff, fl, fD, fz, fy⟩ ⟨dst, .unOp op t x, ty, pos, after, g⟩ ρ h K = @bindK _ ((match op, ρ x with | .not, .val (.bool b) => some (.val (.bool (!b))) | .neg, .val (.int k n) => some (.val (.int k (k.wrap (0 - n)))) | _, _ => none : Option AVal)) ⟨fun v => K v h⟩ := opK_pure rfl rfl rfl rfl
theorem opK_convert (s d : TypeId) (x : Operand) : @opK P ⟨fb, fn, ff, fl, fD, fz, fy⟩ ⟨dst, .convert s d x, ty, pos, after, g⟩ ρ h K = @bindK _ (match tyI P s, tyI P d, ρ x with
    | some _, some D, .val (.int _ n) => match D.kind with
      | some k => some (.val (.int k (k.wrap n)))
      | none => none
    | _, _, _ => none : Option AVal) ⟨fun v => K v h⟩ := opK_pure rfl rfl rfl rfl
def ldF (b : Bool) (D : Nat → Bool) (x : AVal) (r : Option AVal) : Option AVal := if b = true then (if okL D x = true then r else none) else r
theorem ldF_false (D : Nat → Bool) (x : AVal) (r : Option AVal) : ldF false D x r = r := _root_.id rfl
theorem ldF_spot (b : Bool) (D : Nat → Bool) (p : Bool) (cs : List AVal) (r : Option AVal) : ldF b D (.spot p cs) r = r := by cases b <;> rfl
theorem ldF_ptr (D : Nat → Bool) (id off ext : Nat) (r : Option AVal) : ldF true D (.ptr id off ext) r = if D id = true then none else r := by
  by_cases h : D id = true <;> simp [ldF, okL, h]
theorem effS_l (l : List Nat) (t : Bool) (ns fs ls : List Nat) (D : Nat → Bool) (zs ms : List Nat) (k : Nat) : (effS l t ns fs ls D zs ms).l (.tmp k) = ls.contains k := _root_.id rfl
theorem effS_z (l : List Nat) (t : Bool) (ns fs ls : List Nat) (D : Nat → Bool) (zs ms : List Nat) (k : Nat) : (effS l t ns fs ls D zs ms).z (.tmp k) = zs.contains k := _root_.id rfl
theorem effS_zc (l : List Nat) (t : Bool) (ns fs ls : List Nat) (D : Nat → Bool) (zs ms : List Nat) (c : Value) : (effS l t ns fs ls D zs ms).z (.const c) = false := _root_.id rfl
theorem effS_zf (l : List Nat) (t : Bool) (ns fs ls : List Nat) (D : Nat → Bool) (zs ms : List Nat) (c : FuncId) : (effS l t ns fs ls D zs ms).z (.func c) = false := _root_.id rfl
theorem effS_D (l : List Nat) (t : Bool) (ns fs ls : List Nat) (D : Nat → Bool) (zs ms : List Nat) : (effS l t ns fs ls D zs ms).D = D := _root_.id rfl
def spF (b : Bool) (x : AVal) (r : Option AVal) : Option AVal := if b = true ∧ isSp x = false then none else r
theorem spF_false (x : AVal) (r : Option AVal) : spF false x r = r := by simp [spF]
theorem spF_spot (b : Bool) (p : Bool) (cs : List AVal) (r : Option AVal) : spF b (.spot p cs) r = r := by simp [spF, isSp]
theorem opK_load (t : TypeId) (a : Operand) : @opK P ⟨fb, fn, ff, fl, fD, fz, fy⟩ ⟨dst, .load t a, ty, pos, after, g⟩ ρ h K = @bindK _ (spF (fn a) (ρ a) (ldF (fl a) fD (ρ a) (match pview h (ρ a) with | some cs => aPart P t cs | none => none))) ⟨fun v => K v h⟩ := by
  have h1 : ldOk ⟨fb, fn, ff, fl, fD, fz, fy⟩ ⟨dst, .load t a, ty, pos, after, g⟩ ρ = ((!fn a || isSp (ρ a)) && (!fl a || okL fD (ρ a))) := rfl
  unfold opK
  simp only [isEff, frzOp, zOp, Bool.false_eq_true, if_false, h1, aPure, ldF, spF]
  cases fn a <;> cases isSp (ρ a) <;> cases fl a <;> cases okL fD (ρ a) <;> simp [bindK]
  all_goals cases pview h (ρ a) <;> simp
  all_goals cases aPart P t _ <;> rfl
theorem opK_fieldAddr0 (s : TypeId) (x : Operand) (f : Nat) : @opK P ⟨fb, fn, ff, fl, fD, fz, fy⟩ ⟨dst, .fieldAddr s x f, ty, pos, after, g⟩ ρ h K = @bindK _ (spF (fn x) (ρ x) (ldF (fl x) fD (ρ x) (aField P s (ρ x) f h))) ⟨fun v => K v h⟩ := by
  have h1 : ldOk ⟨fb, fn, ff, fl, fD, fz, fy⟩ ⟨dst, .fieldAddr s x f, ty, pos, after, g⟩ ρ = ((!fn x || isSp (ρ x)) && (!fl x || okL fD (ρ x))) := rfl
  unfold opK
  simp only [isEff, frzOp, zOp, Bool.false_eq_true, if_false, h1, aPure, ldF, spF]
  cases fn x <;> cases isSp (ρ x) <;> cases fl x <;> cases okL fD (ρ x) <;> simp [bindK]
  all_goals cases aField P s (ρ x) f h <;> rfl
theorem opK_indexAddr (t : TypeId) (x i : Operand) : @opK P ⟨fb, fn, ff, fl, fD, fz, fy⟩ ⟨dst, .indexAddr t x i, ty, pos, after, g⟩ ρ h K = @bindK _ (aIdx P t h (ρ x) (ρ i)) ⟨fun v => K v h⟩ := opK_pure rfl rfl rfl rfl
theorem opK_extract (t : Operand) (i : Nat) : @opK P ⟨fb, fn, ff, fl, fD, fz, fy⟩ ⟨dst, .extract t i, ty, pos, after, g⟩ ρ h K = @bindK _ ((match ρ t with | .tuple vs => vs[i]? | _ => none : Option AVal)) ⟨fun v => K v h⟩ := opK_pure rfl rfl rfl rfl
def lnF {α : Type} (b : Bool) (x : AVal) (r : Option α) : Option α := if b = true ∧ isLs x = false then none else r
theorem lnF_false {α : Type} (x : AVal) (r : Option α) : lnF false x r = r := by simp [lnF]
theorem lnF_list {α : Type} (b : Bool) (p q : Bool) (n : Nat) (cs : List AVal) (r : Option α) : lnF b (.list p q n cs) r = r := by simp [lnF, isLs]
theorem opK_len (x : Operand) (ts : Array TypeId) : @opK P ⟨fb, fn, ff, fl, fD, fz, fy⟩ ⟨dst, .call ⟨.builtin .len, #[x], ts⟩, ty, pos, after, g⟩ ρ h K = @bindK _ (lnF (fl x) (ρ x) (match sview h (ρ x), ts[0]? with
      | some (n, _), some t => match tyI P t with
        | some T => if T.elem.isSome then some (.val (.int .i64 n)) else none
        | none => none
      | _, _ => none : Option AVal)) ⟨fun v => K v h⟩ := by
  have h1 : ldOk ⟨fb, fn, ff, fl, fD, fz, fy⟩ ⟨dst, .call ⟨.builtin .len, #[x], ts⟩, ty, pos, after, g⟩ ρ = (!fl x || isLs (ρ x)) := rfl
  by_cases hl : fl x = true ∧ isLs (ρ x) = false
  · unfold lnF
    rw [if_pos hl]
    unfold opK
    simp only [isEff, frzOp, zOp, Bool.false_eq_true, if_false, h1, hl.1, hl.2, Bool.not_true, Bool.or_self]
    rfl
  · unfold lnF
    rw [if_neg hl]
    refine opK_pure rfl rfl rfl ?_
    rw [h1]
    cases h2 : fl x <;> cases h3 : isLs (ρ x) <;> simp_all
theorem opK_not (t : TypeId) (x : Operand) : @opK P ⟨fb, fn, ff, fl, fD, fz, fy⟩ ⟨dst, .unOp .not t x, ty, pos, after, g⟩ ρ h K = @bindK _ (match ρ x with | .val (.bool b) => some (.val (.bool (!b))) | _ => none : Option AVal) ⟨fun v => K v h⟩ := by
  rw [opK_unOp]; cases ρ x <;> try rfl
  case val v => cases v <;> rfl
theorem opK_min (x y : Operand) (ts : Array TypeId) : @opK P ⟨fb, fn, ff, fl, fD, fz, fy⟩ ⟨dst, .call ⟨.builtin .min, #[x, y], ts⟩, ty, pos, after, g⟩ ρ h K = @bindK _ (aMinMax false [ρ x, ρ y]) ⟨fun v => K v h⟩ := opK_pure rfl rfl rfl rfl
theorem opK_max (x y : Operand) (ts : Array TypeId) : @opK P ⟨fb, fn, ff, fl, fD, fz, fy⟩ ⟨dst, .call ⟨.builtin .max, #[x, y], ts⟩, ty, pos, after, g⟩ ρ h K = @bindK _ (aMinMax true [ρ x, ρ y]) ⟨fun v => K v h⟩ := opK_pure rfl rfl rfl rfl
def apN (b : Bool) (v : AVal) (r : Option (AVal × List AObj)) : Option (AVal × List AObj) := if b = true then (if isNew v = true then r else none) else r
theorem apN_false (v : AVal) (r : Option (AVal × List AObj)) : apN false v r = r := _root_.id rfl
theorem apN_cap0 (b c : Bool) (r : Option (AVal × List AObj)) : apN b (.cap0 c) r = r := by cases b <;> rfl
theorem apN_lit (b : Bool) (n : Nat) (cs : List AVal) (r : Option (AVal × List AObj)) : apN b (.lit n cs) r = r := by cases b <;> rfl
theorem effS_n (l : List Nat) (t : Bool) (ns fs ls : List Nat) (D : Nat → Bool) (zs ms : List Nat) (k : Nat) : (effS l t ns fs ls D zs ms).n (.tmp k) = ns.contains k := _root_.id rfl
theorem effS_f (l : List Nat) (t : Bool) (ns fs ls : List Nat) (D : Nat → Bool) (zs ms : List Nat) (k : Nat) : (effS l t ns fs ls D zs ms).f (.tmp k) = fs.contains k := _root_.id rfl
def apF (b : Bool) (P : Program) (t : TypeId) (h : List AObj) (s x : AVal) (r : Option (AVal × List AObj)) : Option (AVal × List AObj) := if b = true then (aFrz P t h s x).map fun v => (v, h) else r
theorem apF_false (t : TypeId) (s x : AVal) (r : Option (AVal × List AObj)) : apF false P t h s x r = r := _root_.id rfl
theorem apF_true (t : TypeId) (s x : AVal) (r : Option (AVal × List AObj)) : apF true P t h s x r = (aFrz P t h s x).map fun v => (v, h) := _root_.id rfl
def apZ (b : Bool) (D : Nat → Bool) (v : AVal) (r : Option (AVal × List AObj)) : Option (AVal × List AObj) := if b = true then (if okA D v = true then r else none) else r
theorem apZ_false (D : Nat → Bool) (v : AVal) (r : Option (AVal × List AObj)) : apZ false D v r = r := _root_.id rfl
theorem apZ_ref (D : Nat → Bool) (id off n ext : Nat) (r : Option (AVal × List AObj)) : apZ true D (.ref id off n ext) r = if D id = true then r else none := by
  by_cases h : D id = true <;> simp [apZ, okA, h]
theorem apZ_res (D : Nat → Bool) (id : Nat) (r : Option (AVal × List AObj)) : apZ true D (.res id) r = if D id = true then r else none := by
  by_cases h : D id = true <;> simp [apZ, okA, h]
theorem opK_append (x y : Operand) (t : TypeId) : @opK P ⟨fb, fn, ff, fl, fD, fz, fy⟩ ⟨dst, .call ⟨.builtin .append, #[x, y], #[t, t]⟩, ty, pos, after, g⟩ ρ h K = @bindK _ (apF (ff x) P t h (ρ x) (ρ y) (apN (fn x) (ρ x) (apZ (fz x) fD (ρ x) (aAppend P t h (ρ x) (ρ y))))) ⟨fun r => K r.1 r.2⟩ := by
  have h1 : aEff P ⟨dst, .call ⟨.builtin .append, #[x, y], #[t, t]⟩, ty, pos, after, g⟩ ρ h = aAppend P t h (ρ x) (ρ y) := by simp [aEff]
  have h2 : appNew ⟨fb, fn, ff, fl, fD, fz, fy⟩ ⟨dst, .call ⟨.builtin .append, #[x, y], #[t, t]⟩, ty, pos, after, g⟩ ρ = (!fn x || isNew (ρ x)) := by simp [appNew]
  have h3 : aFrzO P ⟨dst, .call ⟨.builtin .append, #[x, y], #[t, t]⟩, ty, pos, after, g⟩ ρ h = aFrz P t h (ρ x) (ρ y) := by simp [aFrzO]
  have h4 : frzOp ⟨fb, fn, ff, fl, fD, fz, fy⟩ (.call ⟨.builtin .append, #[x, y], #[t, t]⟩) = ff x := by simp [frzOp]
  have h5 : stOk ⟨fb, fn, ff, fl, fD, fz, fy⟩ ⟨dst, .call ⟨.builtin .append, #[x, y], #[t, t]⟩, ty, pos, after, g⟩ ρ = (!fz x || okA fD (ρ x)) := by simp [stOk]
  unfold opK
  simp only [isEff, zOp, Bool.false_eq_true, if_false, if_true, h1, h2, h3, h4, h5, apN, apF, apZ]
  cases ff x
  · cases fn x <;> cases isNew (ρ x) <;> cases fz x <;> cases okA fD (ρ x) <;> simp [bindK]
    all_goals cases aAppend P t h (ρ x) (ρ y) <;> rfl
  · simp [bindK]
    cases aFrz P t h (ρ x) (ρ y) <;> rfl
theorem opK_buildSlice (t : TypeId) (n : Nat) (ps : Array (Nat × Operand)) : @opK P ⟨fb, fn, ff, fl, fD, fz, fy⟩ ⟨dst, .buildSlice t n ps, ty, pos, after, g⟩ ρ h K = @bindK _ (aEff P ⟨dst, .buildSlice t n ps, ty, pos, after, g⟩ ρ h) ⟨fun r => K r.1 r.2⟩ := opK_eff rfl rfl rfl rfl rfl rfl
theorem opK_makeSlice (t : TypeId) (l c : Operand) : @opK P ⟨fb, fn, ff, fl, fD, fz, fy⟩ ⟨dst, .makeSlice t l c, ty, pos, after, g⟩ ρ h K = @bindK _ (aMake P t h (ρ l) (ρ c)) ⟨fun r => K r.1 r.2⟩ := opK_eff rfl rfl rfl rfl rfl rfl
def stF (D : Nat → Bool) (x : AVal) (r : Option (List AObj)) : Option (List AObj) := if okS D x = true then r else none
theorem stF_ptr (D : Nat → Bool) (id off ext : Nat) (r : Option (List AObj)) : stF D (.ptr id off ext) r = if D id = true then r else none := _root_.id rfl
def stZ (b l : Bool) (D : Nat → Bool) (x : AVal) (r : Option (List AObj)) : Option (List AObj) := if b = true then r else if l = true then r else stF D x r
theorem stZ_false (D : Nat → Bool) (x : AVal) (r : Option (List AObj)) : stZ false false D x r = stF D x r := _root_.id rfl
theorem stZ_l (D : Nat → Bool) (x : AVal) (r : Option (List AObj)) : stZ false true D x r = r := _root_.id rfl
theorem stZ_true (l : Bool) (D : Nat → Bool) (x : AVal) (r : Option (List AObj)) : stZ true l D x r = r := _root_.id rfl
open Classical in
noncomputable def zB (b : Bool) (h' h : List AObj) : Option Unit := if b = true → h' = h then some () else none
theorem zB_false (h' h : List AObj) : zB false h' h = some () := by simp [zB]
theorem zB_true (h : List AObj) : zB true h h = some () := by simp [zB]
theorem opK_store (t : TypeId) (p v : Operand) : @opK P ⟨fb, fn, ff, fl, fD, fz, fy⟩ ⟨dst, .store t p v, ty, pos, after, g⟩ ρ h K = @bindK _ (stZ (fz v) (fl p) fD (ρ p) (aStore P t h (ρ p) (ρ v))) ⟨fun h' => @bindK _ (zB (fz v) h' h) ⟨fun _ => K .undef h'⟩⟩ := by
  have h1 : stOk ⟨fb, fn, ff, fl, fD, fz, fy⟩ ⟨dst, .store t p v, ty, pos, after, g⟩ ρ = (fl p || okS fD (ρ p)) := rfl
  have h2 : zOp ⟨fb, fn, ff, fl, fD, fz, fy⟩ (.store t p v) = fz v := rfl
  unfold opK
  simp only [h2, isEff, frzOp, appNew, h1, aEff, stF, stZ]
  cases fz v
  · cases fl p <;> cases okS fD (ρ p) <;> simp [bindK]
    all_goals cases aStore P t h (ρ p) (ρ v) with
    | none => rfl
    | some h' => simp [zB_false]
  · cases hs : aStore P t h (ρ p) (ρ v) with
    | none => simp [bindK]
    | some h' =>
      simp [bindK]
      constructor
      · rintro ⟨x, ⟨h3, h4⟩, hk⟩
        subst h3; subst h4
        simpa [zB_true] using hk
      · intro hk
        by_cases he : h' = h
        · subst he
          exact ⟨.undef, ⟨rfl, rfl⟩, by simpa [zB_true] using hk⟩
        · simp [zB, he] at hk
def slF (b : Bool) (x : AVal) (r : Option AVal) : Option AVal := if b = true then (if noObj x = true then r else none) else r
theorem slF_false (x : AVal) (r : Option AVal) : slF false x r = r := _root_.id rfl
theorem slF_list (b p q : Bool) (n : Nat) (cs : List AVal) (r : Option AVal) : slF b (.list p q n cs) r = r := by cases b <;> rfl
theorem opK_slice (t : TypeId) (x : Operand) (lo hi : Option Operand) : @opK P ⟨fb, fn, ff, fl, fD, fz, fy⟩ ⟨dst, .slice t x lo hi none, ty, pos, after, g⟩ ρ h K = @bindK _ (slF (fl x) (ρ x) (aSlice P t h (ρ x) (lo.map ρ) (hi.map ρ) none)) ⟨fun v => K v h⟩ := by
  have h1 : stOk ⟨fb, fn, ff, fl, fD, fz, fy⟩ ⟨dst, .slice t x lo hi none, ty, pos, after, g⟩ ρ = (!fl x || noObj (ρ x)) := rfl
  unfold opK
  simp only [isEff, frzOp, zOp, appNew, Bool.false_eq_true, if_false, if_true, h1, aEff, slF]
  cases fl x <;> cases noObj (ρ x) <;> simp [bindK]
  all_goals cases aSlice P t h (ρ x) (lo.map ρ) (hi.map ρ) none <;> rfl
def cutB (c : Option (AVal × List AObj)) (s : Option AVal) (h : List AObj) [k : KB2] : Prop := match c with
  | some r => k.run r.1 r.2
  | none => @bindK _ s ⟨fun v => k.run v h⟩
theorem cutB_none (s : Option AVal) (h : List AObj) (K : AVal → List AObj → Prop) : @cutB none s h ⟨K⟩ = @bindK _ s ⟨fun v => K v h⟩ := _root_.id rfl
theorem aCut_zero (t : TypeId) (x : AVal) (lo hi : Option AVal) (k : IntKind) : aCut P t h x lo hi (some (.val (.int k 0))) = none := by
  unfold aCut
  split
  · split
    · split
      · split
        · rename_i h1 hm h2
          cases h2
          rw [if_neg (fun hc => hc.2.2.2.2.1 rfl)]
        · rfl
      · rfl
    · rfl
  · rfl
theorem opK_slice3 (t : TypeId) (x : Operand) (lo hi : Option Operand) (mx : Operand) : @opK P ⟨fb, fn, ff, fl, fD, fz, fy⟩ ⟨dst, .slice t x lo hi (some mx), ty, pos, after, g⟩ ρ h K = @cutB (aCut P t h (ρ x) (lo.map ρ) (hi.map ρ) (some (ρ mx))) (aSlice P t h (ρ x) (lo.map ρ) (hi.map ρ) (some (ρ mx))) h ⟨K⟩ := by
  rw [opK_eff rfl rfl rfl rfl rfl rfl]
  simp only [aEff, cutB]
  cases aCut P t h (ρ x) (lo.map ρ) (hi.map ρ) (some (ρ mx)) with
  | some r => rfl
  | none => cases aSlice P t h (ρ x) (lo.map ρ) (hi.map ρ) (some (ρ mx)) <;> rfl
theorem awp_loopK (c : Code) : awp P E hb (.loop c) Q s = @loopK P E hb s ⟨c, Q⟩ := _root_.id rfl
theorem opK_callK (f : Operand) (args : Array Operand) (ts : Array TypeId) : @opK P ⟨fb, fn, ff, fl, fD, fz, fy⟩ ⟨dst, .call ⟨.value f, args, ts⟩, ty, pos, after, g⟩ ρ h K = @callK P (ρ f) (args.toList.map ρ) h ⟨fb f, fn f, fy⟩ ⟨K⟩ := _root_.id rfl
variable {nb : Bool} {yo : Option (Value × (List AVal → List AObj → List AObj → Prop))}
theorem callK_F {f : FuncId} {avs args' : List AVal} {res : AVal} {K : AVal → List AObj → Prop} (n : Nat) (hc : Contract P f args' res) (he : avs.map (argOf h n) = args') (hfr : allFresh n res = true ∨ avs.all (noRef n) = true) (hK : K res h) (hn : nb = false := by rfl) :
    @callK P (.func (.func f) [] []) avs h ⟨b, nb, yo⟩ ⟨K⟩ := .inl ⟨.inl hn, res, ⟨f, [], [], n, _root_.id rfl, by simpa [he] using hc, by simpa using hfr⟩, hK⟩
theorem callK_V {f : FuncId} {fs cs avs args' : List AVal} {res : AVal} {K : AVal → List AObj → Prop} (n : Nat) (hc : Contract P f args' res) (he : (fs ++ avs ++ cs).map (argOf h n) = args') (hfr : allFresh n res = true ∨ (fs ++ avs ++ cs).all (noRef n) = true) (hK : K res h) (hn : nb = false := by rfl) :
    @callK P (.func (.func f) fs cs) avs h ⟨b, nb, yo⟩ ⟨K⟩ := .inl ⟨.inl hn, res, ⟨f, fs, cs, n, _root_.id rfl, by rw [he]; exact hc, hfr⟩, hK⟩
theorem callK_T {f : FuncId} {avs : List AVal} {res : AVal} {h' : List AObj} {K : AVal → List AObj → Prop} (hfb : b = true) (hc : SpecTo P f avs h res h') (hK : K res h') (hn : nb = false := by rfl) :
    @callK P (.func (.func f) [] []) avs h ⟨b, nb, yo⟩ ⟨K⟩ := .inr (.inl ⟨hn, hfb, res, h', ⟨f, [], [], _root_.id rfl, by simpa using hc⟩, hK⟩)
theorem callK_M {f : FuncId} {avs : List AVal} {o : AObj} {h : List AObj} {K : AVal → List AObj → Prop} (rn : Nat → AVal) (hrn : Rn rn) (hfb : b = true) (hn : nb = true) (hc : ∀ h2, SpecTo P f avs h2 (rn h2.length) (h2 ++ [o])) (hK : K (rn h.length) (h ++ [o])) (hes : o.es ≠ 0) (hcs : ∀ x ∈ o.cells, ∃ u, x = .val u) :
    @callK P (.func (.func f) [] []) avs h ⟨b, nb, yo⟩ ⟨K⟩ := .inr (.inr (.inr ⟨hn, hfb, _, _, Or.inl ⟨o, rn, hes, hcs, hrn, rfl, rfl, fun h2 => ⟨f, [], [], _root_.id rfl, by simpa using hc h2⟩⟩, hK⟩))
theorem callK_Y {yv : Value} {y : List AVal → List AObj → List AObj → Prop} {avs : List AVal} {h' : List AObj} {K : AVal → List AObj → Prop} (hfb : b = true) (hc : y avs h h') (hK : K (.val (.bool true)) h') (hn : nb = false := by rfl) :
    @callK P (.val yv) avs h ⟨b, nb, some (yv, y)⟩ ⟨K⟩ := .inr (.inr (.inl ⟨hn, yv, y, h', rfl, rfl, hfb, hc, hK⟩))
theorem loopK_I {c : Code} {σ : Type} (ks : List Nat) (J : σ → Prop) (F : σ → ASt) (μ : σ → Nat) (x : σ) (hJ : J x) (h0 : s.keep ks = F x)
    (round : ∀ x, J x → awp P E hb c (fun e s' => match e with | .normal => ∃ y, J y ∧ s'.keep ks = F y ∧ μ y < μ x | e => Q e s') (F x)) : @loopK P E hb s ⟨c, Q⟩ :=
  awp_loopW J F μ x hJ (h0 ▸ Wk.keep hb s ks) fun x hx => awp_mono _ _ _ _ (fun e s' he => by
    cases e with
    | normal => obtain ⟨y, h1, h2, h3⟩ := he; exact ⟨y, h1, h2 ▸ Wk.keep hb s' ks, h3⟩
    | _ => exact he) (round x hx)
theorem loopK_W {c : Code} {σ : Type} (ks : List Nat) (J : σ → Prop) (F : σ → ASt) (μ : σ → Nat) (x : σ) (hJ : J x) (h0 : Wk hb (s.keep ks) (F x))
    (round : ∀ x, J x → awp P E hb c (fun e s' => match e with | .normal => ∃ y, J y ∧ s'.keep ks = F y ∧ μ y < μ x | e => Q e s') (F x)) : @loopK P E hb s ⟨c, Q⟩ :=
  awp_loopW J F μ x hJ ((Wk.keep hb s ks).trans h0) fun x hx => awp_mono _ _ _ _ (fun e s' he => by
    cases e with
    | normal => obtain ⟨y, h1, h2, h3⟩ := he; exact ⟨y, h1, h2 ▸ Wk.keep hb s' ks, h3⟩
    | _ => exact he) (round x hx)
theorem loopK_WW {c : Code} {σ : Type} (ks : List Nat) (J : σ → Prop) (F : σ → ASt) (μ : σ → Nat) (x : σ) (hJ : J x) (h0 : Wk hb (s.keep ks) (F x))
    (round : ∀ x, J x → awp P E hb c (fun e s' => match e with | .normal => ∃ y, J y ∧ Wk hb (s'.keep ks) (F y) ∧ μ y < μ x | e => Q e s') (F x)) : @loopK P E hb s ⟨c, Q⟩ :=
  awp_loopW J F μ x hJ ((Wk.keep hb s ks).trans h0) fun x hx => awp_mono _ _ _ _ (fun e s' he => by
    cases e with
    | normal => obtain ⟨y, h1, h2, h3⟩ := he; exact ⟨y, h1, (Wk.keep hb s' ks).trans h2, h3⟩
    | _ => exact he) (round x hx)
theorem loopK_now {c : Code} (h : awp P E hb c (fun e s' => match e with | .normal => False | e => Q e s') s) : @loopK P E hb s ⟨c, Q⟩ :=
  awp_loopW (fun _ : Unit => True) (fun _ => s) (fun _ => 0) () trivial (Wk.refl hb s) fun _ _ => awp_mono _ _ _ _ (fun e s' he => by
    cases e with
    | normal => exact he.elim
    | _ => exact he) h
theorem ev_tmp (env : List (Nat × AVal)) (t : Nat) : ev env (.tmp t) = look env t := _root_.id rfl
theorem ev_const (env : List (Nat × AVal)) (v : Value) : ev env (.const v) = ofConst v := _root_.id rfl
theorem ev_func (env : List (Nat × AVal)) (f : FuncId) : ev env (.func f) = .func (.func f) [] [] := _root_.id rfl
theorem ofConst_int (k : IntKind) (n : Int) : ofConst (.int k n) = .val (.int k n) := _root_.id rfl
theorem ofConst_bool (b : Bool) : ofConst (.bool b) = .val (.bool b) := _root_.id rfl
theorem ofConst_nil : ofConst (.slice none 0 0) = .cap0 true := _root_.id rfl
theorem look_cons (k t : Nat) (v : AVal) (r : List (Nat × AVal)) : look ((k, v) :: r) t = if k = t then v else look r t := _root_.id rfl
theorem keep_def (ks : List Nat) (env : List (Nat × AVal)) (h : List AObj) : ASt.keep ks ⟨env, h⟩ = ⟨keepEnv ks env, h⟩ := _root_.id rfl
theorem keepEnv_nil (env : List (Nat × AVal)) : keepEnv [] env = [] := _root_.id rfl
theorem keepEnv_cons (k : Nat) (ks : List Nat) (env : List (Nat × AVal)) : keepEnv (k :: ks) env = (k, look env k) :: keepEnv ks env := _root_.id rfl
theorem aBin_int (t : TypeId) (op : BinOp) (k : IntKind) (a b : Int) : aBin P t op (.val (.int k a)) (.val (.int k b)) = aInt op k a b := by simp [aBin]
theorem aInt_add (k : IntKind) (a b : Int) : aInt .add k a b = some (.val (.int k (k.wrap (a + b)))) := _root_.id rfl
theorem aInt_sub (k : IntKind) (a b : Int) : aInt .sub k a b = some (.val (.int k (k.wrap (a - b)))) := _root_.id rfl
theorem aInt_mul (k : IntKind) (a b : Int) : aInt .mul k a b = some (.val (.int k (k.wrap (a * b)))) := _root_.id rfl
theorem aInt_rem (k : IntKind) (a b : Int) (hb : b ≠ 0) : aInt .rem k a b = some (.val (.int k (a.tmod b))) := by simp [aInt, hb]
theorem aInt_eql (k : IntKind) (a b : Int) : aInt .eql k a b = some (.val (.bool (a == b))) := _root_.id rfl
theorem aInt_neq (k : IntKind) (a b : Int) : aInt .neq k a b = some (.val (.bool (a != b))) := _root_.id rfl
theorem aInt_lss (k : IntKind) (a b : Int) : aInt .lss k a b = some (.val (.bool (decide (a < b)))) := _root_.id rfl
theorem aInt_leq (k : IntKind) (a b : Int) : aInt .leq k a b = some (.val (.bool (decide (a ≤ b)))) := _root_.id rfl
theorem aInt_gtr (k : IntKind) (a b : Int) : aInt .gtr k a b = some (.val (.bool (decide (b < a)))) := _root_.id rfl
theorem aInt_geq (k : IntKind) (a b : Int) : aInt .geq k a b = some (.val (.bool (decide (b ≤ a)))) := _root_.id rfl
theorem wrap_id {n : Int} (h1 : -9223372036854775808 ≤ n) (h2 : n ≤ 9223372036854775807) : IntKind.i64.wrap n = n := by
  rw [IntKind.wrap_i64]; omega
theorem bools_length (l : List Bool) : (bools l).length = l.length := by simp [bools]
theorem bools_append (l m : List Bool) : bools l ++ bools m = bools (l ++ m) := by simp [bools]
theorem bools_drop (l : List Bool) (n : Nat) : (bools l).drop n = bools (l.drop n) := by simp [bools]
theorem bools_take (l : List Bool) (n : Nat) : (bools l).take n = bools (l.take n) := by simp [bools]
theorem bools_get (l : List Bool) (n : Nat) : (bools l)[n]? = (l[n]?).map B := by simp [bools]
theorem bools_arg (l : List Bool) (h : List AObj) (n : Nat) : (bools l).map (argOf h (n + 1)) = bools l := by simp [bools, argOf, Function.comp_def]
theorem bools_res (l : List Bool) (h : List AObj) (n : Nat) : (bools l).map (resOf h (n + 1)) = bools l := by simp [bools, resOf, Function.comp_def]
theorem bools_fresh (l : List Bool) (n : Nat) : (bools l).all (allFresh (n + 1)) = true := by simp [bools, allFresh]
theorem bools_noRef (l : List Bool) (n : Nat) : (bools l).all (noRef (n + 1)) = true := by simp [bools, noRef]
theorem ints_length (l : List Int) : (ints l).length = l.length := by simp [ints]
theorem ints_append (l m : List Int) : ints l ++ ints m = ints (l ++ m) := by simp [ints]
theorem ints_one (l : List Int) : (ints l).all AVal.one = true := by simp [ints, AVal.one, Value.oneCell']
theorem ints_drop (l : List Int) (n : Nat) : (ints l).drop n = ints (l.drop n) := by simp [ints]
theorem ints_take (l : List Int) (n : Nat) : (ints l).take n = ints (l.take n) := by simp [ints]
theorem ints_get (l : List Int) (n : Nat) : (ints l)[n]? = (l[n]?).map I := by simp [ints]
theorem ints_arg (l : List Int) (h : List AObj) (n : Nat) : (ints l).map (argOf h (n + 1)) = ints l := by simp [ints, argOf, Function.comp_def]
theorem ints_res (l : List Int) (h : List AObj) (n : Nat) : (ints l).map (resOf h (n + 1)) = ints l := by simp [ints, resOf, Function.comp_def]
theorem ints_fresh (l : List Int) (n : Nat) : (ints l).all (allFresh (n + 1)) = true := by simp [ints, allFresh]
theorem ints_noRef (l : List Int) (n : Nat) : (ints l).all (noRef (n + 1)) = true := by simp [ints, noRef]
end
end Go.AW
namespace Go.AW
open Go Go.RowKit
def ren (f : Nat → Option Nat) : Nat → AVal → AVal
  | 0, _ => .undef
  | _ + 1, .undef => .undef
  | _ + 1, .val v => .val v
  | _ + 1, .cap0 b => .cap0 b
  | _ + 1, .res k => match f k with
    | some k' => .res k'
    | none => .cap0 true
  | n + 1, .lit k cs => .lit k (cs.map (ren f n))
  | n + 1, .list p b k cs => .list p b k (cs.map (ren f n))
  | n + 1, .spot p cs => .spot p (cs.map (ren f n))
  | n + 1, .agg cs => .agg (cs.map (ren f n))
  | n + 1, .tuple cs => .tuple (cs.map (ren f n))
  | n + 1, .func fn fs cs => .func fn (fs.map (ren f n)) (cs.map (ren f n))
  | _ + 1, .ref id off k ext => match f id with
    | some id' => .ref id' off k ext
    | none => .undef
  | _ + 1, .ptr id off ext => match f id with
    | some id' => .ptr id' off ext
    | none => .undef
  | _ + 1, .part id off k ext => match f id with
    | some id' => .part id' off k ext
    | none => .undef
section
variable {ok fr ok' : Nat → Prop} {w : World} {β β' : Nat → Nat × Nat} {len len' : Nat → Option Nat} {f : Nat → Option Nat}
theorem ren_rel (hf : ∀ id l id', len id = some l → f id = some id' → len' id' = some l ∧ β' id' = β id) (hok : ∀ b, ok b → ok' b) : ∀ (n : Nat) (x : AVal) (v : Value), VRel ok fr w β len x v → VRel ok' fr w β' len' (ren f n x) v := by
  intro n
  induction n with
  | zero => intro x v _; exact .undef _
  | succ n ih =>
    intro x v hx
    cases hx with
    | undef v => exact .undef _
    | val v => exact .val _
    | cap0 b a ha hs => exact .cap0 _ _ ha hs
    | res k =>
      simp only [ren]
      split
      · exact .res _
      · exact .cap0 true none rfl (fun _ h => by cases h)
    | nil p => exact .nil p
    | lit b off k cs cv hok1 hp hc hr' =>
      refine .lit b off k _ cv (fun hne => hok _ (hok1 (by rintro rfl; exact hne rfl))) (fun hne => hp (by rintro rfl; exact hne rfl)) (fun j hj => hc j (by simpa using hj)) (fun j hj => ?_)
      simp only [List.getElem_map]; exact ih _ _ (hr' j (by simpa using hj))
    | list p b off k cap cs cv hok1 hp hn1 hc hr' =>
      refine .list p b off k cap _ cv (fun hne => hok _ (hok1 (by rintro rfl; exact hne rfl))) (fun hp1 hne => hp hp1 (by rintro rfl; exact hne rfl)) hn1 (fun j hj => hc j (by simpa using hj)) (fun j hj => ?_)
      simp only [List.getElem_map]; exact ih _ _ (hr' j (by simpa using hj))
    | spot p b off cs cv hok1 hp hc hr' =>
      refine .spot p b off _ cv (fun hne => hok _ (hok1 (by rintro rfl; exact hne rfl))) (fun hp1 hne => hp hp1 (by rintro rfl; exact hne rfl)) (fun j hj => hc j (by simpa using hj)) (fun j hj => ?_)
      simp only [List.getElem_map]; exact ih _ _ (hr' j (by simpa using hj))
    | agg cs vs hs hr' =>
      refine .agg _ _ (by simpa using hs) (fun j hj => ?_)
      simp only [List.getElem_map]; exact ih _ _ (hr' j (by simpa using hj))
    | tuple cs vs hs hr' =>
      refine .tuple _ _ (by simpa using hs) (fun j hj => ?_)
      simp only [List.getElem_map]; exact ih _ _ (hr' j (by simpa using hj))
    | func fn fs cs fv cv hfs hcs hf1 hc =>
      refine .func _ _ _ _ _ (by simpa using hfs) (by simpa using hcs) (fun j hj => ?_) (fun j hj => ?_)
      · simp only [List.getElem_map]; exact ih _ _ (hf1 j (by simpa using hj))
      · simp only [List.getElem_map]; exact ih _ _ (hc j (by simpa using hj))
    | ref id off k ext l cap a hl he hn1 ha live =>
      simp only [ren]
      split
      · rename_i id' hid
        obtain ⟨h1, h2⟩ := hf id l id' hl hid
        exact .ref _ _ _ _ l _ _ h1 he hn1 ha (by rw [h2]; exact live)
      · exact .undef _
    | ptr id off ext l a hl he live =>
      simp only [ren]
      split
      · rename_i id' hid
        obtain ⟨h1, h2⟩ := hf id l id' hl hid
        exact .ptr _ _ _ l _ h1 he (by rw [h2]; exact live)
      · exact .undef _
    | part id off k ext l cap a hl he hn1 live =>
      simp only [ren]
      split
      · rename_i id' hid
        obtain ⟨h1, h2⟩ := hf id l id' hl hid
        exact .part _ _ _ _ l _ _ h1 he hn1 (by rw [h2]; exact live)
      · exact .undef _
theorem low_rel {ok0 fr0 : Nat → Prop} {w0 : World} {β0 : Nat → Nat × Nat} {len0 : Nat → Option Nat} (hf : ∀ id l0 l, len0 id = some l0 → len id = some l → len' id = some l ∧ β' id = β id) (hok : ∀ b, ok b → ok' b) {x : AVal} {v : Value} (hx : VRel ok fr w β len x v) :
    ∀ v0, VRel ok0 fr0 w0 β0 len0 x v0 → VRel ok' fr w β' len' x v := by
  induction hx with
  | undef v => intro _ _; exact .undef _
  | val v => intro _ _; exact .val _
  | cap0 b a ha hs => intro _ _; exact .cap0 _ _ ha hs
  | res k => intro _ _; exact .res k
  | nil p => intro _ _; exact .nil p
  | lit b off k cs cv hok1 hp hc hr' ih =>
    intro v0 h0
    cases h0 with
    | lit _ _ _ _ cv0 _ _ _ h0' => exact .lit b off k _ cv (fun hne => hok _ (hok1 hne)) hp hc (fun j hj => ih j hj _ (h0' j hj))
  | list p b off k cap cs cv hok1 hp hn1 hc hr' ih =>
    intro v0 h0
    cases h0 with
    | list _ _ _ _ _ _ cv0 _ _ _ _ h0' => exact .list p b off k cap _ cv (fun hne => hok _ (hok1 hne)) hp hn1 hc (fun j hj => ih j hj _ (h0' j hj))
  | spot p b off cs cv hok1 hp hc hr' ih =>
    intro v0 h0
    cases h0 with
    | spot _ _ _ _ cv0 _ _ _ h0' => exact .spot p b off _ cv (fun hne => hok _ (hok1 hne)) hp hc (fun j hj => ih j hj _ (h0' j hj))
  | agg cs vs hs hr' ih =>
    intro v0 h0
    cases h0 with
    | agg _ _ _ h0' => exact .agg _ _ hs (fun j hj => ih j hj _ (h0' j hj))
  | tuple cs vs hs hr' ih =>
    intro v0 h0
    cases h0 with
    | tuple _ _ _ h0' => exact .tuple _ _ hs (fun j hj => ih j hj _ (h0' j hj))
  | func fn fs cs fv cv hfs hcs hf1 hc ih1 ih2 =>
    intro v0 h0
    cases h0 with
    | func _ _ _ _ _ _ _ h01 h02 => exact .func _ _ _ _ _ hfs hcs (fun j hj => ih1 j hj _ (h01 j hj)) (fun j hj => ih2 j hj _ (h02 j hj))
  | ref id off k ext l cap a hl he hn1 ha live =>
    intro v0 h0
    cases h0 with
    | ref _ _ _ _ l0 _ _ hl0 _ _ _ _ =>
      obtain ⟨h1, h2⟩ := hf id l0 l hl0 hl
      exact .ref _ _ _ _ l _ _ h1 he hn1 ha (by rw [h2]; exact live)
  | ptr id off ext l a hl he live =>
    intro v0 h0
    cases h0 with
    | ptr _ _ _ l0 _ hl0 _ _ =>
      obtain ⟨h1, h2⟩ := hf id l0 l hl0 hl
      exact .ptr _ _ _ l _ h1 he (by rw [h2]; exact live)
  | part id off k ext l cap a hl he hn1 live =>
    intro v0 h0
    cases h0 with
    | part _ _ _ _ l0 _ _ hl0 _ _ _ =>
      obtain ⟨h1, h2⟩ := hf id l0 l hl0 hl
      exact .part _ _ _ _ l _ _ h1 he hn1 (by rw [h2]; exact live)
end
def keepF (m : Nat) (ks : List Nat) (id : Nat) : Option Nat := if id < m then some id else (ks.idxOf? (id - m)).map (m + ·)
def renO (f : Nat → Option Nat) (n : Nat) (o : AObj) : AObj := ⟨o.ty, o.es, o.cells.map (ren f n)⟩
theorem keepF_some {m : Nat} {ks : List Nat} {id id' : Nat} (h : keepF m ks id = some id') : (id < m ∧ id' = id) ∨ (m ≤ id ∧ ∃ k, ks[k]? = some (id - m) ∧ id' = m + k) := by
  unfold keepF at h
  split at h
  · rename_i hlt; cases h; exact .inl ⟨hlt, rfl⟩
  · rename_i hge
    obtain ⟨k, hk, rfl⟩ := Option.map_eq_some_iff.1 h
    refine .inr ⟨by omega, k, ?_, rfl⟩
    rw [List.idxOf?, List.findIdx?_eq_some_iff_getElem] at hk
    obtain ⟨h1, h2, _⟩ := hk
    simp only [beq_iff_eq] at h2
    rw [List.getElem?_eq_getElem h1, h2]
theorem look_ren (f : Nat → Option Nat) (n t : Nat) : ∀ env : List (Nat × AVal), look (env.map fun p => (p.1, ren f n p.2)) t = .undef ∨ look (env.map fun p => (p.1, ren f n p.2)) t = ren f n (look env t)
  | [] => .inl rfl
  | p :: r => by
    simp only [List.map_cons, look]
    split
    · exact .inr rfl
    · exact look_ren f n t r
theorem Wk.drop {hb h1 gs : List AObj} {env : List (Nat × AVal)} (n : Nat) (ks : List Nat) (hl : h1.length = hb.length) (hnd : ks.Nodup) (hks : ∀ k ∈ ks, k < gs.length)
    (hsame : ∀ (i : Nat) (o : AObj), h1[i]? = some o → hb[i]? = some o ∨ ∀ x ∈ o.cells, ren (keepF hb.length ks) n x = x) :
    Wk hb ⟨env, h1 ++ gs⟩ ⟨env.map fun p => (p.1, ren (keepF hb.length ks) n p.2), h1 ++ ks.map fun k => renO (keepF hb.length ks) n (gs.getD k ⟨0, 0, []⟩)⟩ := by
  intro W0 ok0 A N B a w hB hfr
  obtain ⟨rfl, hb0⟩ := hB
  obtain ⟨β, hr, henv, hs, hk⟩ := hfr
  have hbase := hk.base
  have hlen := hk.len
  simp only at hr henv hbase
  let f := keepF B.h.length ks
  let js : Nat → Nat := fun i => if i < B.h.length then i else B.h.length + ks.getD (i - B.h.length) 0
  let h' := h1 ++ ks.map fun k => renO f n (gs.getD k ⟨0, 0, []⟩)
  let β' := fun i => β (js i)
  have hjs : ∀ i, i < B.h.length → js i = i := fun i hi => if_pos hi
  have hjs2 : ∀ k, js (B.h.length + k) = B.h.length + ks.getD k 0 := fun k => by
    simp only [js]; rw [if_neg (by omega)]; congr 2; omega
  have hobj : ∀ i o, h'[i]? = some o → ∃ o0, (h1 ++ gs)[js i]? = some o0 ∧ o.ty = o0.ty ∧ o.es = o0.es ∧ ((i < B.h.length ∧ o = o0) ∨ o.cells = o0.cells.map (ren f n)) := by
    intro i o hi
    rcases Nat.lt_or_ge i B.h.length with h2 | h2
    · refine ⟨o, ?_, rfl, rfl, .inl ⟨h2, rfl⟩⟩
      rw [hjs i h2, List.getElem?_append_left (by omega)]
      rw [List.getElem?_append_left (by omega)] at hi
      exact hi
    · rw [List.getElem?_append_right (by omega), hl] at hi
      rw [List.getElem?_map, Option.map_eq_some_iff] at hi
      obtain ⟨k, hk, rfl⟩ := hi
      have hlt := hks k (List.mem_of_getElem? hk)
      have hki : js i = B.h.length + k := by
        have := hjs2 (i - B.h.length)
        rw [show B.h.length + (i - B.h.length) = i by omega] at this
        rw [this, List.getD_eq_getElem?_getD, hk]; rfl
      refine ⟨gs[k], ?_, ?_, ?_, .inr ?_⟩
      · rw [hki, List.getElem?_append_right (by omega), hl]; simp [hlt]
      all_goals simp [renO, hlt]
  have hinj : ∀ i j, i < h'.length → j < h'.length → js i = js j → i = j := by
    intro i j hi hj he
    have hi' : i < B.h.length + ks.length := by simp only [h', List.length_append, List.length_map, hl] at hi; exact hi
    have hj' : j < B.h.length + ks.length := by simp only [h', List.length_append, List.length_map, hl] at hj; exact hj
    rcases Nat.lt_or_ge i B.h.length with h2 | h2 <;> rcases Nat.lt_or_ge j B.h.length with h3 | h3
    · rw [hjs i h2, hjs j h3] at he; exact he
    · rw [hjs i h2] at he
      have := hjs2 (j - B.h.length)
      rw [show B.h.length + (j - B.h.length) = j by omega] at this
      omega
    · rw [hjs j h3] at he
      have := hjs2 (i - B.h.length)
      rw [show B.h.length + (i - B.h.length) = i by omega] at this
      omega
    · have e1 := hjs2 (i - B.h.length)
      have e2 := hjs2 (j - B.h.length)
      rw [show B.h.length + (i - B.h.length) = i by omega] at e1
      rw [show B.h.length + (j - B.h.length) = j by omega] at e2
      rw [e1, e2] at he
      have he2 : ks.getD (i - B.h.length) 0 = ks.getD (j - B.h.length) 0 := by omega
      simp only [List.getD_eq_getElem?_getD, List.getElem?_eq_getElem (show i - B.h.length < ks.length by omega), List.getElem?_eq_getElem (show j - B.h.length < ks.length by omega), Option.getD_some] at he2
      have hpw := List.pairwise_iff_getElem.1 hnd
      rcases Nat.lt_trichotomy i j with h4 | h4 | h4
      · exact absurd he2 (hpw _ _ (by omega) (by omega) (by omega))
      · exact h4
      · exact absurd he2.symm (hpw _ _ (by omega) (by omega) (by omega))
  have hlive : ∀ i, live h' i → live (h1 ++ gs) (js i) := by
    rintro i ⟨o, ho, hes⟩
    obtain ⟨o0, h2, _, h3, _⟩ := hobj i o ho
    exact ⟨o0, h2, by rw [← h3]; exact hes⟩
  have hliveW : ∀ i, liveW h' i → liveW (h1 ++ gs) (js i) := by
    rintro i ⟨o, ho, hes, hz⟩
    obtain ⟨o0, h2, h4, h3, _⟩ := hobj i o ho
    exact ⟨o0, h2, by rw [← h3]; exact hes, by first | (rw [← h4]; exact hz) | (rw [h4]; exact hz)⟩
  have hok : ∀ b, okIn W0 ok0 w β (h1 ++ gs) b → okIn W0 ok0 w β' h' b := fun b hb => ⟨hb.1, fun i hi => hb.2.1 _ (hliveW i hi), hb.2.2⟩
  have hren : ∀ id l id', lens (h1 ++ gs) id = some l → f id = some id' → lens h' id' = some l ∧ β' id' = β id := by
    intro id l id' hid hf
    obtain ⟨o0, ho0, hes, rfl⟩ := lens_live hid
    rcases keepF_some hf with ⟨h2, rfl⟩ | ⟨h2, k, hk, rfl⟩
    · rw [List.getElem?_append_left (by omega)] at ho0
      exact ⟨lens_some (by simp only [h']; rw [List.getElem?_append_left (by omega)]; exact ho0) hes, by simp only [β', hjs id' h2]⟩
    · have hlt := hks _ (List.mem_of_getElem? hk)
      rw [List.getElem?_append_right (by omega), hl] at ho0
      refine ⟨?_, ?_⟩
      · have : h'[B.h.length + k]? = some (renO f n o0) := by
          simp only [h']
          rw [List.getElem?_append_right (by omega), hl, List.getElem?_map]
          simp [hk, ho0, List.getD_eq_getElem?_getD]
        have := lens_some this (by simpa [renO] using hes)
        simpa [renO] using this
      · simp only [β', hjs2, List.getD_eq_getElem?_getD, hk, Option.getD_some]
        congr 1; omega
  have hlow : ∀ x v, VR W0 ok0 B.β B.h B.w x v → VR W0 ok0 β (h1 ++ gs) w x v → VR W0 ok0 β' h' w x v := by
    intro x v h2 h3
    refine low_rel (len' := lens h') (β' := β') (fun id l0 l h4 h5 => ?_) hok h3 v h2
    obtain ⟨o, ho, _, _⟩ := lens_live h4
    have hlt := (List.getElem?_eq_some_iff.1 ho).1
    exact hren id l id h5 (if_pos hlt)
  have hVR : ∀ x v, VR W0 ok0 β (h1 ++ gs) w x v → VR W0 ok0 β' h' w (ren f n x) v := fun x v hx => ren_rel hren hok n x v hx
  refine ⟨β', ⟨?_, ?_, ?_, hr.os, hr.tape, hr.output, hr.wsize, hr.block, fun p hp => ⟨hok _ (hr.tab p hp).1, (hr.tab p hp).2⟩⟩, fun t => ?_, hs, hk.weak (fun x v hx => hlow x v hx (hbase x v hx)) ?_ hok⟩
  · intro i o ho hes
    obtain ⟨o0, h2, h3, h4, h5⟩ := hobj i o ho
    obtain ⟨cur, c1, c2, c3, c4, c5, c6⟩ := hr.heap (js i) o0 h2 (by rw [← h4]; exact hes)
    have hcl : o.cells.length = o0.cells.length := by
      rcases h5 with ⟨_, rfl⟩ | h5
      · rfl
      · rw [h5]; simp
    refine ⟨cur, by rw [h3]; exact c1, by rw [h4]; exact c2, c3, by omega, by rw [hcl]; exact c5, fun j hj => ?_⟩
    have h6 := c6 j (by omega)
    rw [hcl]
    rcases h5 with ⟨hlt, rfl⟩ | h5
    · rw [hjs i hlt] at h2
      have h7 : h1[i]? = some o := by rw [List.getElem?_append_left (by omega)] at h2; exact h2
      rcases hsame i o h7 with h8 | h8
      · obtain ⟨cur0, d1, d2, d3, d4, d5, d6⟩ := hb0.heap i o h8 hes
        exact low_rel (len' := lens h') (β' := β') (fun id l0 l h4 h5 => by
          obtain ⟨o, ho, _, _⟩ := lens_live h4
          have hlt := (List.getElem?_eq_some_iff.1 ho).1
          exact hren id l id h5 (if_pos hlt)) hok h6 _ (d6 j hj)
      · have := hVR _ _ h6
        rw [h8 _ (List.getElem_mem hj)] at this
        exact this
    · have := hVR _ _ h6
      have e : o.cells[j] = ren f n (o0.cells[j]'(by omega)) := by simp only [h5]; simp
      rw [e]; exact this
  · intro i j hi hj he
    exact hinj i j (live_lt hi) (live_lt hj) (hr.inj _ _ (hlive i hi) (hlive j hj) he)
  · intro i hi
    exact hr.own _ (hlive i hi)
  · have := look_ren f n t env
    rcases this with h2 | h2
    · show VR _ _ _ _ _ (look (env.map fun p => (p.1, ren f n p.2)) t) _
      rw [h2]; exact .undef _
    · show VR _ _ _ _ _ (look (env.map fun p => (p.1, ren f n p.2)) t) _
      rw [h2]; exact hVR _ _ (henv t)
  · simp only [List.length_append, hl]; omega
theorem keepF_at (m : Nat) (ks : List Nat) (k : Nat) : keepF m ks (m + k) = (ks.idxOf? k).map (m + ·) := by
  unfold keepF; rw [if_neg (by omega), Nat.add_sub_cancel_left]
theorem keepF_at0 (m : Nat) (ks : List Nat) : keepF m ks m = (ks.idxOf? 0).map (m + ·) := keepF_at m ks 0
theorem keepF_lo {m id : Nat} (ks : List Nat) (h : id < m) : keepF m ks id = some id := if_pos h
theorem same_refl {f : Nat → Option Nat} {n : Nat} {h : List AObj} : ∀ (i : Nat) (o' : AObj), h[i]? = some o' → h[i]? = some o' ∨ ∀ x ∈ o'.cells, ren f n x = x := fun _ _ h => .inl h
inductive WV : AVal → AVal → Prop
  | refl (x : AVal) : WV x x
  | nil (k : Nat) : WV (.cap0 true) (.res k)
  | nilL (p : Bool) (k : Nat) : WV (.list p true 0 []) (.res k)
  | undef (x : AVal) : WV x .undef
  | agg (cs ds : List AVal) (hl : cs.length = ds.length) (h : ∀ j (h1 : j < cs.length) (h2 : j < ds.length), WV cs[j] ds[j]) : WV (.agg cs) (.agg ds)
theorem WV.rel {ok fr : Nat → Prop} {w : World} {β : Nat → Nat × Nat} {len : Nat → Option Nat} {x y : AVal} (h : WV x y) : ∀ v, VRel ok fr w β len x v → VRel ok fr w β len y v := by
  induction h with
  | refl x => intro v h; exact h
  | nilL p k =>
    intro v h
    cases h with
    | nil p => exact .res _
  | nil k =>
    intro v h
    cases h with
    | cap0 b a ha hs =>
      cases a with
      | none => exact .res k
      | some a => simp at ha
  | undef x => intro v _; exact .undef v
  | agg cs ds hl h ih =>
    intro v hv
    cases hv with
    | agg _ vs hs hr => exact .agg _ _ (by omega) (fun j hj => ih j (by omega) hj _ (hr j (by omega)))
def WL (cs ds : List AVal) : Prop := cs.length = ds.length ∧ ∀ j (h1 : j < cs.length) (h2 : j < ds.length), WV cs[j] ds[j]
theorem WL.refl (cs : List AVal) : WL cs cs := ⟨rfl, fun _ _ _ => .refl _⟩
theorem WL.nil : WL [] [] := WL.refl []
theorem WL.cons {x y : AVal} {cs ds : List AVal} (h : WV x y) (hl : WL cs ds) : WL (x :: cs) (y :: ds) := by
  refine ⟨by simp [hl.1], fun j h1 h2 => ?_⟩
  cases j with
  | zero => exact h
  | succ j => exact hl.2 j (by simpa using h1) (by simpa using h2)
inductive WO : List AObj → List AObj → Prop
  | nil (hs : List AObj) (h : ∀ o ∈ hs, o.es = 0) : WO [] hs
  | cons (ty es : Nat) (cs ds : List AVal) (h : WL cs ds) {r r' : List AObj} (hr : WO r r') : WO (⟨ty, es, cs⟩ :: r) (⟨ty, es, ds⟩ :: r')
theorem WO.refl : ∀ h : List AObj, WO h h
  | [] => .nil [] (fun o h => by simp at h)
  | ⟨ty, es, cs⟩ :: r => .cons ty es cs cs (WL.refl cs) (WO.refl r)
theorem WO.app (h0 : List AObj) {r r' : List AObj} (h : WO r r') : WO (h0 ++ r) (h0 ++ r') := by
  induction h0 with
  | nil => exact h
  | cons o h0 ih => obtain ⟨ty, es, cs⟩ := o; exact .cons ty es cs cs (WL.refl cs) ih
theorem WO.at {h h' : List AObj} (hw : WO h h') : h.length ≤ h'.length ∧ ∀ i o', h'[i]? = some o' → (h.length ≤ i ∧ o'.es = 0) ∨ ∃ o, h[i]? = some o ∧ o.ty = o'.ty ∧ o.es = o'.es ∧ WL o.cells o'.cells := by
  induction hw with
  | nil hs h => exact ⟨by simp, fun i o' ho => .inl ⟨by simp, h _ (List.mem_of_getElem? ho)⟩⟩
  | cons ty es cs ds h hr ih =>
    refine ⟨by simp only [List.length_cons]; omega, fun i o' ho => ?_⟩
    cases i with
    | zero =>
      simp only [List.getElem?_cons_zero, Option.some.injEq] at ho
      subst ho
      exact .inr ⟨⟨ty, es, cs⟩, rfl, rfl, rfl, h⟩
    | succ i =>
      simp only [List.getElem?_cons_succ] at ho
      rcases ih.2 i o' ho with ⟨h1, h2⟩ | h1
      · exact .inl ⟨by simp only [List.length_cons]; omega, h2⟩
      · exact .inr (by simpa using h1)
theorem WO.lens {h h' : List AObj} (hw : WO h h') (id : Nat) : Go.AW.lens h' id = Go.AW.lens h id := by
  obtain ⟨hl, hat⟩ := hw.at
  unfold Go.AW.lens
  cases ho : h'[id]? with
  | none =>
    have : h'.length ≤ id := by simpa using ho
    rw [List.getElem?_eq_none (show h.length ≤ id by omega)]
  | some o' =>
    rcases hat id o' ho with ⟨h1, h2⟩ | ⟨o, h1, h2, h3, h4⟩
    · rw [List.getElem?_eq_none h1]; simp [h2]
    · rw [h1]; simp only [Option.bind_some, h3, h4.1]
theorem Wk.weak {hb h h' : List AObj} {env env' : List (Nat × AVal)} (he : ∀ t, WV (look env t) (look env' t)) (hw : WO h h') : Wk hb ⟨env, h⟩ ⟨env', h'⟩ := by
  intro W0 ok0 A N B a w _ hfr
  obtain ⟨β, hr, henv, hs, hk⟩ := hfr
  have hbase := hk.base
  have hlen := hk.len
  obtain ⟨hl, hat⟩ := hw.at
  have hlens : lens h' = lens h := funext fun id => hw.lens id
  have hlive : ∀ i, live h' i → live h i := by
    rintro i ⟨o', ho', hes⟩
    rcases hat i o' ho' with ⟨_, h2⟩ | ⟨o, h1, h2, h3, h4⟩
    · exact absurd h2 hes
    · exact ⟨o, h1, by rw [h3]; exact hes⟩
  have hliveW : ∀ i, liveW h' i → liveW h i := by
    rintro i ⟨o', ho', hes, hz⟩
    rcases hat i o' ho' with ⟨_, h2⟩ | ⟨o, h1, h2, h3, h4⟩
    · exact absurd h2 hes
    · exact ⟨o, h1, by rw [h3]; exact hes, by first | (rw [← h2]; exact hz) | (rw [h2]; exact hz)⟩
  have hok : ∀ b, okIn W0 ok0 w β h b → okIn W0 ok0 w β h' b := fun b hb => ⟨hb.1, fun i hi => hb.2.1 _ (hliveW i hi), hb.2.2⟩
  have hm : ∀ x v, VR W0 ok0 β h w x v → VR W0 ok0 β h' w x v := fun x v hx => VRel.mono hok (fun _ _ h => h) (fun _ _ => rfl) (fun id l hl => ⟨l, by rw [hlens]; exact hl, Nat.le_refl _, fun _ => rfl⟩) hx
  refine ⟨β, ⟨?_, fun i j hi hj => hr.inj i j (hlive i hi) (hlive j hj), fun i hi => hr.own i (hlive i hi), hr.os, hr.tape, hr.output, hr.wsize, hr.block, fun p hp => ⟨hok _ (hr.tab p hp).1, (hr.tab p hp).2⟩⟩, fun t => (he t).rel _ (hm _ _ (henv t)), hs, hk.weak (fun x v hx => hm _ _ (hbase x v hx)) (by simp only at hlen ⊢; omega) hok⟩
  intro i o' ho' hes
  rcases hat i o' ho' with ⟨_, h2⟩ | ⟨o, h1, h2, h3, h4⟩
  · exact absurd h2 hes
  · obtain ⟨cur, c1, c2, c3, c4, c5, c6⟩ := hr.heap i o h1 (by rw [h3]; exact hes)
    have hcl := h4.1
    refine ⟨cur, by rw [← h2]; exact c1, by rw [← h3]; exact c2, c3, by omega, by rw [← hcl]; exact c5, fun j hj => ?_⟩
    rw [← hcl]
    exact (h4.2 j (by omega) hj).rel _ (hm _ _ (c6 j (by omega)))
theorem WE.nil : ∀ t, WV (look [] t) (look [] t) := fun _ => .refl _
theorem WE.cons {x y : AVal} {r r' : List (Nat × AVal)} (k : Nat) (h : WV x y) (hr : ∀ t, WV (look r t) (look r' t)) : ∀ t, WV (look ((k, x) :: r) t) (look ((k, y) :: r') t) := by
  intro t
  simp only [look]
  split
  · exact h
  · exact hr t
end Go.AW
