/- An abstract machine over the model: what it says of a function's code, the model does. -/
import Derived.ProofKit
import Derived.OpenShut
import Derived.Test.YtofmbeakbenncaaAw1
/- Code: what an abstract state must meet ahead of it. -/
namespace Go.AW
open Go Go.RowKit

/-- An operation as a relation. -/
inductive OpR (P : Program) (o : Oper) (ρ : Operand → AVal) (h : List AObj) : AVal → List AObj → Prop
  | pure (v : AVal) (hx : aPure P o ρ h = some v) : OpR P o ρ h v h
  | eff (v : AVal) (h' : List AObj) (hx : aEff P o ρ h = some (v, h')) : OpR P o ρ h v h'
  | call (v : AVal) (fo : Operand) (args : Array Operand) (ty : Array TypeId) (ho : o.op = .call { callee := .value fo, args := args, argTypes := ty }) (hc : CallOk P (ρ fo) (args.toList.map ρ) h v) : OpR P o ρ h v h

def isEff : Op → Bool
  | .alloc _ | .box .. | .build .. | .buildSlice .. | .makeSlice .. | .slice .. | .store .. => true
  | .call { callee := .builtin .append, .. } => true
  | _ => false

/-- An operation, and what must be met behind it. -/
def opK (P : Program) (o : Oper) (ρ : Operand → AVal) (h : List AObj) (K : AVal → List AObj → Prop) : Prop :=
  match o.op with
  | .call { callee := .value fo, args, .. } => ∃ v, CallOk P (ρ fo) (args.toList.map ρ) h v ∧ K v h
  | _ => if isEff o.op then (match aEff P o ρ h with | some (v, h') => K v h' | none => False) else (match aPure P o ρ h with | some v => K v h | none => False)

theorem opK_R {P : Program} {o : Oper} {ρ : Operand → AVal} {h : List AObj} {K : AVal → List AObj → Prop} (hk : opK P o ρ h K) : ∃ v h', OpR P o ρ h v h' ∧ K v h' := by
  unfold opK at hk
  split at hk
  · rename_i fo args ty ho
    obtain ⟨v, h1, h2⟩ := hk
    exact ⟨v, h, .call v fo args ty ho h1, h2⟩
  · split at hk
    · split at hk
      · rename_i v h' hx
        exact ⟨v, h', .eff v h' hx, hk⟩
      · exact hk.elim
    · split at hk
      · rename_i v hx
        exact ⟨v, h, .pure v hx, hk⟩
      · exact hk.elim

def putA (dst : Option Nat) (v : AVal) (env : List (Nat × AVal)) : List (Nat × AVal) :=
  match dst with
  | some d => (d, v) :: env
  | none => env

def awpList (P : Program) (ops : List Oper) (Q : ASt → Prop) : List Oper → ASt → Prop
  | [], s => Q s
  | o :: rest, s => match o.guard with
    | none => opK P o (ev s.env) s.heap (fun v h' => awpList P ops Q rest ⟨putA o.dst v s.env, h'⟩)
    | some (j, want) => match (ops[j]?).bind (·.dst) with
      | some t => match look s.env t with
        | .val (.bool b) => (b = want → opK P o (ev s.env) s.heap (fun v h' => awpList P ops Q rest ⟨putA o.dst v s.env, h'⟩)) ∧ (b ≠ want → awpList P ops Q rest ⟨putA o.dst (.val undef) s.env, s.heap⟩)
        | .val (.tuple _) => awpList P ops Q rest ⟨putA o.dst (.val undef) s.env, s.heap⟩
        | _ => False
      | none => False

/-- Only these slots are kept. -/
def keepEnv (ks : List Nat) (env : List (Nat × AVal)) : List (Nat × AVal) := ks.map fun k => (k, look env k)

def ASt.keep (ks : List Nat) (s : ASt) : ASt := ⟨keepEnv ks s.env, s.heap⟩

def awp (P : Program) : Code → (Exit → ASt → Prop) → ASt → Prop
  | .skip, Q, s => Q .normal s
  | .region _ ops _, Q, s => awpList P ops.toList (Q .normal) ops.toList s
  | .seq a b, Q, s => awp P a (fun e s' => match e with | .normal => awp P b Q s' | e => Q e s') s
  | .cond c x y, Q, s => match ev s.env c with
    | .val (.bool b) => (b = true → awp P x Q s) ∧ (b = false → awp P y Q s)
    | _ => False
  | .block id c, Q, s => awp P c (fun e s' => match e with | .exit id' => if id' = id then Q .normal s' else Q (.exit id') s' | e => Q e s') s
  | .loop c, Q, s => ∃ (ks : List Nat) (I : Nat → ASt → Prop) (n : Nat), I n (s.keep ks) ∧ ∀ n s, I n s → awp P c (fun e s' => match e with | .normal => ∃ m, m < n ∧ I m (s'.keep ks) | e => Q e s') s
  | .exit id, Q, s => Q (.exit id) s
  | .ret, Q, s => Q .ret s
  | _, _, _ => False

theorem opK_mono {P : Program} {o : Oper} {ρ : Operand → AVal} {h : List AObj} {K K' : AVal → List AObj → Prop} (hK : ∀ v h', K v h' → K' v h') (hk : opK P o ρ h K) : opK P o ρ h K' := by
  unfold opK at hk ⊢
  split at hk
  · obtain ⟨v, h1, h2⟩ := hk; exact ⟨v, h1, hK _ _ h2⟩
  · split at hk
    · rename_i hE
      rw [if_pos hE]
      split at hk
      · exact hK _ _ hk
      · exact hk.elim
    · rename_i hE
      rw [if_neg hE]
      split at hk
      · exact hK _ _ hk
      · exact hk.elim

theorem awpList_mono {P : Program} {ops : List Oper} {Q Q' : ASt → Prop} (hQ : ∀ s, Q s → Q' s) : ∀ (l : List Oper) (s : ASt), awpList P ops Q l s → awpList P ops Q' l s := by
  intro l
  induction l with
  | nil => intro s h; exact hQ _ h
  | cons o rest ih =>
    intro s h
    simp only [awpList] at h ⊢
    split at h
    · exact opK_mono (fun _ _ => ih _) h
    · split at h
      · split at h
        · exact ⟨fun hb => opK_mono (fun _ _ => ih _) (h.1 hb), fun hb => ih _ (h.2 hb)⟩
        · exact ih _ h
        · exact h.elim
      · exact h.elim

theorem awp_mono {P : Program} : ∀ (c : Code) (Q Q' : Exit → ASt → Prop) (s : ASt), (∀ e s, Q e s → Q' e s) → awp P c Q s → awp P c Q' s := by
  intro c
  induction c with
  | skip => intro Q Q' s hq h; exact hq _ _ h
  | region id ops d => intro Q Q' s hq h; exact awpList_mono (fun s => hq _ s) _ _ h
  | seq a b iha ihb =>
    intro Q Q' s hq h
    refine iha _ _ _ (fun e s' he => ?_) h
    cases e with
    | normal => exact ihb _ _ _ hq he
    | _ => exact hq _ _ he
  | cond c x y ihx ihy =>
    intro Q Q' s hq h
    simp only [awp] at h ⊢
    split at h
    · exact ⟨fun hb => ihx _ _ _ hq (h.1 hb), fun hb => ihy _ _ _ hq (h.2 hb)⟩
    · exact h.elim
  | block id c ih =>
    intro Q Q' s hq h
    refine ih _ _ _ (fun e s' he => ?_) h
    cases e with
    | exit id' =>
      simp only at he ⊢
      split
      · rename_i hid; rw [if_pos hid] at he; exact hq _ _ he
      · rename_i hid; rw [if_neg hid] at he; exact hq _ _ he
    | _ => exact hq _ _ he
  | loop c ih =>
    intro Q Q' s hq h
    obtain ⟨ks, I, n, h0, hr⟩ := h
    refine ⟨ks, I, n, h0, fun n s hs => ih _ _ _ (fun e s' he => ?_) (hr n s hs)⟩
    cases e with
    | normal => exact he
    | _ => exact hq _ _ he
  | exit id => intro Q Q' s hq h; exact hq _ _ h
  | ret => intro Q Q' s hq h; exact hq _ _ h
  | _ => intros; first | assumption | (rename_i h; exact h.elim)

/-- A loop, by what its states are. -/
theorem awp_loop {P : Program} {c : Code} {Q : Exit → ASt → Prop} {s : ASt} {σ : Type} (ks : List Nat) (F : σ → ASt) (μ : σ → Nat) (x : σ) (h0 : s.keep ks = F x)
    (round : ∀ x, awp P c (fun e s' => match e with | .normal => ∃ y, s'.keep ks = F y ∧ μ y < μ x | e => Q e s') (F x)) : awp P (.loop c) Q s := by
  refine ⟨ks, fun n s => ∃ x, s = F x ∧ μ x = n, μ x, ⟨x, h0, rfl⟩, ?_⟩
  rintro n s ⟨x, rfl, rfl⟩
  refine awp_mono _ _ _ _ (fun e s' he => ?_) (round x)
  cases e with
  | normal =>
    obtain ⟨y, hy, hlt⟩ := he
    exact ⟨μ y, hlt, y, hy, rfl⟩
  | _ => exact he

/-- A loop, by what its states are, with a condition on them. -/
theorem awp_loopI {P : Program} {c : Code} {Q : Exit → ASt → Prop} {s : ASt} {σ : Type} (ks : List Nat) (J : σ → Prop) (F : σ → ASt) (μ : σ → Nat) (x : σ) (hJ : J x) (h0 : s.keep ks = F x)
    (round : ∀ x, J x → awp P c (fun e s' => match e with | .normal => ∃ y, J y ∧ s'.keep ks = F y ∧ μ y < μ x | e => Q e s') (F x)) : awp P (.loop c) Q s := by
  refine ⟨ks, fun n s => ∃ x, J x ∧ s = F x ∧ μ x = n, μ x, ⟨x, hJ, h0, rfl⟩, ?_⟩
  rintro n s ⟨x, hx, rfl, rfl⟩
  refine awp_mono _ _ _ _ (fun e s' he => ?_) (round x hx)
  cases e with
  | normal =>
    obtain ⟨y, hy, hy', hlt⟩ := he
    exact ⟨μ y, hlt, y, hy, hy', rfl⟩
  | _ => exact he

end Go.AW

/- An operation, and a region in the order of the text, do in the model what the abstract machine says. -/
namespace Go.AW
open Go Go.RowKit

/-- A frame and a world stand to an abstract state. -/
def FR (W0 : World) (ok0 A : Nat → Prop) (N : Nat) (s : ASt) (a : Act) (w : World) : Prop :=
  ∃ β, HR W0 ok0 A β s.heap w ∧ (∀ t, VR W0 ok0 β s.heap w (look s.env t) (a.tmps.getD t undef)) ∧ a.tmps.size = N ∧ a.defers = []

def opOk (N : Nat) (o : Oper) : Bool :=
  (match o.dst with | some d => decide (d < N) | none => true) && (match o.op with | .slice _ _ _ hi mx => mx.isNone || hi.isSome | _ => true)

section
variable {P : Program} {W0 : World} {ok0 A : Nat → Prop} {β : Nat → Nat × Nat} {h : List AObj} {w : World} {N : Nat}

theorem put_getD (a : Act) (dst : Option Tmp) (v : Value) (t : Nat) (hd : ∀ d, dst = some d → d < a.tmps.size) : (a.put dst v).tmps.getD t undef = if dst = some t then v else a.tmps.getD t undef := by
  cases dst with
  | none => simp [Act.put]
  | some d =>
    have := hd d rfl
    simp only [Act.put, Array.getD_eq_getD_getElem?, Option.some.injEq]
    by_cases hdt : d = t
    · subst hdt; simp [this]
    · rw [if_neg hdt, Array.getElem?_setIfInBounds_ne hdt]

theorem put_size (a : Act) (dst : Option Tmp) (v : Value) : (a.put dst v).tmps.size = a.tmps.size := by cases dst <;> simp [Act.put]
theorem put_defers (a : Act) (dst : Option Tmp) (v : Value) : (a.put dst v).defers = a.defers := by cases dst <;> rfl

theorem look_putA (dst : Option Nat) (v : AVal) (env : List (Nat × AVal)) (t : Nat) : look (putA dst v env) t = if dst = some t then v else look env t := by
  cases dst with
  | none => simp [putA]
  | some d => simp [putA, look]

theorem opOk_dst {o : Oper} (ho : opOk N o = true) : ∀ d, o.dst = some d → d < N := by
  intro d hd
  simp only [opOk, hd, Bool.and_eq_true, decide_eq_true_eq] at ho
  exact ho.1

theorem opOk_slice {o : Oper} (ho : opOk N o = true) : ∀ t x lo hi mx, o.op = .slice t x lo hi mx → mx ≠ none → hi ≠ none := by
  intro t x lo hi mx he hm hh
  simp only [opOk, he, Bool.and_eq_true, Bool.or_eq_true] at ho
  rcases ho.2 with h1 | h1
  · exact hm (by simpa using h1)
  · simp [hh] at h1

/-- One operation. -/
theorem opR_wp (hr : HR W0 ok0 A β h w) {o : Oper} {a : Act} {ρ : Operand → AVal} (hρ : ∀ x, VR W0 ok0 β h w (ρ x) (a.eval x)) (ho : opOk N o = true) {v : AVal} {h' : List AObj} (hR : OpR P o ρ h v h')
    {next : Act → World → Prop} {Q : Exit → Act → World → Prop} (hn : ∀ u β' w', Step W0 ok0 A β h w β' h' w' → VR W0 ok0 β' h' w' v u → next (a.put o.dst u) w') : o.wp P a w next Q := by
  cases hR with
  | pure hx =>
    obtain ⟨u, h1, h2⟩ := aPure_rel hr hρ hx
    unfold Oper.wp
    rw [h1]
    exact hn u β w (Step.refl hr) h2
  | eff _ hx =>
    obtain ⟨nx, u, β', w', h1, h2, h3, h4⟩ := aEff_rel hr hρ (opOk_slice ho) hx
    unfold Oper.wp
    rw [h1]
    rcases h2 with rfl | ⟨rfl, rfl⟩
    · exact hn u β' w' h3 h4
    · exact hn _ β' w' h3 h4
  | call fo args ty hop hc =>
    have har : AR W0 ok0 β h w (args.toList.map ρ) (args.map a.eval) := ⟨by simp, fun j hj => by
      have hj' : j < args.size := by simpa using hj
      simpa [hj'] using hρ args[j]⟩
    obtain ⟨f, vs, h1, h2⟩ := callOk_rel hr (Pre.refl h) hc (hρ fo) har
    unfold Oper.wp
    have hrun : (execOp a.eval o).run P w = .ok (.enter f vs) w := by
      simp only [execOp, hop, resolve]
      exact h1 w
    rw [hrun, Oper.upon_enter]
    refine h2.mono fun e w' he => ?_
    obtain ⟨u, rfl, hst, hv⟩ := he
    exact hn u β w' hst hv

theorem yielded_bool {ops : List Oper} {a : Act} {j t : Nat} {b : Bool} (ht : (ops[j]?).bind (·.dst) = some t) (hv : VR W0 ok0 β h w (.val (.bool b)) (a.tmps.getD t undef)) : yielded ops.toArray a.tmps j = some b := by
  have hb : a.tmps.getD t undef = .bool b := by
    generalize a.tmps.getD t undef = u at hv
    cases hv; rfl
  have hs : a.tmps[t]? = some (.bool b) := by
    simp only [Array.getD_eq_getD_getElem?] at hb
    cases hs : a.tmps[t]? with
    | none => rw [hs] at hb; simp [undef] at hb
    | some u => rw [hs] at hb; simp at hb; rw [hb]
  simp [yielded, ht, hs]

theorem yielded_tuple {ops : List Oper} {a : Act} {j t : Nat} {us : Array Value} (ht : (ops[j]?).bind (·.dst) = some t) (hv : VR W0 ok0 β h w (.val (.tuple us)) (a.tmps.getD t undef)) : yielded ops.toArray a.tmps j = none := by
  have hb : a.tmps.getD t undef = .tuple us := by
    generalize a.tmps.getD t undef = u at hv
    cases hv; rfl
  simp only [Array.getD_eq_getD_getElem?] at hb
  cases hs : a.tmps[t]? with
  | none => simp [yielded, ht, hs]
  | some u => rw [hs] at hb; simp at hb; subst hb; simp [yielded, ht, hs]

theorem FR.put {s : ASt} {a : Act} {o : Oper} {v : AVal} {u : Value} {h' : List AObj} {β' : Nat → Nat × Nat} {w' : World} (henv : ∀ t, VR W0 ok0 β s.heap w (look s.env t) (a.tmps.getD t undef)) (hs : a.tmps.size = N) (hd : a.defers = [])
    (ho : opOk N o = true) (hst : Step W0 ok0 A β s.heap w β' h' w') (hv : VR W0 ok0 β' h' w' v u) : FR W0 ok0 A N ⟨putA o.dst v s.env, h'⟩ (a.put o.dst u) w' := by
  refine ⟨β', hst.hr, fun t => ?_, by rw [put_size, hs], by rw [put_defers, hd]⟩
  rw [look_putA, put_getD _ _ _ _ (fun d hd => by rw [hs]; exact opOk_dst ho d hd)]
  split
  · exact hv
  · exact hst.vr _ _ (henv t)

theorem awpList_sound {ops : List Oper} {Qs : ASt → Prop} {Q : Exit → Act → World → Prop} (hQ : ∀ s a w, Qs s → FR W0 ok0 A N s a w → Q .normal a w) :
    ∀ (l : List Oper) (s : ASt) (a : Act) (w : World), l.all (opOk N) = true → awpList P ops Qs l s → FR W0 ok0 A N s a w → wpList P ops.toArray Q l a w := by
  intro l
  induction l with
  | nil => intro s a w _ h hf; exact hQ _ _ _ h hf
  | cons o rest ih =>
    intro s a w hall h hf
    simp only [List.all_cons, Bool.and_eq_true] at hall
    obtain ⟨ho, hrest⟩ := hall
    obtain ⟨β, hr, henv, hs, hd⟩ := hf
    have run : opK P o (ev s.env) s.heap (fun v h' => awpList P ops Qs rest ⟨putA o.dst v s.env, h'⟩) → o.wp P a w (wpList P ops.toArray Q rest) Q := fun hk => by
      obtain ⟨v, h', hR, hK⟩ := opK_R hk
      exact opR_wp hr (ev_rel henv) ho hR fun u β' w' hst hv => ih _ _ _ hrest hK (FR.put henv hs hd ho hst hv)
    have skip : awpList P ops Qs rest ⟨putA o.dst (.val undef) s.env, s.heap⟩ → wpList P ops.toArray Q rest (a.put o.dst undef) w := fun hk =>
      ih _ _ _ hrest hk (FR.put henv hs hd ho (Step.refl hr) (.val _))
    simp only [awpList] at h
    unfold wpList
    split at h
    · rename_i hg
      rw [if_pos (by simp [Region.wanted, hg])]
      exact .inl (run h)
    · rename_i j want hg
      split at h
      · rename_i t ht
        split at h
        · rename_i b hb
          have hy := yielded_bool (ops := ops) ht (by have := henv t; rw [hb] at this; exact this)
          by_cases hbw : b = want
          · rw [if_pos (by simp [Region.wanted, hg, hy, hbw])]
            exact .inl (run (h.1 hbw))
          · rw [if_neg (by simp [Region.wanted, hg, hy, hbw])]
            exact skip (h.2 hbw)
        · rename_i us hb
          have hy := yielded_tuple (ops := ops) ht (by have := henv t; rw [hb] at this; exact this)
          rw [if_neg (by simp [Region.wanted, hg, hy])]
          exact skip h
        · exact h.elim
      · exact h.elim

/-- A loop, by a number that falls. -/
theorem wp_loop_fuel {c : Code} {Q : Exit → Act → World → Prop} (J : Nat → Act → World → Prop)
    (round : ∀ n a w, J n a w → c.wp P (Exit.then (fun a' w' => ∃ m, m < n ∧ J m a' w') Q) a w) {n : Nat} {a : Act} {w : World} (h0 : J n a w) : (Code.loop c).wp P Q a w := by
  intro b k cs
  have key : ∀ n a w, J n a w → ∃ e a' w', Q e a' w' ∧ Arrives P (lone (b.at a (.code c :: .inLoop c :: k)) cs w) b k cs e a' w' := by
    intro n
    induction n using Nat.strongRecOn with
    | _ n ih =>
      intro a w hJ
      obtain ⟨e, a₁, w₁, hq, harr⟩ := round n a w hJ b (.inLoop c :: k) cs
      cases e with
      | normal =>
        obtain ⟨m, hlt, hJ₁⟩ := hq
        obtain ⟨e₂, a₂, w₂, hq₂, harr₂⟩ := ih m hlt a₁ w₁ hJ₁
        exact ⟨e₂, a₂, w₂, hq₂, .of_steps (Steps.trans harr (.one step_inLoop)) harr₂⟩
      | _ => exact ⟨_, a₁, w₁, hq, .pass (x := .inLoop c) rfl (fun _ _ => .inl (by simp)) harr⟩
  obtain ⟨e, a', w', hq, harr⟩ := key n a w h0
  exact ⟨e, a', w', hq, .of_steps (.one step_loop) harr⟩

theorem look_keep (ks : List Nat) (env : List (Nat × AVal)) (t : Nat) : look (keepEnv ks env) t = if t ∈ ks then look env t else .undef := by
  induction ks with
  | nil => simp [keepEnv, look]
  | cons k ks ih =>
    simp only [keepEnv, List.map_cons, look]
    by_cases hk : k = t
    · subst hk; simp
    · rw [if_neg hk]
      have := ih
      simp only [keepEnv] at this
      rw [this]
      simp [Ne.symm hk]

theorem FR.keep {s : ASt} {a : Act} (ks : List Nat) (hf : FR W0 ok0 A N s a w) : FR W0 ok0 A N (s.keep ks) a w := by
  obtain ⟨β, hr, henv, hs, hd⟩ := hf
  refine ⟨β, hr, fun t => ?_, hs, hd⟩
  simp only [ASt.keep, look_keep]
  split
  · exact henv t
  · exact .undef _

end
end Go.AW

/- Operations that do not hang on the abstract heap's growth. -/
namespace Go.AW
open Go Go.RowKit

/-- It changes the abstract heap. -/
def effOp : Op → Bool
  | .alloc _ | .box .. | .makeSlice .. | .store .. => true
  | .call { callee := .builtin .append, .. } => true
  | _ => false

/-- It makes an object and changes none. -/
def alOp : Op → Bool
  | .alloc _ | .box .. | .makeSlice .. => true
  | _ => false

/-- It does not look at the abstract heap. -/
def nOp : Op → Bool
  | .move _ | .assign _ | .pick .. | .binOp .. | .unOp .. | .convert .. | .makeFunc .. | .field .. | .extract .. | .build .. | .buildSlice .. => true
  | .call { callee := .builtin .min, .. } | .call { callee := .builtin .max, .. } => true
  | _ => false

section
variable {P : Program} {W0 : World} {ok0 A : Nat → Prop} {β : Nat → Nat × Nat} {h h2 : List AObj} {w : World} {N : Nat}

theorem cellsAt_mono (hp : Pre h h2) {id ext : Nat} {cs : List AVal} (hc : cellsAt h id ext = some cs) : cellsAt h2 id ext = some cs := by
  obtain ⟨o, ho, rfl, hl⟩ := cellsAt_some hc
  simp [cellsAt, hp _ _ ho, hl]

theorem sview_mono (hp : Pre h h2) {x : AVal} {r : Nat × List AVal} (hc : sview h x = some r) : sview h2 x = some r := by
  unfold sview at hc ⊢
  split at hc
  · exact hc
  · exact hc
  · exact hc
  · obtain ⟨cs, h1, h2'⟩ := Option.map_eq_some_iff.1 hc
    simp only [cellsAt_mono hp h1, Option.map_some, h2']
  · cases hc

theorem pview_mono (hp : Pre h h2) {x : AVal} {r : List AVal} (hc : pview h x = some r) : pview h2 x = some r := by
  unfold pview at hc ⊢
  split at hc
  · exact hc
  · obtain ⟨cs, h1, h2'⟩ := Option.map_eq_some_iff.1 hc
    simp only [cellsAt_mono hp h1, Option.map_some, h2']
  · cases hc

theorem aPure_mono (hp : Pre h h2) {o : Oper} {ρ : Operand → AVal} {v : AVal} (hx : aPure P o ρ h = some v) : aPure P o ρ h2 = some v := by
  obtain ⟨dst, op, type, pos, after, guard⟩ := o
  have live : ∀ {id ext : Nat}, (cellsAt h id ext).isSome = true → (cellsAt h2 id ext).isSome = true := fun hs => by
    obtain ⟨cs, hcs⟩ := Option.isSome_iff_exists.1 hs
    simp [cellsAt_mono hp hcs]
  cases op <;> simp only [aPure] at hx ⊢ <;> try (exact hx)
  case load t a =>
    split at hx
    · rename_i cs hpv; rw [pview_mono hp hpv]; exact hx
    · cases hx
  case nilCheck y =>
    split at hx
    · exact hx
    · split at hx
      · rename_i hs; rw [if_pos (live hs)]; exact hx
      · cases hx
    · exact hx
    · cases hx
  case fieldAddr s y f =>
    unfold aField at hx ⊢
    split at hx
    · split at hx
      · split at hx
        · split at hx
          · cases hx
          · rename_i hsz
            rw [if_neg hsz]
            split at hx
            · exact hx
            · split at hx
              · rename_i hs; rw [if_pos (live hs)]; exact hx
              · cases hx
            · cases hx
        · cases hx
      · cases hx
    · cases hx
  case indexAddr t y i =>
    unfold aIdx at hx ⊢
    split at hx
    · split at hx
      · split at hx
        · split at hx
          · exact hx
          · exact hx
          · split at hx
            · rename_i hs; rw [if_pos ⟨hs.1, hs.2.1, live hs.2.2⟩]; exact hx
            · cases hx
          · cases hx
        · cases hx
      · cases hx
    · cases hx
  case call c =>
    obtain ⟨callee, args, argTypes⟩ := c
    cases callee with
    | value f => exact hx
    | invoke r m => exact hx
    | builtin b =>
      cases b <;> try (exact hx)
      case len =>
        simp only at hx ⊢
        split at hx
        · split at hx
          · rename_i n cs t hv ht; rw [sview_mono hp hv, ht]; exact hx
          · cases hx
        all_goals first | (rename_i h1; cases h1; done) | exact hx

theorem aEff_idle (hp : Pre h h2) {o : Oper} {ρ : Operand → AVal} {v : AVal} {h' : List AObj} (he : effOp o.op = false) (hx : aEff P o ρ h = some (v, h')) : h' = h ∧ aEff P o ρ h2 = some (v, h2) := by
  obtain ⟨dst, op, type, pos, after, guard⟩ := o
  cases op <;> simp only [aEff] at hx ⊢ <;> try (first | (cases hx; done) | (simp [effOp] at he; done))
  case build t parts =>
    obtain ⟨x0, hx0, hx1⟩ := Option.map_eq_some_iff.1 hx
    simp only [Prod.mk.injEq] at hx1
    obtain ⟨rfl, rfl⟩ := hx1
    exact ⟨rfl, by rw [hx0]; rfl⟩
  case buildSlice t len parts =>
    split at hx
    · split at hx
      · split at hx
        · split at hx
          · rename_i hl
            obtain ⟨cs, hcs, hx1⟩ := Option.map_eq_some_iff.1 hx
            simp only [Prod.mk.injEq] at hx1
            obtain ⟨rfl, rfl⟩ := hx1
            exact ⟨rfl, by rw [if_pos hl, hcs]; rfl⟩
          · cases hx
        · cases hx
      · cases hx
    · cases hx
  case slice t y lo hi mx =>
    obtain ⟨x0, hx0, hx1⟩ := Option.map_eq_some_iff.1 hx
    simp only [Prod.mk.injEq] at hx1
    obtain ⟨rfl, rfl⟩ := hx1
    refine ⟨rfl, ?_⟩
    have : aSlice P t h2 (ρ y) (lo.map ρ) (hi.map ρ) (mx.map ρ) = some x0 := by
      unfold aSlice at hx0 ⊢
      split at hx0
      · split at hx0
        · split at hx0
          · rename_i E n cs hE hv
            rw [sview_mono hp hv]
            simp only [*]
          · cases hx0
        · cases hx0
      · cases hx0
    rw [this]; rfl
  case call c =>
    obtain ⟨callee, args, argTypes⟩ := c
    cases callee with
    | value f => simp at hx
    | invoke r m => simp at hx
    | builtin b => cases b <;> first | (simp at hx; done) | (simp [effOp] at he; done)

theorem aEff_al {o : Oper} {ρ : Operand → AVal} {v : AVal} {h' : List AObj} (ha : alOp o.op = true) (hx : aEff P o ρ h = some (v, h')) : ∃ y, h' = h ++ y := by
  obtain ⟨dst, op, type, pos, after, guard⟩ := o
  cases op <;> simp only [aEff] at hx <;> try (first | (cases hx; done) | (simp [alOp] at ha; done))
  case alloc e =>
    split at hx
    · split at hx
      · simp only [Option.some.injEq, Prod.mk.injEq] at hx; exact ⟨_, hx.2.symm⟩
      · cases hx
    · cases hx
  case box e y =>
    split at hx
    · split at hx
      · simp only [Option.some.injEq, Prod.mk.injEq] at hx; exact ⟨_, hx.2.symm⟩
      · cases hx
    · cases hx
  case makeSlice t l c =>
    unfold aMake at hx
    split at hx
    · split at hx
      · split at hx
        · split at hx
          · split at hx
            · simp only [Option.some.injEq, Prod.mk.injEq] at hx; exact ⟨_, hx.2.symm⟩
            · cases hx
          · cases hx
        · cases hx
      · cases hx
    · cases hx

theorem aPure_eff {o : Oper} {ρ : Operand → AVal} {v : AVal} (he : effOp o.op = true) : aPure P o ρ h ≠ some v := by
  obtain ⟨dst, op, type, pos, after, guard⟩ := o
  intro hx
  cases op <;> simp only [aPure] at hx <;> try (first | (cases hx; done) | (simp [effOp] at he; done))
  case call c =>
    obtain ⟨callee, args, argTypes⟩ := c
    cases callee with
    | value f => simp at hx
    | invoke r m => simp at hx
    | builtin b => cases b <;> first | (simp at hx; done) | (simp [effOp] at he; done)

/-- What does not change the heap leaves it. -/
theorem OpR.idle {o : Oper} {ρ : Operand → AVal} {v : AVal} {h' : List AObj} (hR : OpR P o ρ h v h') (he : effOp o.op = false) : h' = h := by
  cases hR with
  | pure hx => rfl
  | eff _ hx => exact (aEff_idle (Pre.refl h) he hx).1
  | call => rfl

theorem OpR.al {o : Oper} {ρ : Operand → AVal} {v : AVal} {h' : List AObj} (hR : OpR P o ρ h v h') (ha : alOp o.op = true) : ∃ y, h' = h ++ y := by
  cases hR with
  | pure hx => exact ⟨[], by simp⟩
  | eff _ hx => exact aEff_al ha hx
  | call => exact ⟨[], by simp⟩

/-- An operation that leaves the heap, at a heap that has grown since. -/
theorem opR_wp_pre (hr : HR W0 ok0 A β h2 w) (hp : Pre h h2) {o : Oper} {a : Act} {ρ : Operand → AVal} (hρ : ∀ x, VR W0 ok0 β h2 w (ρ x) (a.eval x)) (ho : opOk N o = true) {v : AVal} {h' : List AObj} (hR : OpR P o ρ h v h') (he : effOp o.op = false)
    {next : Act → World → Prop} {Q : Exit → Act → World → Prop} (hn : ∀ u β' w', Step W0 ok0 A β h2 w β' h2 w' → VR W0 ok0 β' h2 w' v u → next (a.put o.dst u) w') : o.wp P a w next Q := by
  cases hR with
  | pure hx => exact opR_wp hr hρ ho (.pure _ (aPure_mono hp hx)) hn
  | eff _ hx => exact opR_wp hr hρ ho (.eff _ _ (aEff_idle hp he hx).2) hn
  | call fo args ty hop hc =>
    have har : AR W0 ok0 β h2 w (args.toList.map ρ) (args.map a.eval) := ⟨by simp, fun j hj => by
      have hj' : j < args.size := by simpa using hj
      simpa [hj'] using hρ args[j]⟩
    obtain ⟨f, vs, h1, h2⟩ := callOk_rel hr hp hc (hρ fo) har
    unfold Oper.wp
    have hrun : (execOp a.eval o).run P w = .ok (.enter f vs) w := by
      simp only [execOp, hop, resolve]
      exact h1 w
    rw [hrun, Oper.upon_enter]
    refine h2.mono fun e w' he => ?_
    obtain ⟨u, rfl, hst, hv⟩ := he
    exact hn u β w' hst hv

/-- An operation that does not look at the heap. -/
theorem OpR.anywhere {o : Oper} {ρ : Operand → AVal} {v : AVal} {h' : List AObj} (hR : OpR P o ρ h v h') (hn : nOp o.op = true) : OpR P o ρ h2 v h2 := by
  obtain ⟨dst, op, type, pos, after, guard⟩ := o
  cases hR with
  | pure hx =>
    refine .pure _ ?_
    cases op <;> simp only [aPure] at hx ⊢ <;> first | exact hx | (simp [nOp] at hn; done) | skip
    case call c =>
      obtain ⟨callee, args, argTypes⟩ := c
      cases callee with
      | value f => exact hx
      | invoke r m => exact hx
      | builtin b => cases b <;> first | exact hx | (simp [nOp] at hn; done)
  | eff _ hx =>
    refine .eff _ _ ?_
    cases op <;> simp only [aEff] at hx ⊢ <;> first | (cases hx; done) | (simp [nOp] at hn; done) | skip
    case build t parts =>
      obtain ⟨x0, hx0, hx1⟩ := Option.map_eq_some_iff.1 hx
      simp only [Prod.mk.injEq] at hx1
      obtain ⟨rfl, rfl⟩ := hx1
      rw [hx0]; rfl
    case buildSlice t len parts =>
      split at hx
      · split at hx
        · split at hx
          · split at hx
            · rename_i hl
              obtain ⟨cs, hcs, hx1⟩ := Option.map_eq_some_iff.1 hx
              simp only [Prod.mk.injEq] at hx1
              obtain ⟨rfl, rfl⟩ := hx1
              rw [if_pos hl, hcs]; rfl
            · cases hx
          · cases hx
        · cases hx
      · cases hx
    case call c =>
      obtain ⟨callee, args, argTypes⟩ := c
      cases callee with
      | value f => simp at hx
      | invoke r m => simp at hx
      | builtin b => cases b <;> first | (simp at hx; done) | (simp [nOp] at hn; done)
  | call fo args ty hop hc => simp only at hop; subst hop; simp [nOp] at hn

theorem nOp_idle {op : Op} (hn : nOp op = true) : effOp op = false := by
  cases op <;> first | rfl | (simp [nOp] at hn; done) | skip
  case call c =>
    obtain ⟨callee, args, argTypes⟩ := c
    cases callee with
    | value f => rfl
    | invoke r m => rfl
    | builtin b => cases b <;> first | rfl | (simp [nOp] at hn; done)

end
end Go.AW

/- A region that draws its order. -/
namespace Go.AW
open Go Go.RowKit

/-- One of them writes what the other names. -/
def confl (ops : Array Oper) (x y : Oper) : Bool :=
  (match x.dst with | some d => (y.looksAt ops).contains d || y.dst == some d | none => false) || (match y.dst with | some d => (x.looksAt ops).contains d | none => false)

/-- Their order matters to the abstract heap; x is ahead of y in the text. -/
def effConfl (x y : Oper) : Bool :=
  if effOp x.op then !nOp y.op else (effOp y.op && !nOp x.op && !alOp y.op)

def orB (B : Array Nat) (after : List Edge) : Nat :=
  after.foldl (fun s e => if Region.binds .any e then s ||| (2 ^ e.on ||| B.getD e.on 0) else s) 0

def drawAt (ops : Array Oper) (B : Array Nat) (j : Nat) (y : Oper) : Bool :=
  (y.after.toList.all fun e => !Region.binds .any e || decide (e.on < j)) && (B.getD j 0 == orB B y.after.toList) &&
    (List.range j).all fun i => match ops[i]? with
      | some x => !(confl ops x y || effConfl x y) || (B.getD j 0).testBit i
      | none => true

def notSelect : Op → Bool
  | .select .. => false
  | _ => true

def drawOk (ops : Array Oper) : Bool :=
  let B := Region.before ops
  (List.range ops.size).all fun j => match ops[j]? with
    | some y => drawAt ops B j y && notSelect y.op
    | none => true

theorem orB_bit {B : Array Nat} {i : Nat} : ∀ (l : List Edge) (s0 : Nat), (l.foldl (fun s e => if Region.binds .any e then s ||| (2 ^ e.on ||| B.getD e.on 0) else s) s0).testBit i = true → s0.testBit i = true ∨ ∃ e ∈ l, Region.binds .any e = true ∧ (e.on = i ∨ (B.getD e.on 0).testBit i = true) := by
  intro l
  induction l with
  | nil => intro s0 h; exact .inl h
  | cons e l ih =>
    intro s0 h
    simp only [List.foldl_cons] at h
    rcases ih _ h with h1 | ⟨e', he', h2⟩
    · split at h1
      · rename_i hb
        simp only [Nat.testBit_or, Bool.or_eq_true, Nat.testBit_two_pow, decide_eq_true_eq] at h1
        rcases h1 with h1 | h1 | h1
        · exact .inl h1
        · exact .inr ⟨e, by simp, hb, .inl h1⟩
        · exact .inr ⟨e, by simp, hb, .inr h1⟩
      · exact .inl h1
    · exact .inr ⟨e', by simp [he'], h2⟩

theorem orB_mem {B : Array Nat} {e : Edge} (hb : Region.binds .any e = true) : ∀ (l : List Edge) (s0 : Nat), (e ∈ l → (l.foldl (fun s e => if Region.binds .any e then s ||| (2 ^ e.on ||| B.getD e.on 0) else s) s0).testBit e.on = true) ∧
    ∀ i, s0.testBit i = true → (l.foldl (fun s e => if Region.binds .any e then s ||| (2 ^ e.on ||| B.getD e.on 0) else s) s0).testBit i = true := by
  intro l
  induction l with
  | nil => intro s0; exact ⟨fun h => by simp at h, fun i h => h⟩
  | cons e' l ih =>
    intro s0
    simp only [List.foldl_cons]
    constructor
    · intro hm
      rcases List.mem_cons.1 hm with rfl | hm
      · refine (ih _).2 _ ?_
        rw [if_pos hb]
        simp [Nat.testBit_or]
      · exact (ih _).1 hm
    · intro i h
      refine (ih _).2 _ ?_
      split
      · simp [Nat.testBit_or, h]
      · exact h

/-- The operand's value, out of the slots' values. -/
def evF (f : Nat → AVal) : Operand → AVal
  | .tmp t => f t
  | .const v => ofConst v
  | .global g => .val (.pointer (some ⟨g, 0, none⟩))
  | .func f => .func (.func f) [] []

theorem ev_evF (env : List (Nat × AVal)) : ev env = evF (look env) := by
  funext x; cases x <;> rfl

def dstOf (ops : Array Oper) (i : Nat) : Option Nat := (ops[i]?).bind (·.dst)

/-- The slots when the operations of L below n have been run. -/
def envF (ops : Array Oper) (val : Nat → AVal) (e0 : Nat → AVal) (L : Nat → Bool) : Nat → (Nat → AVal)
  | 0 => e0
  | i + 1 => fun t => if L i = true ∧ dstOf ops i = some t then val i else envF ops val e0 L i t

/-- What the run in the order of the text says of operation i. -/
def OpAt (P : Program) (ops : Array Oper) (val : Nat → AVal) (hp : Nat → List AObj) (env : Nat → AVal) (i : Nat) (o : Oper) : Prop :=
  (OpR P o (evF env) (hp i) (val i) (hp (i + 1)) ∧ (o.guard = none ∨ ∃ j want t, o.guard = some (j, want) ∧ dstOf ops j = some t ∧ env t = .val (.bool want))) ∨
  (val i = .val undef ∧ hp (i + 1) = hp i ∧ ∃ j want t, o.guard = some (j, want) ∧ dstOf ops j = some t ∧ ((∃ b, env t = .val (.bool b) ∧ b ≠ want) ∨ ∃ us, env t = .val (.tuple us)))

section
variable {P : Program} {W0 : World} {ok0 A : Nat → Prop} {N : Nat}

/-- The run in the order of the text, laid out. -/
theorem awpList_run {ops : Array Oper} {Qs : ASt → Prop} : ∀ (l : List Oper) (k : Nat) (s : ASt) (val0 : Nat → AVal) (hp0 : Nat → List AObj) (e0 : Nat → AVal), (∀ j, l[j]? = ops[k + j]?) → awpList P ops.toList Qs l s →
    hp0 k = s.heap → (∀ t, look s.env t = envF ops val0 e0 (fun _ => true) k t) →
    (∀ i o, i < k → ops[i]? = some o → OpAt P ops val0 hp0 (envF ops val0 e0 (fun _ => true) i) i o) →
    ∃ val hp, hp 0 = (if k = 0 then s.heap else hp0 0) ∧ (∀ i o, i < k + l.length → ops[i]? = some o → OpAt P ops val hp (envF ops val e0 (fun _ => true) i) i o) ∧
      ∃ s', Qs s' ∧ s'.heap = hp (k + l.length) ∧ ∀ t, look s'.env t = envF ops val e0 (fun _ => true) (k + l.length) t := by
  intro l
  induction l with
  | nil =>
    intro k s val0 hp0 e0 _ h hh henv hat
    refine ⟨val0, hp0, ?_, by simpa using hat, s, h, by simpa using hh.symm, by simpa using henv⟩
    split
    · rename_i hk; subst hk; exact hh
    · rfl
  | cons o rest ih =>
    intro k s val0 hp0 e0 hl h hh henv hat
    have ho : ops[k]? = some o := by have := hl 0; simpa using this.symm
    have hl' : ∀ j, rest[j]? = ops[k + 1 + j]? := fun j => by have := hl (j + 1); simpa [Nat.add_assoc, Nat.add_comm 1 j] using this
    -- one step
    have step : ∀ v h', awpList P ops.toList Qs rest ⟨putA o.dst v s.env, h'⟩ → (∀ val hp, val k = v → hp k = s.heap → hp (k + 1) = h' → (∀ t, envF ops val e0 (fun _ => true) k t = look s.env t) → OpAt P ops val hp (envF ops val e0 (fun _ => true) k) k o) →
        ∃ val hp, hp 0 = (if k = 0 then s.heap else hp0 0) ∧ (∀ i o, i < k + (rest.length + 1) → ops[i]? = some o → OpAt P ops val hp (envF ops val e0 (fun _ => true) i) i o) ∧
      ∃ s', Qs s' ∧ s'.heap = hp (k + (rest.length + 1)) ∧ ∀ t, look s'.env t = envF ops val e0 (fun _ => true) (k + (rest.length + 1)) t := by
      intro v h' hrest hop
      let val1 : Nat → AVal := fun i => if i = k then v else val0 i
      let hp1 : Nat → List AObj := fun i => if i = k + 1 then h' else hp0 i
      have hsame : ∀ i, i ≤ k → envF ops val1 e0 (fun _ => true) i = envF ops val0 e0 (fun _ => true) i := by
        intro i
        induction i with
        | zero => intro _; rfl
        | succ i ihi =>
          intro hi
          funext t
          simp only [envF]
          rw [ihi (by omega)]
          have : val1 i = val0 i := by simp only [val1]; rw [if_neg (by omega)]
          rw [this]
      have hv1 : val1 k = v := by simp [val1]
      have hp1k : hp1 k = s.heap := by simp only [hp1]; rw [if_neg (by omega)]; exact hh
      have hp1k1 : hp1 (k + 1) = h' := by simp [hp1]
      obtain ⟨val, hp, g1, g2, g3⟩ := ih (k + 1) ⟨putA o.dst v s.env, h'⟩ val1 hp1 e0 hl' hrest hp1k1 (fun t => by
          simp only [look_putA, envF, dstOf, ho, Option.bind_some, true_and, hv1]
          split
          · rfl
          · rw [hsame k (Nat.le_refl _), henv])
        (fun i oi hi hoi => by
          rcases Nat.lt_or_ge i k with hik | hik
          · have := hat i oi hik hoi
            rw [hsame i (by omega)]
            have e1 : val1 i = val0 i := by simp only [val1]; rw [if_neg (by omega)]
            have e2 : hp1 i = hp0 i := by simp only [hp1]; rw [if_neg (by omega)]
            have e3 : hp1 (i + 1) = hp0 (i + 1) := by simp only [hp1]; rw [if_neg (by omega)]
            simpa only [OpAt, e1, e2, e3] using this
          · have : i = k := by omega
            subst this
            rw [ho] at hoi; cases hoi
            exact hop val1 hp1 hv1 hp1k hp1k1 (fun t => by rw [hsame _ (Nat.le_refl _), henv]))
      refine ⟨val, hp, ?_, ?_, ?_⟩
      · rw [g1, if_neg (by omega)]
        split
        · rename_i hk; subst hk; exact hp1k
        · rename_i hk; simp only [hp1]; rw [if_neg (by omega)]
      · have : k + 1 + rest.length = k + (rest.length + 1) := by omega
        rwa [this] at g2
      · have : k + 1 + rest.length = k + (rest.length + 1) := by omega
        rwa [this] at g3
    have runs : (o.guard = none ∨ ∃ j want t, o.guard = some (j, want) ∧ dstOf ops j = some t ∧ look s.env t = .val (.bool want)) → opK P o (ev s.env) s.heap (fun v h' => awpList P ops.toList Qs rest ⟨putA o.dst v s.env, h'⟩) → (∃ val hp, hp 0 = (if k = 0 then s.heap else hp0 0) ∧ (∀ i o, i < k + (rest.length + 1) → ops[i]? = some o → OpAt P ops val hp (envF ops val e0 (fun _ => true) i) i o) ∧
      ∃ s', Qs s' ∧ s'.heap = hp (k + (rest.length + 1)) ∧ ∀ t, look s'.env t = envF ops val e0 (fun _ => true) (k + (rest.length + 1)) t) := fun hg hk => by
      obtain ⟨v, h', hR, hK⟩ := opK_R hk
      refine step v h' hK fun val hp e1 e2 e3 e4 => .inl ⟨?_, ?_⟩
      · rw [e1, e2, e3, funext e4, ← ev_evF]; exact hR
      · rcases hg with hg | ⟨j, want, t, a1, a2, a3⟩
        · exact .inl hg
        · exact .inr ⟨j, want, t, a1, a2, by rw [e4]; exact a3⟩
    simp only [List.length_cons]
    simp only [awpList] at h
    split at h
    · rename_i hg; exact runs (.inl hg) h
    · rename_i j want hg
      split at h
      · rename_i t ht
        have ht' : dstOf ops j = some t := by simpa [dstOf] using ht
        split at h
        · rename_i b hb
          by_cases hbw : b = want
          · exact runs (.inr ⟨j, want, t, hg, ht', by rw [hb, hbw]⟩) (h.1 hbw)
          · exact step _ _ (h.2 hbw) fun val hp e1 e2 e3 e4 => .inr ⟨e1, by rw [e2, e3], j, want, t, hg, ht', .inl ⟨b, by rw [e4]; exact hb, hbw⟩⟩
        · rename_i us hb
          exact step _ _ h fun val hp e1 e2 e3 e4 => .inr ⟨e1, by rw [e2, e3], j, want, t, hg, ht', .inr ⟨us, by rw [e4]; exact hb⟩⟩
        · exact h.elim
      · exact h.elim

end
end Go.AW

/- A region that draws its order does, in every order, what the abstract machine says in the text's. -/
namespace Go.AW
open Go Go.RowKit

section
variable {P : Program} {W0 : World} {ok0 A : Nat → Prop} {N : Nat}

theorem map_ev {ρ ρ' : Operand → AVal} {l : List Operand} (h : ∀ x ∈ l, ρ x = ρ' x) : l.map ρ = l.map ρ' := List.map_congr_left h

theorem aPure_congr {o : Oper} {ρ ρ' : Operand → AVal} {h : List AObj} (hρ : ∀ x ∈ o.op.operands, ρ x = ρ' x) : aPure P o ρ h = aPure P o ρ' h := by
  obtain ⟨dst, op, type, pos, after, guard⟩ := o
  cases op <;> simp only [Op.operands] at hρ <;> simp only [aPure]
  case makeFunc fn first captured =>
    rw [map_ev (ρ := ρ) (ρ' := ρ') (l := first.toList) (fun x hx => hρ x (by simp at hx; simp [hx])), map_ev (ρ := ρ) (ρ' := ρ') (l := captured.toList) (fun x hx => hρ x (by simp at hx; simp [hx]))]
  case call c =>
    obtain ⟨callee, args, argTypes⟩ := c
    cases callee with
    | value f => rfl
    | invoke r m => rfl
    | builtin b =>
      have : args.toList.map ρ = args.toList.map ρ' := map_ev fun x hx => hρ x (by simp at hx; simp [Call.operands, hx])
      simp only [this]
  all_goals first | rfl | (simp_all; done)

theorem aEff_congr {o : Oper} {ρ ρ' : Operand → AVal} {h : List AObj} (hρ : ∀ x ∈ o.op.operands, ρ x = ρ' x) : aEff P o ρ h = aEff P o ρ' h := by
  obtain ⟨dst, op, type, pos, after, guard⟩ := o
  have pairs : ∀ ps : Array (Nat × Operand), (∀ x ∈ (ps.toList.map (·.2)), ρ x = ρ' x) → (ps.toList.map fun (i, x) => (i, ρ x)) = (ps.toList.map fun (i, x) => (i, ρ' x)) := fun ps hp =>
    List.map_congr_left fun p hm => by
      obtain ⟨i, x⟩ := p
      simp only [hp x (List.mem_map.2 ⟨(i, x), hm, rfl⟩)]
  cases op <;> simp only [Op.operands] at hρ <;> simp only [aEff]
  case build t ps => rw [pairs ps fun x hx => hρ x (by simpa using hx)]
  case buildSlice t n ps =>
    have hall : (ps.toList.all fun p => (ρ p.2).one) = (ps.toList.all fun p => (ρ' p.2).one) := by
      rw [Bool.eq_iff_iff, List.all_eq_true, List.all_eq_true]
      have : ∀ p ∈ ps.toList, ρ p.2 = ρ' p.2 := fun p hp => hρ p.2 (by simp at hp ⊢; exact ⟨p.1, hp⟩)
      exact ⟨fun h p hp => by rw [← this p hp]; exact h p hp, fun h p hp => by rw [this p hp]; exact h p hp⟩
    rw [pairs ps fun x hx => hρ x (by simpa using hx), hall]
  case slice t x lo hi mx => cases lo <;> cases hi <;> cases mx <;> simp_all
  case call c =>
    obtain ⟨callee, args, argTypes⟩ := c
    cases callee with
    | value f => rfl
    | invoke r m => rfl
    | builtin b =>
      have : args.toList.map ρ = args.toList.map ρ' := map_ev fun x hx => hρ x (by simp at hx; simp [Call.operands, hx])
      cases b <;> first | rfl | simp only [this]
  all_goals first | rfl | (simp_all; done)

theorem OpR.congr {o : Oper} {ρ ρ' : Operand → AVal} {h h' : List AObj} {v : AVal} (hρ : ∀ x ∈ o.op.operands, ρ x = ρ' x) (hR : OpR P o ρ h v h') : OpR P o ρ' h v h' := by
  cases hR with
  | pure hx => exact .pure _ (by rw [← aPure_congr hρ]; exact hx)
  | eff _ hx => exact .eff _ _ (by rw [← aEff_congr hρ]; exact hx)
  | call fo args ty ho hc =>
    refine .call _ fo args ty ho ?_
    rw [ho] at hρ
    simp only [Op.operands, Call.operands] at hρ
    rw [← hρ fo (by simp), ← map_ev (ρ := ρ) (l := args.toList) (fun x hx => hρ x (by simp at hx; simp [hx]))]
    exact hc

theorem envF_upto {ops : Array Oper} {val : Nat → AVal} {e0 : Nat → AVal} {L : Nat → Bool} {t i : Nat} (h : ∀ j, j < i → dstOf ops j = some t → L j = true) : ∀ n, n ≤ i → envF ops val e0 L n t = envF ops val e0 (fun _ => true) n t := by
  intro n
  induction n with
  | zero => intro _; rfl
  | succ n ih =>
    intro hn
    simp only [envF, true_and]
    by_cases hd : dstOf ops n = some t
    · rw [if_pos ⟨h n (by omega) hd, hd⟩, if_pos hd]
    · rw [if_neg (fun hc => hd hc.2), if_neg hd]; exact ih (by omega)

theorem envF_beyond {ops : Array Oper} {val : Nat → AVal} {e0 : Nat → AVal} {L : Nat → Bool} {t i : Nat} : ∀ n, (∀ j, i ≤ j → j < i + n → dstOf ops j = some t → L j = false) → envF ops val e0 L (i + n) t = envF ops val e0 L i t := by
  intro n
  induction n with
  | zero => intro _; rfl
  | succ n ih =>
    intro h
    show envF ops val e0 L (i + n + 1) t = _
    simp only [envF]
    rw [if_neg, ih (fun j h1 h2 => h j h1 (by omega))]
    rintro ⟨h1, h2⟩
    rw [h (i + n) (by omega) (by omega) h2] at h1
    cases h1

theorem envF_other {ops : Array Oper} {val : Nat → AVal} {e0 : Nat → AVal} {L L' : Nat → Bool} {t i : Nat} (hd : dstOf ops i ≠ some t) (hL : ∀ j, j ≠ i → L' j = L j) : ∀ n, envF ops val e0 L' n t = envF ops val e0 L n t := by
  intro n
  induction n with
  | zero => rfl
  | succ n ih =>
    simp only [envF]
    rw [ih]
    by_cases hn : n = i
    · subst hn
      rw [if_neg (fun hc => hd hc.2), if_neg (fun hc => hd hc.2)]
    · rw [hL n hn]

theorem drawOk_at {ops : Array Oper} (hB : drawOk ops = true) {j : Nat} {y : Oper} (hj : ops[j]? = some y) :
    (∀ e ∈ y.after, Region.binds .any e = true → e.on < j) ∧ (Region.before ops).getD j 0 = orB (Region.before ops) y.after.toList ∧
    (∀ i x, i < j → ops[i]? = some x → confl ops x y = true ∨ effConfl x y = true → ((Region.before ops).getD j 0).testBit i = true) := by
  have hlt : j < ops.size := (Array.getElem?_eq_some_iff.1 hj).1
  simp only [drawOk] at hB
  have h1 := List.all_eq_true.1 hB j (by simpa using hlt)
  simp only [hj, Bool.and_eq_true] at h1
  obtain ⟨h1, _⟩ := h1
  simp only [drawAt, Bool.and_eq_true, beq_iff_eq] at h1
  obtain ⟨⟨h2, h3⟩, h4⟩ := h1
  refine ⟨fun e he hb => ?_, h3, fun i x hi hx hc => ?_⟩
  · have := List.all_eq_true.1 h2 e (by simpa using he)
    simpa [hb] using this
  · have := List.all_eq_true.1 h4 i (by simpa using hi)
    simp only [hx, Bool.or_eq_true, Bool.not_eq_true'] at this
    rcases this with h5 | h5
    · rcases hc with hc | hc <;> simp [hc] at h5
    · exact h5

theorem heap_same {ops : Array Oper} {val : Nat → AVal} {hp : Nat → List AObj} {env : Nat → Nat → AVal} {m : Nat} (hat : ∀ i o, i < m → ops[i]? = some o → OpAt P ops val hp (env i) i o) (hm : m = ops.size) :
    ∀ n c, c + n ≤ m → (∀ x o, c ≤ x → x < c + n → ops[x]? = some o → effOp o.op = false) → hp (c + n) = hp c := by
  intro n
  induction n with
  | zero => intro c _ _; rfl
  | succ n ih =>
    intro c hc h
    obtain ⟨o, ho⟩ : ∃ o, ops[c + n]? = some o := ⟨ops[c + n]'(by omega), by simp⟩
    have h1 : hp (c + n + 1) = hp (c + n) := by
      rcases hat (c + n) o (by omega) ho with ⟨hR, _⟩ | ⟨_, h2, _⟩
      · exact hR.idle (h _ _ (by omega) (by omega) ho)
      · exact h2
    show hp (c + n + 1) = hp c
    rw [h1]; exact ih c (by omega) (fun x o h1 h2 h3 => h x o h1 (by omega) h3)

theorem heap_pre {ops : Array Oper} {val : Nat → AVal} {hp : Nat → List AObj} {env : Nat → Nat → AVal} {m : Nat} (hat : ∀ i o, i < m → ops[i]? = some o → OpAt P ops val hp (env i) i o) (hm : m = ops.size) :
    ∀ n c, c + n ≤ m → (∀ x o, c ≤ x → x < c + n → ops[x]? = some o → effOp o.op = true → alOp o.op = true) → Pre (hp c) (hp (c + n)) := by
  intro n
  induction n with
  | zero => intro c _ _; exact Pre.refl _
  | succ n ih =>
    intro c hc h
    obtain ⟨o, ho⟩ : ∃ o, ops[c + n]? = some o := ⟨ops[c + n]'(by omega), by simp⟩
    have h0 := ih c (by omega) (fun x o h1 h2 h3 => h x o h1 (by omega) h3)
    have h1 : Pre (hp (c + n)) (hp (c + n + 1)) := by
      rcases hat (c + n) o (by omega) ho with ⟨hR, _⟩ | ⟨_, h2, _⟩
      · by_cases he : effOp o.op = true
        · obtain ⟨y, hy⟩ := hR.al (h _ _ (by omega) (by omega) ho he)
          intro i ob hi
          rw [hy, List.getElem?_append_left (List.getElem?_eq_some_iff.1 hi).1]; exact hi
        · rw [hR.idle (by simpa using he)]; exact Pre.refl _
      · rw [h2]; exact Pre.refl _
    exact fun i ob hi => h1 i ob (h0 i ob hi)

/-- What holds when the operations of 'listed' have been run. -/
structure Inv (W0 : World) (ok0 A : Nat → Prop) (N : Nat) (ops : Array Oper) (val : Nat → AVal) (hp : Nat → List AObj) (e0 : Nat → AVal) (listed : Array Bool) (a : Act) (w : World) : Prop where
  size : listed.size = ops.size
  closed : ∀ j, listed.getD j false = true → ∀ i, ((Region.before ops).getD j 0).testBit i = true → listed.getD i false = true
  rest : ∃ c, c ≤ ops.size ∧ (∀ i o, i < c → ops[i]? = some o → effOp o.op = true → listed.getD i false = true) ∧ (∀ i o, c ≤ i → ops[i]? = some o → effOp o.op = true → listed.getD i false = false) ∧
    ∃ β, HR W0 ok0 A β (hp c) w ∧ (∀ t, VR W0 ok0 β (hp c) w (envF ops val e0 (fun i => listed.getD i false) ops.size t) (a.tmps.getD t undef)) ∧ a.tmps.size = N ∧ a.defers = []

theorem set_getD (l : Array Bool) (i j : Nat) (hi : i < l.size) : (l.setIfInBounds i true).getD j false = if j = i then true else l.getD j false := by
  simp only [Array.getD_eq_getD_getElem?]
  by_cases hj : j = i
  · subst hj; simp [hi]
  · rw [if_neg hj, Array.getElem?_setIfInBounds_ne (Ne.symm hj)]

theorem Inv.step {ops : Array Oper} {val : Nat → AVal} {hp : Nat → List AObj} {e0 : Nat → AVal} {listed : Array Bool} {a : Act} {w : World} (hB : drawOk ops = true) (hall : ops.toList.all (opOk N) = true)
    (hat : ∀ i o, i < ops.size → ops[i]? = some o → OpAt P ops val hp (envF ops val e0 (fun _ => true) i) i o) (hinv : Inv W0 ok0 A N ops val hp e0 listed a w) {i : Nat} (hi : i ∈ Region.ready .any ops listed)
    {K : Act → World → Prop} {Q : Exit → Act → World → Prop} (hK : ∀ a w, Inv W0 ok0 A N ops val hp e0 (listed.setIfInBounds i true) a w → K a w) : wpOp P ops Q i K a w := by
  obtain ⟨hun, o, ho, hafter⟩ := mem_ready.1 hi
  have hlt : i < ops.size := (Array.getElem?_eq_some_iff.1 ho).1
  have hlt' : i < listed.size := by rw [hinv.size]; exact hlt
  have hun' : listed.getD i false = false := by
    simp only [Array.getD_eq_getD_getElem?] at hun ⊢
    simpa [hlt'] using hun
  obtain ⟨hd1, hd2, hd3⟩ := drawOk_at hB ho
  obtain ⟨c, hc1, hc2, hc3, β, hr, henv, hs, hdf⟩ := hinv.rest
  have hopok : opOk N o = true := by
    refine List.all_eq_true.1 hall o ?_
    rw [← Array.getElem?_toList] at ho
    exact List.mem_of_getElem? ho
  -- what the operation waits for is there
  have anc : ∀ j, ((Region.before ops).getD i 0).testBit j = true → listed.getD j false = true := by
    intro j hj
    rw [hd2] at hj
    rcases orB_bit _ _ hj with h0 | ⟨e, he, hb, h1⟩
    · simp at h0
    · have he' : listed.getD e.on false = true := hafter e (by simpa using he) hb
      rcases h1 with rfl | h1
      · exact he'
      · exact hinv.closed _ he' _ h1
  -- what comes behind it is not
  have later : ∀ j y, i < j → ops[j]? = some y → confl ops o y = true ∨ effConfl o y = true → listed.getD j false = false := by
    intro j y hij hj hcf
    cases hl : listed.getD j false with
    | false => rfl
    | true =>
      have := hinv.closed j hl i ((drawOk_at hB hj).2.2 i o hij ho hcf)
      rw [hun'] at this; cases this
  have dst_at : ∀ {j t}, dstOf ops j = some t → ∃ y, ops[j]? = some y ∧ y.dst = some t := fun {j t} h => by
    simp only [dstOf] at h
    cases hj : ops[j]? with
    | none => simp [hj] at h
    | some y => rw [hj] at h; exact ⟨y, rfl, by simpa using h⟩
  have named : ∀ t, t ∈ o.looksAt ops → envF ops val e0 (fun i => listed.getD i false) ops.size t = envF ops val e0 (fun _ => true) i t := by
    intro t ht
    have h1 : ∀ j, j < i → dstOf ops j = some t → listed.getD j false = true := fun j hj hd => by
      obtain ⟨y, hy, hyd⟩ := dst_at hd
      exact anc j (hd3 j y hj hy (.inl (by simp [confl, hyd, ht])))
    have h2 : ∀ j, i ≤ j → j < i + (ops.size - i) → dstOf ops j = some t → listed.getD j false = false := fun j hj _ hd => by
      rcases Nat.lt_or_ge i j with hij | hij
      · obtain ⟨y, hy, hyd⟩ := dst_at hd
        exact later j y hij hy (.inl (by simp [confl, hyd, ht]))
      · have : j = i := by omega
        subst this; exact hun'
    have h3 := envF_beyond (val := val) (e0 := e0) (ops.size - i) h2
    rw [show i + (ops.size - i) = ops.size by omega] at h3
    rw [h3]
    exact envF_upto h1 i (Nat.le_refl _)
  have hρ : ∀ x ∈ o.op.operands, evF (envF ops val e0 (fun _ => true) i) x = evF (envF ops val e0 (fun i => listed.getD i false) ops.size) x := by
    intro x hx
    cases x with
    | tmp t =>
      simp only [evF]
      exact (named t (List.mem_append_left _ (List.mem_filterMap.2 ⟨.tmp t, by simpa using hx, rfl⟩))).symm
    | _ => rfl
  have hev : ∀ x, VR W0 ok0 β (hp c) w (evF (envF ops val e0 (fun i => listed.getD i false) ops.size) x) (a.eval x) := by
    intro x
    cases x with
    | tmp t => exact henv t
    | const v => exact ofConst_rel v
    | global g => exact .val _
    | func f => exact .func _ _ _ _ _ rfl rfl (fun j hj => by simp at hj) (fun j hj => by simp at hj)
  -- the state behind it
  have after : ∀ c' β' w' u, c' ≤ ops.size → (∀ j y, j < c' → ops[j]? = some y → effOp y.op = true → (listed.setIfInBounds i true).getD j false = true) →
      (∀ j y, c' ≤ j → ops[j]? = some y → effOp y.op = true → (listed.setIfInBounds i true).getD j false = false) → Step W0 ok0 A β (hp c) w β' (hp c') w' → VR W0 ok0 β' (hp c') w' (val i) u → Inv W0 ok0 A N ops val hp e0 (listed.setIfInBounds i true) (a.put o.dst u) w' := by
    intro c' β' w' u g1 g2 g3 hst hv
    refine ⟨by simp [hinv.size], ?_, c', g1, g2, g3, β', hst.hr, fun t => ?_, by rw [put_size, hs], by rw [put_defers, hdf]⟩
    · intro j hj k hk
      rw [set_getD _ _ _ hlt'] at hj ⊢
      split
      · rfl
      · split at hj
        · rename_i hji; subst hji; exact anc k hk
        · exact hinv.closed j hj k hk
    · rw [put_getD _ _ _ _ (fun d hd => by rw [hs]; exact opOk_dst hopok d hd)]
      split
      · rename_i hd
        have hdi : dstOf ops i = some t := by simp [dstOf, ho, hd]
        have h2 : ∀ j, i + 1 ≤ j → j < i + 1 + (ops.size - (i + 1)) → dstOf ops j = some t → (listed.setIfInBounds i true).getD j false = false := fun j hj _ hd' => by
          rw [set_getD _ _ _ hlt', if_neg (by omega)]
          obtain ⟨y, hy, hyd⟩ := dst_at hd'
          exact later j y (by omega) hy (.inl (by simp [confl, hyd, hd]))
        have h3 := envF_beyond (val := val) (e0 := e0) (ops.size - (i + 1)) h2
        rw [show i + 1 + (ops.size - (i + 1)) = ops.size by omega] at h3
        rw [h3]
        simp only [envF]
        rw [if_pos ⟨by rw [set_getD _ _ _ hlt']; simp, hdi⟩]
        exact hv
      · rename_i hd
        have hdi : dstOf ops i ≠ some t := by simp only [dstOf, ho, Option.bind_some]; exact hd
        rw [envF_other hdi (L := fun i => listed.getD i false) (fun j hj => by rw [set_getD _ _ _ hlt', if_neg hj])]
        exact hst.vr _ _ (henv t)
  -- an operation that changes the heap is the next of its kind
  have effc : effOp o.op = true → c ≤ i ∧ hp i = hp c := by
    intro he
    have hci : c ≤ i := by
      rcases Nat.lt_or_ge i c with h1 | h1
      · have := hc2 i o h1 ho he; rw [hun'] at this; cases this
      · exact h1
    refine ⟨hci, ?_⟩
    have := heap_same hat rfl (i - c) c (by omega) (fun x y h1 h2 hx => by
      cases hex : effOp y.op with
      | false => rfl
      | true =>
        have hL := hc3 x y h1 hx hex
        have hne : nOp o.op = false := by
          cases hn : nOp o.op with
          | false => rfl
          | true => rw [nOp_idle hn] at he; cases he
        have := anc x (hd3 x y (by omega) hx (.inr (by simp [effConfl, hex, hne])))
        rw [hL] at this; cases this)
    rwa [show c + (i - c) = i by omega] at this
  have c_eff : effOp o.op = true → (i + 1 ≤ ops.size) ∧ (∀ j y, j < i + 1 → ops[j]? = some y → effOp y.op = true → (listed.setIfInBounds i true).getD j false = true) ∧
      (∀ j y, i + 1 ≤ j → ops[j]? = some y → effOp y.op = true → (listed.setIfInBounds i true).getD j false = false) := by
    intro he
    obtain ⟨hci, _⟩ := effc he
    refine ⟨hlt, fun j y hj hy hey => ?_, fun j y hj hy hey => ?_⟩
    · rw [set_getD _ _ _ hlt']
      split
      · rfl
      · rename_i hji
        have hne : nOp o.op = false := by
          cases hn : nOp o.op with
          | false => rfl
          | true => rw [nOp_idle hn] at he; cases he
        exact anc j (hd3 j y (by omega) hy (.inr (by simp [effConfl, hey, hne])))
    · rw [set_getD _ _ _ hlt', if_neg (by omega)]
      exact hc3 j y (by omega) hy hey
  have c_idle : effOp o.op = false → (∀ j y, j < c → ops[j]? = some y → effOp y.op = true → (listed.setIfInBounds i true).getD j false = true) ∧
      (∀ j y, c ≤ j → ops[j]? = some y → effOp y.op = true → (listed.setIfInBounds i true).getD j false = false) := by
    intro he
    refine ⟨fun j y hj hy hey => ?_, fun j y hj hy hey => ?_⟩
    · rw [set_getD _ _ _ hlt']
      split
      · rfl
      · exact hc2 j y hj hy hey
    · rw [set_getD _ _ _ hlt', if_neg]
      · exact hc3 j y hj hy hey
      · rintro rfl; rw [ho] at hy; cases hy; rw [he] at hey; cases hey
  have guard_named : ∀ j want t, o.guard = some (j, want) → dstOf ops j = some t → t ∈ o.looksAt ops := by
    intro j want t hg hd
    refine List.mem_append_right _ ?_
    rw [hg]
    simp only [dstOf] at hd
    simp [hd]
  unfold wpOp
  simp only [ho]
  rcases hat i o hlt ho with ⟨hR, hg⟩ | ⟨hv, hh, j, want, t, hg, hd, hb⟩
  · -- it is run
    have hw : Region.wanted o (yielded ops a.tmps) = true := by
      rcases hg with hg | ⟨j, want, t, hg, hd, hb⟩
      · simp [Region.wanted, hg]
      · have h1 := named t (guard_named j want t hg hd)
        rw [hb] at h1
        have h2 := henv t
        rw [h1] at h2
        have := yielded_bool (ops := ops.toList) (j := j) (by simpa [dstOf] using hd) h2
        simp only [Array.toArray_toList] at this
        simp [Region.wanted, hg, this]
    rw [if_pos hw]
    left
    have hR' := hR.congr hρ
    cases he : effOp o.op with
    | true =>
      obtain ⟨hci, hhc⟩ := effc he
      rw [hhc] at hR'
      obtain ⟨g1, g2, g3⟩ := c_eff he
      exact opR_wp hr hev hopok hR' fun u β' w' hst hvu => hK _ _ (after (i + 1) β' w' u g1 g2 g3 hst hvu)
    | false =>
      obtain ⟨g2, g3⟩ := c_idle he
      cases hn : nOp o.op with
      | true => exact opR_wp hr hev hopok (hR'.anywhere hn) fun u β' w' hst hvu => hK _ _ (after c β' w' u hc1 g2 g3 hst hvu)
      | false =>
        have hpre : Pre (hp i) (hp c) := by
          rcases Nat.le_total c i with h1 | h1
          · have := heap_same hat rfl (i - c) c (by omega) (fun x y h1 h2 hx => by
              cases hex : effOp y.op with
              | false => rfl
              | true =>
                have hL := hc3 x y h1 hx hex
                have := anc x (hd3 x y (by omega) hx (.inr (by simp [effConfl, hex, hn])))
                rw [hL] at this; cases this)
            rw [show c + (i - c) = i by omega] at this
            rw [this]; exact Pre.refl _
          · have := heap_pre hat rfl (c - i) i (by omega) (fun x y h2 h3 hx hex => by
              cases hal : alOp y.op with
              | true => rfl
              | false =>
                have hxi : x ≠ i := by rintro rfl; rw [ho] at hx; cases hx; rw [he] at hex; cases hex
                have hL := hc2 x y (by omega) hx hex
                have := later x y (by omega) hx (.inr (by simp [effConfl, he, hex, hn, hal]))
                rw [hL] at this; cases this)
            rwa [show i + (c - i) = c by omega] at this
        exact opR_wp_pre hr hpre hev hopok hR' he fun u β' w' hst hvu => hK _ _ (after c β' w' u hc1 g2 g3 hst hvu)
  · -- it is not wanted
    have h1 := named t (guard_named j want t hg hd)
    have h2 := henv t
    rw [h1] at h2
    have hw : Region.wanted o (yielded ops a.tmps) = false := by
      rcases hb with ⟨b, hb, hne⟩ | ⟨us, hb⟩
      · rw [hb] at h2
        have := yielded_bool (ops := ops.toList) (j := j) (by simpa [dstOf] using hd) h2
        simp only [Array.toArray_toList] at this
        simp [Region.wanted, hg, this, hne]
      · rw [hb] at h2
        have := yielded_tuple (ops := ops.toList) (j := j) (by simpa [dstOf] using hd) h2
        simp only [Array.toArray_toList] at this
        simp [Region.wanted, hg, this]
    rw [if_neg (by simp [hw])]
    have hvu : ∀ h', VR W0 ok0 β h' w (val i) undef := fun h' => by rw [hv]; exact .val _
    cases he : effOp o.op with
    | true =>
      obtain ⟨hci, hhc⟩ := effc he
      obtain ⟨g1, g2, g3⟩ := c_eff he
      have hst : Step W0 ok0 A β (hp c) w β (hp (i + 1)) w := by rw [hh, hhc]; exact Step.refl hr
      exact hK _ _ (after (i + 1) β w undef g1 g2 g3 hst (hvu _))
    | false =>
      obtain ⟨g2, g3⟩ := c_idle he
      exact hK _ _ (after c β w undef hc1 g2 g3 (Step.refl hr) (hvu _))

theorem count_lt {p p' : Nat → Bool} {i : Nat} (hpp : ∀ x, p' x = true → p x = true) : ∀ (l : List Nat), i ∈ l → p i = true → p' i = false → l.countP p' < l.countP p := by
  have hle : ∀ l : List Nat, l.countP p' ≤ l.countP p := fun l => by
    induction l with
    | nil => simp
    | cons x l ih =>
      rw [List.countP_cons, List.countP_cons]
      cases h1 : p' x with
      | false => cases p x <;> simp <;> omega
      | true => rw [hpp x h1]; simp; exact ih
  intro l
  induction l with
  | nil => intro h; simp at h
  | cons x l ih =>
    intro hm h1 h2
    rw [List.countP_cons, List.countP_cons]
    rcases List.mem_cons.1 hm with rfl | hm
    · have := hle l
      rw [h1, h2]; simp; omega
    · have := ih hm h1 h2
      cases h3 : p' x with
      | false => cases p x <;> simp <;> omega
      | true => rw [hpp x h3]; simp; exact this

/-- In every order. -/
theorem draw_any {ops : Array Oper} {Qs : ASt → Prop} {Q : Exit → Act → World → Prop} {val : Nat → AVal} {hp : Nat → List AObj} {e0 : Nat → AVal} (hB : drawOk ops = true) (hall : ops.toList.all (opOk N) = true)
    (hat : ∀ i o, i < ops.size → ops[i]? = some o → OpAt P ops val hp (envF ops val e0 (fun _ => true) i) i o)
    (hQ : ∀ s a w, Qs s → FR W0 ok0 A N s a w → Q .normal a w) (s' : ASt) (hs' : Qs s') (hh : s'.heap = hp ops.size) (he : ∀ t, look s'.env t = envF ops val e0 (fun _ => true) ops.size t) :
    ∀ (fuel : Nat) (listed : Array Bool) (a : Act) (w : World), (List.range ops.size).countP (fun i => !listed.getD i false) ≤ fuel → Inv W0 ok0 A N ops val hp e0 listed a w → wpAny P .any ops Q fuel listed a w := by
  have fin : ∀ (listed : Array Bool) (a : Act) (w : World), Inv W0 ok0 A N ops val hp e0 listed a w → (∀ i, i < ops.size → listed.getD i false = true) → Q .normal a w := by
    intro listed a w hinv hl
    obtain ⟨c, hc1, hc2, hc3, β, hr, henv, hs, hd⟩ := hinv.rest
    have hhc : hp ops.size = hp c := by
      have := heap_same hat rfl (ops.size - c) c (by omega) (fun x y h1 h2 hx => by
        cases hex : effOp y.op with
        | false => rfl
        | true => have h3 := hc3 x y h1 hx hex; rw [hl x (by omega)] at h3; cases h3)
      rwa [show c + (ops.size - c) = ops.size by omega] at this
    refine hQ s' a w hs' ⟨β, by rw [hh, hhc]; exact hr, fun t => ?_, hs, hd⟩
    rw [he, hh, hhc, ← envF_upto (L := fun i => listed.getD i false) (fun j hj _ => hl j hj) ops.size (Nat.le_refl _)]
    exact henv t
  have none_ready : ∀ (listed : Array Bool) (a : Act) (w : World), Inv W0 ok0 A N ops val hp e0 listed a w → Region.ready .any ops listed = [] → ∀ i, i < ops.size → listed.getD i false = true := by
    intro listed a w hinv hr i
    induction i using Nat.strongRecOn with
    | _ i ih =>
      intro hi
      cases hl : listed.getD i false with
      | true => rfl
      | false =>
        exfalso
        have ho : ops[i]? = some ops[i] := by simp [hi]
        have : i ∈ Region.ready .any ops listed := by
          refine mem_ready.2 ⟨?_, ops[i], ho, fun e he hb => ?_⟩
          · have : i < listed.size := by rw [hinv.size]; exact hi
            simp only [Array.getD_eq_getD_getElem?] at hl ⊢
            simpa [this] using hl
          · have hlt := (drawOk_at hB ho).1 e he hb
            exact ih e.on hlt (by omega)
        rw [hr] at this; cases this
  intro fuel
  induction fuel with
  | zero =>
    intro listed a w hf hinv
    have hl : ∀ i, i < ops.size → listed.getD i false = true := by
      intro i hi
      cases hl : listed.getD i false with
      | true => rfl
      | false =>
        exfalso
        have : 0 < (List.range ops.size).countP (fun i => !listed.getD i false) := List.countP_pos_iff.2 ⟨i, by simpa using hi, by simp [hl]⟩
        omega
    refine ⟨?_, fin listed a w hinv hl⟩
    cases hr : Region.ready .any ops listed with
    | nil => rfl
    | cons x xs =>
      exfalso
      obtain ⟨h1, o, ho, _⟩ := mem_ready.1 (show x ∈ Region.ready .any ops listed by rw [hr]; simp)
      have hx : x < ops.size := (Array.getElem?_eq_some_iff.1 ho).1
      have h2 := hl x hx
      have : x < listed.size := by rw [hinv.size]; exact hx
      simp only [Array.getD_eq_getD_getElem?] at h1 h2
      simp [this] at h1 h2
      rw [h1] at h2; cases h2
  | succ fuel ih =>
    intro listed a w hf hinv
    refine ⟨fun hr => fin listed a w hinv (none_ready listed a w hinv hr), fun i hi => ?_⟩
    refine Inv.step hB hall hat hinv hi fun a' w' hinv' => ih _ a' w' ?_ hinv'
    obtain ⟨h1, o, ho, _⟩ := mem_ready.1 hi
    have hx : i < ops.size := (Array.getElem?_eq_some_iff.1 ho).1
    have hxl : i < listed.size := by rw [hinv.size]; exact hx
    have h1' : listed.getD i false = false := by
      simp only [Array.getD_eq_getD_getElem?] at h1 ⊢
      simpa [hxl] using h1
    have := count_lt (p := fun j => !listed.getD j false) (p' := fun j => !(listed.setIfInBounds i true).getD j false) (i := i) (fun x hx => by
      rw [set_getD _ _ _ hxl] at hx
      split at hx
      · cases hx
      · exact hx) (List.range ops.size) (by simpa using hx) (by simp only [h1']; rfl) (by rw [set_getD _ _ _ hxl]; simp)
    omega

theorem draw_sound (hm : P.follows .mixedOrders = true) {id : Nat} {ops : Array Oper} {Qs : ASt → Prop} {Q : Exit → Act → World → Prop} (hB : drawOk ops = true) (hall : ops.toList.all (opOk N) = true)
    (hQ : ∀ s a w, Qs s → FR W0 ok0 A N s a w → Q .normal a w) {s : ASt} {a : Act} {w : World} (h : awpList P ops.toList Qs ops.toList s) (hf : FR W0 ok0 A N s a w) : (Code.region id ops true).wp P Q a w := by
  refine wp_region_any hm ?_
  obtain ⟨val, hp, g1, g2, s', g3, g4, g5⟩ := awpList_run (ops := ops) ops.toList 0 s (fun _ => .undef) (fun _ => s.heap) (look s.env) (fun j => by simp) h rfl (fun t => rfl) (fun i o hi => by omega)
  simp only [if_true, Array.length_toList, Nat.zero_add] at g1 g2 g4 g5
  obtain ⟨β, hr, henv, hs, hd⟩ := hf
  have hst := step_world hr ((Below.refl w.heap.size w).drew)
  refine draw_any hB hall g2 hQ s' g3 g4 g5 ops.size _ a _ ?_ ?_
  · exact Nat.le_trans List.countP_le_length (by simp)
  · refine ⟨by simp, fun j hj => ?_, 0, Nat.zero_le _, fun i o hi => by omega, fun i o _ ho _ => ?_, β, by rw [g1]; exact hst.hr, fun t => ?_, hs, hd⟩
    · simp [Array.getElem?_replicate] at hj
      split at hj <;> simp at hj
    · have : i < ops.size := (Array.getElem?_eq_some_iff.1 ho).1
      simp [this]
    · have hno : ∀ n, envF ops val (look s.env) (fun i => (Array.replicate ops.size false).getD i false) n t = look s.env t := by
        intro n
        induction n with
        | zero => rfl
        | succ n ih =>
          simp only [envF]
          rw [if_neg, ih]
          rintro ⟨hc, _⟩
          simp [Array.getElem?_replicate] at hc
          split at hc <;> simp at hc
      rw [hno, g1]
      exact hst.vr _ _ (henv t)

end
end Go.AW

/- Code, and a function's contract. -/
namespace Go.AW
open Go Go.RowKit

def codeOk (N : Nat) : Code → Bool
  | .region _ ops d => ops.toList.all (opOk N) && (!d || drawOk ops)
  | .seq a b => codeOk N a && codeOk N b
  | .cond _ x y => codeOk N x && codeOk N y
  | .block _ c => codeOk N c
  | .loop c => codeOk N c
  | _ => true

section
variable {P : Program} {W0 : World} {ok0 A : Nat → Prop} {N : Nat}

theorem awp_sound (hm : P.follows .mixedOrders = true) : ∀ (c : Code) (Qa : Exit → ASt → Prop) (Q : Exit → Act → World → Prop) (s : ASt) (a : Act) (w : World), codeOk N c = true → (∀ e s a w, Qa e s → FR W0 ok0 A N s a w → Q e a w) →
    awp P c Qa s → FR W0 ok0 A N s a w → c.wp P Q a w := by
  intro c
  induction c with
  | skip => intro Qa Q s a w _ hq h hf; exact wp_skip (hq _ _ _ _ h hf)
  | region id ops d =>
    intro Qa Q s a w hok hq h hf
    simp only [codeOk, Bool.and_eq_true, Bool.or_eq_true, Bool.not_eq_true'] at hok
    obtain ⟨h1, h2⟩ := hok
    cases d with
    | true => exact draw_sound hm (h2.resolve_left (by simp)) h1 (fun s a w => hq _ s a w) h hf
    | false =>
      have := awpList_sound (Q := Q) (fun s a w => hq _ s a w) ops.toList s a w h1 h hf
      simp only [Array.toArray_toList] at this
      exact wp_region_list this
  | seq x y ihx ihy =>
    intro Qa Q s a w hok hq h hf
    simp only [codeOk, Bool.and_eq_true] at hok
    refine wp_seq (ihx _ _ s a w hok.1 (fun e s a w he hf => ?_) h hf)
    cases e with
    | normal => exact ihy _ _ s a w hok.2 hq he hf
    | _ => exact hq _ _ _ _ he hf
  | cond c x y ihx ihy =>
    intro Qa Q s a w hok hq h hf
    simp only [codeOk, Bool.and_eq_true] at hok
    simp only [awp] at h
    split at h
    · rename_i b hb
      obtain ⟨β, hr, henv, hs, hd⟩ := hf
      have hc := ev_rel henv c
      rw [hb] at hc
      have hcb : a.eval c = .bool b := by
        generalize a.eval c = u at hc
        cases hc; rfl
      refine wp_cond hcb ?_
      cases b with
      | true => exact ihx _ _ s a w hok.1 hq (h.1 rfl) ⟨β, hr, henv, hs, hd⟩
      | false => exact ihy _ _ s a w hok.2 hq (h.2 rfl) ⟨β, hr, henv, hs, hd⟩
    · exact h.elim
  | block id c ih =>
    intro Qa Q s a w hok hq h hf
    refine wp_block (ih _ _ s a w hok (fun e s a w he hf => ?_) h hf)
    cases e with
    | exit id' =>
      simp only [Exit.inBlock] at he ⊢
      split
      · rename_i hid; rw [if_pos hid] at he; exact hq _ _ _ _ he hf
      · rename_i hid; rw [if_neg hid] at he; exact hq _ _ _ _ he hf
    | _ => exact hq _ _ _ _ he hf
  | loop c ih =>
    intro Qa Q s a w hok hq h hf
    obtain ⟨ks, I, n, h0, hr⟩ := h
    refine wp_loop_fuel (fun n a w => ∃ s, I n s ∧ FR W0 ok0 A N s a w) (fun n a w ⟨s, hs, hf⟩ => ?_) (n := n) ⟨_, h0, hf.keep ks⟩
    refine ih _ _ s a w hok (fun e s a w he hf => ?_) (hr n s hs) hf
    cases e with
    | normal =>
      obtain ⟨m, hlt, hm⟩ := he
      exact ⟨m, hlt, _, hm, hf.keep ks⟩
    | _ => exact hq _ _ _ _ he hf
  | exit id => intro Qa Q s a w _ hq h hf; exact wp_exit (hq _ _ _ _ h hf)
  | ret => intro Qa Q s a w _ hq h hf; exact wp_ret (hq _ _ _ _ h hf)
  | _ => intros; rename_i h _; exact h.elim

/-- The value of a result. -/
def resAt (P : Program) (s : ASt) : ResultVar → Option AVal
  | .tmp t => some (look s.env t)
  | .cell a t => match pview s.heap (look s.env a) with
    | some cs => aPart P t cs
    | none => none

def resVal (P : Program) (fn : Func) (s : ASt) : Option AVal :=
  match fn.results.toList.mapM (resAt P s) with
  | some [x] => some x
  | some l => some (.tuple l)
  | none => none

theorem resAt_rel {β : Nat → Nat × Nat} {s : ASt} {a : Act} {w : World} (hr : HR W0 ok0 A β s.heap w) (henv : ∀ t, VR W0 ok0 β s.heap w (look s.env t) (a.tmps.getD t undef)) {r : ResultVar} {x : AVal} (hx : resAt P s r = some x) :
    ∃ v, (match r with | .tmp t => pure (a.tmps.getD t undef) | .cell p t => do loadVar t (← asAddr (a.tmps.getD p undef)) : Sem Value).run P w = .ok v w ∧ VR W0 ok0 β s.heap w x v := by
  cases r with
  | tmp t => simp only [resAt, Option.some.injEq] at hx; subst hx; exact ⟨_, rfl, henv t⟩
  | cell p t =>
    simp only [resAt] at hx
    split at hx
    · rename_i cs hp
      obtain ⟨b, off, hv, hc⟩ := pview_rel hr (henv p) hp
      obtain ⟨v, h1, h2⟩ := loadVar_rel hx hc
      refine ⟨v, ?_, h2⟩
      simp [hv, asAddr, h1]
    · cases hx

theorem resVal_rel {β : Nat → Nat × Nat} {s : ASt} {a : Act} {w : World} (hr : HR W0 ok0 A β s.heap w) (henv : ∀ t, VR W0 ok0 β s.heap w (look s.env t) (a.tmps.getD t undef)) {fn : Func} {x : AVal} (hx : resVal P fn s = some x) :
    ∃ v, (results fn a.tmps).run P w = .ok v w ∧ VR W0 ok0 β s.heap w x v := by
  have key : ∀ (l : List ResultVar) (xs : List AVal), l.mapM (resAt P s) = some xs → ∃ vs : List Value, (l.mapM (fun r => match r with | .tmp t => pure (a.tmps.getD t undef) | .cell p t => do loadVar t (← asAddr (a.tmps.getD p undef)) : ResultVar → Sem Value)).run P w = .ok vs w ∧ vs.length = xs.length ∧ ∀ j (hj : j < xs.length), VR W0 ok0 β s.heap w xs[j] (vs.getD j undef) := by
    intro l
    induction l with
    | nil => intro xs h; simp at h; subst h; exact ⟨[], by simp, rfl, fun j hj => by simp at hj⟩
    | cons r l ih =>
      intro xs h
      simp only [List.mapM_cons, Option.bind_eq_bind, Option.pure_def] at h
      cases h1 : resAt P s r with
      | none => simp [h1] at h
      | some x =>
        cases h2 : l.mapM (resAt P s) with
        | none => simp [h1, h2] at h
        | some xs' =>
          simp [h1, h2] at h
          subst h
          obtain ⟨v, g1, g2⟩ := resAt_rel hr henv h1
          obtain ⟨vs, g3, g4, g5⟩ := ih xs' h2
          refine ⟨v :: vs, ?_, by simp [g4], fun j hj => ?_⟩
          · simp only [List.mapM_cons, Sem.run_bind, g1, Result.andThen_ok, g3, Sem.run_pure]
          · cases j with
            | zero => simpa using g2
            | succ j => simpa using g5 j (by simpa using hj)
  unfold resVal at hx
  cases hm : fn.results.toList.mapM (resAt P s) with
  | none => simp [hm] at hx
  | some xs =>
    obtain ⟨vs, g1, g2, g3⟩ := key _ _ hm
    have hrun : (results fn a.tmps).run P w = .ok (if h : vs.toArray.size = 1 then vs.toArray[0] else .tuple vs.toArray) w := by
      unfold results
      simp only [Sem.run_bind, Array.mapM_eq_mapM_toList, Sem.run_map]
      exact Eq.trans (congrArg (fun (r : Result (List Value)) => (r.andThen fun a w' => Result.ok a.toArray w').andThen fun a w' => Sem.run P (pure (if h : a.size = 1 then a[0] else Value.tuple a)) w') g1) rfl
    rw [hm] at hx
    rcases xs with _ | ⟨x0, _ | ⟨x1, xr⟩⟩
    · simp only [Option.some.injEq] at hx; subst hx
      obtain rfl : vs = [] := List.eq_nil_of_length_eq_zero (by simpa using g2)
      exact ⟨.tuple #[], by rw [hrun]; simp, .tuple _ _ rfl (fun j hj => by simp at hj)⟩
    · simp only [Option.some.injEq] at hx; subst hx
      obtain ⟨v0, rfl⟩ : ∃ v0, vs = [v0] := by
        rcases vs with _ | ⟨v0, _ | ⟨v1, vr⟩⟩
        · simp at g2
        · exact ⟨v0, rfl⟩
        · simp at g2
      refine ⟨v0, by rw [hrun]; simp, ?_⟩
      simpa using g3 0 (by simp)
    · simp only [Option.some.injEq] at hx; subst hx
      refine ⟨.tuple vs.toArray, by rw [hrun, dif_neg (by simp at g2 ⊢; omega)], .tuple _ _ (by simp at g2 ⊢; omega) (fun j hj => ?_)⟩
      have := g3 j hj
      have hj' : j < vs.length := by omega
      simpa [VR, hj'] using this

def args0 (args : List AVal) : List (Nat × AVal) := args.zipIdx.map fun (v, i) => (i, v)

theorem look_args : ∀ (args : List AVal) (k t : Nat), look ((args.zipIdx k).map fun (p : AVal × Nat) => (p.2, p.1)) t = if k ≤ t then (args[t - k]?).getD .undef else .undef := by
  intro args
  induction args with
  | nil => intro k t; simp [look]
  | cons x args ih =>
    intro k t
    simp only [List.zipIdx_cons, List.map_cons, look]
    by_cases hk : k = t
    · subst hk; simp
    · rw [if_neg hk, ih]
      by_cases h1 : k + 1 ≤ t
      · rw [if_pos h1, if_pos (by omega)]
        have : t - k = (t - (k + 1)) + 1 := by omega
        rw [this, List.getElem?_cons_succ]
      · rw [if_neg h1, if_neg (by omega)]

/-- A function's contract, from its body. -/
theorem Contract.intro {f : FuncId} {fn : Func} {c : Code} {args : List AVal} {res : AVal} (n : Nat) (hm : P.follows .mixedOrders = true) (hf : P.funcs[f]? = some fn) (hname : (fn.name == "runtime.NumGoroutine") = false) (hb : fn.body = some c) (hok : codeOk fn.ntmps c = true) (hargs : args.length ≤ fn.ntmps)
    (h : awp P c (fun e s => match e with | .normal | .ret => (resVal P fn s).map (resOf s.heap n) = some res | _ => False) ⟨args0 args, []⟩) : Contract P f args res := by
  refine ⟨by simp [callable, hf, hname, hb], fun w ok vs hok0 hsz hrel => ?_⟩
  refine calls_of_wp hf hb ?_
  have hinit : FR w ok (fun _ => False) fn.ntmps ⟨args0 args, []⟩ { tmps := vs ++ Array.replicate (fn.ntmps - vs.size) undef, defers := [] } w := by
    refine ⟨fun _ => (0, 0), ⟨fun i o hi => by simp at hi, fun i j hi => by simp at hi, fun i hi => by simp at hi, rfl, rfl, rfl, Nat.le_refl _, fun _ _ _ => rfl⟩, fun t => ?_, by simp; omega, rfl⟩
    have : look (args0 args) t = (args[t]?).getD .undef := by
      have := look_args args 0 t
      simpa [args0] using this
    simp only [this]
    by_cases ht : t < args.length
    · have h1 := hrel t ht
      have e1 : (args[t]?).getD .undef = args[t] := by simp [ht]
      have e2 : (vs ++ Array.replicate (fn.ntmps - vs.size) undef).getD t undef = vs.getD t undef := by
        simp only [Array.getD_eq_getD_getElem?]
        rw [Array.getElem?_append_left (by omega)]
      rw [e1, e2]
      exact VRel.mono (fun b hb => ⟨hok0 b hb, fun i hi => by simp at hi, .inr hb⟩) (fun b _ hb => hb.elim) (fun b _ => rfl) (fun id l hl => by cases hl) h1
    · have e1 : (args[t]?).getD .undef = .undef := by simp [ht]
      rw [e1]; exact .undef _
  refine awp_sound (N := fn.ntmps) hm c _ _ _ _ _ hok (fun e s a w' he hfr => ?_) h hinit
  have fin : (resVal P fn s).map (resOf s.heap n) = some res → a.defers = [] ∧ ∃ v, (results fn a.tmps).run P w' = .ok v w' ∧ ∃ v', Ending.returned v = .returned v' ∧ VRel (fun b => ok b ∨ (w.heap.size ≤ b ∧ b < w'.heap.size)) (fun b => w.heap.size ≤ b) w' (fun _ => (0, 0)) (fun _ => none) res v' ∧ Below w.heap.size w w' := by
    intro hres
    obtain ⟨x, hx1, hx2⟩ := Option.map_eq_some_iff.1 hres
    obtain ⟨β, hr, henv, hs, hd⟩ := hfr
    obtain ⟨v, h1, h2⟩ := resVal_rel hr henv hx1
    refine ⟨hd, v, h1, v, rfl, ?_, ⟨hr.os, hr.tape, hr.output, hr.wsize, fun k hk => hr.block k hk id⟩⟩
    rw [← hx2]
    exact resOf_rel hr n x v h2
  cases e with
  | normal => exact fin he
  | ret => exact fin he
  | _ => exact he.elim

end
end Go.AW

/- Rules to reckon with. -/
namespace Go.AW
open Go

/-- An int. -/
abbrev I (n : Int) : AVal := .val (.int .i64 n)
abbrev B (b : Bool) : AVal := .val (.bool b)
def ints (l : List Int) : List AVal := l.map I
def bools (l : List Bool) : List AVal := l.map B

/-- What comes behind: kept where the reckoning does not look. -/
class KB (α : Type) where
  run : α → Prop
class PQ where
  p : Prop
  q : Prop
class LB where
  c : Code
  Q : Exit → ASt → Prop

/-- Go on with a value; what comes behind is not looked at ahead of it. -/
def bindK {α : Type} (x : Option α) [k : KB α] : Prop := match x with | some v => k.run v | none => False
theorem bindK_some {α : Type} (v : α) (K : α → Prop) : @bindK α (some v) ⟨K⟩ = K v := _root_.id rfl
def condK (x : AVal) [k : PQ] : Prop := match x with | .val (.bool b) => (b = true → k.p) ∧ (b = false → k.q) | _ => False
theorem condK_bool (b : Bool) (p q : Prop) : @condK (.val (.bool b)) ⟨p, q⟩ = ((b = true → p) ∧ (b = false → q)) := _root_.id rfl
def guardK (x : AVal) (want : Bool) [k : PQ] : Prop := match x with | .val (.bool b) => (b = want → k.p) ∧ (b ≠ want → k.q) | .val (.tuple _) => k.q | _ => False
theorem guardK_bool (b want : Bool) (p q : Prop) : @guardK (.val (.bool b)) want ⟨p, q⟩ = ((b = want → p) ∧ (b ≠ want → q)) := _root_.id rfl
theorem guardK_undef (want : Bool) (p q : Prop) : @guardK (.val undef) want ⟨p, q⟩ = q := _root_.id rfl
/-- A call. -/
def callK (P : Program) (f : AVal) (args : List AVal) (h : List AObj) [k : KB AVal] : Prop := ∃ v, CallOk P f args h v ∧ k.run v
/-- A loop. -/
def loopK (P : Program) (s : ASt) [k : LB] : Prop := awp P (.loop k.c) k.Q s
theorem condK_t (p q : Prop) : @condK (.val (.bool true)) ⟨p, q⟩ = p := by simp [condK]
theorem condK_f (p q : Prop) : @condK (.val (.bool false)) ⟨p, q⟩ = q := by simp [condK]
theorem guardK_tt (p q : Prop) : @guardK (.val (.bool true)) true ⟨p, q⟩ = p := by simp [guardK]
theorem guardK_tf (p q : Prop) : @guardK (.val (.bool true)) false ⟨p, q⟩ = q := by simp [guardK]
theorem guardK_ft (p q : Prop) : @guardK (.val (.bool false)) true ⟨p, q⟩ = q := by simp [guardK]
theorem guardK_ff (p q : Prop) : @guardK (.val (.bool false)) false ⟨p, q⟩ = p := by simp [guardK]
theorem beq_t {a b : Int} (h : a = b) : (a == b) = true := by simp [h]
theorem beq_f {a b : Int} (h : a ≠ b) : (a == b) = false := by simp [h]
theorem bne_t {a b : Int} (h : a ≠ b) : (a != b) = true := by simp [h]
theorem bne_f {a b : Int} (h : a = b) : (a != b) = false := by simp [h]

section
variable {P : Program} {Q : Exit → ASt → Prop} {s : ASt}

theorem awp_skip : awp P .skip Q s = Q .normal s := _root_.id rfl
theorem awp_region (id : Nat) (ops : Array Oper) (d : Bool) : awp P (.region id ops d) Q s = awpList P ops.toList (Q .normal) ops.toList s := _root_.id rfl
theorem awp_seq (a b : Code) : awp P (.seq a b) Q s = awp P a (fun e s' => match e with | .normal => awp P b Q s' | e => Q e s') s := _root_.id rfl
theorem awp_cond (c : Operand) (x y : Code) : awp P (.cond c x y) Q s = @condK (ev s.env c) ⟨awp P x Q s, awp P y Q s⟩ := _root_.id rfl
theorem awp_block (id : Nat) (c : Code) : awp P (.block id c) Q s = awp P c (fun e s' => match e with | .exit id' => if id' = id then Q .normal s' else Q (.exit id') s' | e => Q e s') s := _root_.id rfl
theorem awp_exit (id : Nat) : awp P (.exit id) Q s = Q (.exit id) s := _root_.id rfl
theorem awp_ret : awp P .ret Q s = Q .ret s := _root_.id rfl

variable {ops : List Oper} {Qs : ASt → Prop} {rest : List Oper} {dst : Option Tmp} {op : Op} {ty : TypeId} {pos : String} {after : Array Edge} {g0 : Option (Nat × Bool)}
theorem awpList_nil : awpList P ops Qs [] s = Qs s := _root_.id rfl
theorem awpList_plain {env : List (Nat × AVal)} {h : List AObj} {d : Nat} : awpList P ops Qs (⟨some d, op, ty, pos, after, none⟩ :: rest) ⟨env, h⟩ = opK P ⟨some d, op, ty, pos, after, none⟩ (ev env) h (fun v h' => awpList P ops Qs rest ⟨(d, v) :: env, h'⟩) := _root_.id rfl
theorem awpList_none {env : List (Nat × AVal)} {h : List AObj} : awpList P ops Qs (⟨none, op, ty, pos, after, none⟩ :: rest) ⟨env, h⟩ = opK P ⟨none, op, ty, pos, after, none⟩ (ev env) h (fun _ h' => awpList P ops Qs rest ⟨env, h'⟩) := _root_.id rfl
/-- The slot that an operation of the list writes. -/
def dstAt : List Oper → Nat → Option Nat
  | [], _ => none
  | o :: _, 0 => o.dst
  | _ :: r, j + 1 => dstAt r j
theorem dstAt_eq : ∀ (l : List Oper) (j : Nat), (l[j]?).bind (·.dst) = dstAt l j
  | [], _ => _root_.id rfl
  | _ :: _, 0 => _root_.id rfl
  | _ :: r, j + 1 => by simpa [dstAt] using dstAt_eq r j
theorem dstAt_zero {r : List Oper} : dstAt (⟨dst, op, ty, pos, after, g0⟩ :: r) 0 = dst := _root_.id rfl
theorem dstAt_succ {o : Oper} {r : List Oper} (j : Nat) : dstAt (o :: r) (j + 1) = dstAt r j := _root_.id rfl

theorem awpList_guard {env : List (Nat × AVal)} {h : List AObj} {j d : Nat} {want : Bool} : awpList P ops Qs (⟨some d, op, ty, pos, after, some (j, want)⟩ :: rest) ⟨env, h⟩ =
    @bindK _ (dstAt ops j) ⟨fun t => @guardK (look env t) want ⟨opK P ⟨some d, op, ty, pos, after, some (j, want)⟩ (ev env) h (fun v h' => awpList P ops Qs rest ⟨(d, v) :: env, h'⟩), awpList P ops Qs rest ⟨(d, .val undef) :: env, h⟩⟩⟩ := by
  simp only [awpList, dstAt_eq, putA]
  cases dstAt ops j <;> rfl
theorem awpList_guardN {env : List (Nat × AVal)} {h : List AObj} {j : Nat} {want : Bool} : awpList P ops Qs (⟨none, op, ty, pos, after, some (j, want)⟩ :: rest) ⟨env, h⟩ =
    @bindK _ (dstAt ops j) ⟨fun t => @guardK (look env t) want ⟨opK P ⟨none, op, ty, pos, after, some (j, want)⟩ (ev env) h (fun _ h' => awpList P ops Qs rest ⟨env, h'⟩), awpList P ops Qs rest ⟨env, h⟩⟩⟩ := by
  simp only [awpList, dstAt_eq, putA]
  cases dstAt ops j <;> rfl

variable {ρ : Operand → AVal} {h : List AObj} {K : AVal → List AObj → Prop} {g : Option (Nat × Bool)}
/-- It is no call of a function. -/
def noCall : Op → Bool
  | .call { callee := .value _, .. } => false
  | _ => true

theorem opK_pure {o : Oper} (h1 : noCall o.op = true) (h2 : isEff o.op = false) : opK P o ρ h K = @bindK _ (aPure P o ρ h) ⟨fun v => K v h⟩ := by
  unfold opK
  split
  · rename_i ho; rw [ho] at h1; cases h1
  · rw [if_neg (by simp [h2])]
    cases aPure P o ρ h <;> rfl

theorem opK_eff {o : Oper} (h1 : noCall o.op = true) (h2 : isEff o.op = true) : opK P o ρ h K = @bindK _ (aEff P o ρ h) ⟨fun r => K r.1 r.2⟩ := by
  unfold opK
  split
  · rename_i ho; rw [ho] at h1; cases h1
  · rw [if_pos h2]
    cases aEff P o ρ h <;> rfl

theorem opK_move (x : Operand) : opK P ⟨dst, .move x, ty, pos, after, g⟩ ρ h K = @bindK _ (some (ρ x)) ⟨fun v => K v h⟩ := _root_.id rfl
theorem opK_assign (x : Operand) : opK P ⟨dst, .assign x, ty, pos, after, g⟩ ρ h K = @bindK _ (some (ρ x)) ⟨fun v => K v h⟩ := _root_.id rfl
theorem opK_pick (c a b : Operand) : opK P ⟨dst, .pick c a b, ty, pos, after, g⟩ ρ h K = @bindK _ ((match ρ c with | .val (.bool t) => some (if t then ρ a else ρ b) | _ => none : Option AVal)) ⟨fun v => K v h⟩ := opK_pure rfl rfl
theorem opK_binOp (op : BinOp) (t u : TypeId) (x y : Operand) : opK P ⟨dst, .binOp op t x y u, ty, pos, after, g⟩ ρ h K = @bindK _ (aBin P t op (ρ x) (ρ y)) ⟨fun v => K v h⟩ := opK_pure rfl rfl
theorem opK_unOp (op : UnOp) (t : TypeId) (x : Operand) : opK P ⟨dst, .unOp op t x, ty, pos, after, g⟩ ρ h K = @bindK _ ((match op, ρ x with | .not, .val (.bool b) => some (.val (.bool (!b))) | .neg, .val (.int k n) => some (.val (.int k (k.wrap (0 - n)))) | _, _ => none : Option AVal)) ⟨fun v => K v h⟩ := opK_pure rfl rfl
theorem opK_convert (s d : TypeId) (x : Operand) : opK P ⟨dst, .convert s d x, ty, pos, after, g⟩ ρ h K = @bindK _ (match tyI P s, tyI P d, ρ x with
    | some _, some D, .val (.int _ n) => match D.kind with
      | some k => some (.val (.int k (k.wrap n)))
      | none => none
    | _, _, _ => none : Option AVal) ⟨fun v => K v h⟩ := opK_pure rfl rfl
theorem opK_load (t : TypeId) (a : Operand) : opK P ⟨dst, .load t a, ty, pos, after, g⟩ ρ h K = @bindK _ ((match pview h (ρ a) with | some cs => aPart P t cs | none => none)) ⟨fun v => K v h⟩ := opK_pure rfl rfl
theorem opK_indexAddr (t : TypeId) (x i : Operand) : opK P ⟨dst, .indexAddr t x i, ty, pos, after, g⟩ ρ h K = @bindK _ (aIdx P t h (ρ x) (ρ i)) ⟨fun v => K v h⟩ := opK_pure rfl rfl
theorem opK_extract (t : Operand) (i : Nat) : opK P ⟨dst, .extract t i, ty, pos, after, g⟩ ρ h K = @bindK _ ((match ρ t with | .tuple vs => vs[i]? | _ => none : Option AVal)) ⟨fun v => K v h⟩ := opK_pure rfl rfl
theorem opK_len (x : Operand) (ts : Array TypeId) : opK P ⟨dst, .call ⟨.builtin .len, #[x], ts⟩, ty, pos, after, g⟩ ρ h K = @bindK _ (match sview h (ρ x), ts[0]? with
      | some (n, _), some t => match tyI P t with
        | some T => if T.elem.isSome then some (.val (.int .i64 n)) else none
        | none => none
      | _, _ => none : Option AVal) ⟨fun v => K v h⟩ := opK_pure rfl rfl
theorem opK_not (t : TypeId) (x : Operand) : opK P ⟨dst, .unOp .not t x, ty, pos, after, g⟩ ρ h K = @bindK _ (match ρ x with | .val (.bool b) => some (.val (.bool (!b))) | _ => none : Option AVal) ⟨fun v => K v h⟩ := by
  rw [opK_unOp]; cases ρ x <;> try rfl
  case val v => cases v <;> rfl
theorem opK_min (x y : Operand) (ts : Array TypeId) : opK P ⟨dst, .call ⟨.builtin .min, #[x, y], ts⟩, ty, pos, after, g⟩ ρ h K = @bindK _ (aMinMax false [ρ x, ρ y]) ⟨fun v => K v h⟩ := opK_pure rfl rfl
theorem opK_max (x y : Operand) (ts : Array TypeId) : opK P ⟨dst, .call ⟨.builtin .max, #[x, y], ts⟩, ty, pos, after, g⟩ ρ h K = @bindK _ (aMinMax true [ρ x, ρ y]) ⟨fun v => K v h⟩ := opK_pure rfl rfl
theorem opK_append (x y : Operand) (t : TypeId) : opK P ⟨dst, .call ⟨.builtin .append, #[x, y], #[t, t]⟩, ty, pos, after, g⟩ ρ h K = @bindK _ (aAppend P t h (ρ x) (ρ y)) ⟨fun r => K r.1 r.2⟩ := by
  have h1 : aEff P ⟨dst, .call ⟨.builtin .append, #[x, y], #[t, t]⟩, ty, pos, after, g⟩ ρ h = aAppend P t h (ρ x) (ρ y) := by simp [aEff]
  rw [opK_eff rfl rfl, h1]
theorem opK_buildSlice (t : TypeId) (n : Nat) (ps : Array (Nat × Operand)) : opK P ⟨dst, .buildSlice t n ps, ty, pos, after, g⟩ ρ h K = @bindK _ (aEff P ⟨dst, .buildSlice t n ps, ty, pos, after, g⟩ ρ h) ⟨fun r => K r.1 r.2⟩ := opK_eff rfl rfl
theorem opK_makeSlice (t : TypeId) (l c : Operand) : opK P ⟨dst, .makeSlice t l c, ty, pos, after, g⟩ ρ h K = @bindK _ (aMake P t h (ρ l) (ρ c)) ⟨fun r => K r.1 r.2⟩ := opK_eff rfl rfl
theorem opK_store (t : TypeId) (p v : Operand) : opK P ⟨dst, .store t p v, ty, pos, after, g⟩ ρ h K = @bindK _ (aStore P t h (ρ p) (ρ v)) ⟨fun h' => K .undef h'⟩ := by
  rw [opK_eff rfl rfl]
  simp only [aEff]
  cases aStore P t h (ρ p) (ρ v) <;> rfl
theorem opK_slice (t : TypeId) (x : Operand) (lo hi mx : Option Operand) : opK P ⟨dst, .slice t x lo hi mx, ty, pos, after, g⟩ ρ h K = @bindK _ (aSlice P t h (ρ x) (lo.map ρ) (hi.map ρ) (mx.map ρ)) ⟨fun v => K v h⟩ := by
  rw [opK_eff rfl rfl]
  simp only [aEff]
  cases aSlice P t h (ρ x) (lo.map ρ) (hi.map ρ) (mx.map ρ) <;> rfl

theorem awp_loopK (c : Code) : awp P (.loop c) Q s = @loopK P s ⟨c, Q⟩ := _root_.id rfl

theorem opK_callK (f : Operand) (args : Array Operand) (ts : Array TypeId) : opK P ⟨dst, .call ⟨.value f, args, ts⟩, ty, pos, after, g⟩ ρ h K = @callK P (ρ f) (args.toList.map ρ) h ⟨fun v => K v h⟩ := _root_.id rfl

/-- A call of a function by its contract. -/
theorem callK_F {f : FuncId} {avs args' : List AVal} {res : AVal} {K : AVal → Prop} (n : Nat) (hc : Contract P f args' res) (he : avs.map (argOf h n) = args') (hfr : allFresh n res = true ∨ avs.all (noRef n) = true) (hK : K res) :
    @callK P (.func (.func f) [] []) avs h ⟨K⟩ := ⟨res, ⟨f, [], [], n, _root_.id rfl, by simpa [he] using hc, by simpa using hfr⟩, hK⟩

/-- A call of a function value by the function's contract. -/
theorem callK_V {f : FuncId} {fs cs avs args' : List AVal} {res : AVal} {K : AVal → Prop} (n : Nat) (hc : Contract P f args' res) (he : (fs ++ avs ++ cs).map (argOf h n) = args') (hfr : allFresh n res = true ∨ (fs ++ avs ++ cs).all (noRef n) = true) (hK : K res) :
    @callK P (.func (.func f) fs cs) avs h ⟨K⟩ := ⟨res, ⟨f, fs, cs, n, _root_.id rfl, by rw [he]; exact hc, hfr⟩, hK⟩

/-- A loop, by what its states are, with a condition on them. -/
theorem loopK_I {c : Code} {σ : Type} (ks : List Nat) (J : σ → Prop) (F : σ → ASt) (μ : σ → Nat) (x : σ) (hJ : J x) (h0 : s.keep ks = F x)
    (round : ∀ x, J x → awp P c (fun e s' => match e with | .normal => ∃ y, J y ∧ s'.keep ks = F y ∧ μ y < μ x | e => Q e s') (F x)) : @loopK P s ⟨c, Q⟩ :=
  awp_loopI ks J F μ x hJ h0 round

theorem ev_tmp (env : List (Nat × AVal)) (t : Nat) : ev env (.tmp t) = look env t := _root_.id rfl
theorem ev_const (env : List (Nat × AVal)) (v : Value) : ev env (.const v) = ofConst v := _root_.id rfl
theorem ev_func (env : List (Nat × AVal)) (f : FuncId) : ev env (.func f) = .func (.func f) [] [] := _root_.id rfl
theorem ofConst_int (k : IntKind) (n : Int) : ofConst (.int k n) = .val (.int k n) := _root_.id rfl
theorem ofConst_bool (b : Bool) : ofConst (.bool b) = .val (.bool b) := _root_.id rfl
theorem ofConst_nil : ofConst (.slice none 0 0) = .cap0 true := _root_.id rfl
theorem look_cons (k t : Nat) (v : AVal) (r : List (Nat × AVal)) : look ((k, v) :: r) t = if k = t then v else look r t := _root_.id rfl
theorem putA_some (d : Nat) (v : AVal) (env : List (Nat × AVal)) : putA (some d) v env = (d, v) :: env := _root_.id rfl
theorem putA_none (v : AVal) (env : List (Nat × AVal)) : putA none v env = env := _root_.id rfl
theorem keep_def (ks : List Nat) (env : List (Nat × AVal)) (h : List AObj) : ASt.keep ks ⟨env, h⟩ = ⟨keepEnv ks env, h⟩ := _root_.id rfl
theorem keepEnv_nil (env : List (Nat × AVal)) : keepEnv [] env = [] := _root_.id rfl
theorem keepEnv_cons (k : Nat) (ks : List Nat) (env : List (Nat × AVal)) : keepEnv (k :: ks) env = (k, look env k) :: keepEnv ks env := _root_.id rfl

theorem aBin_int (t : TypeId) (op : BinOp) (k : IntKind) (a b : Int) : aBin P t op (.val (.int k a)) (.val (.int k b)) = aInt op k a b := by simp [aBin]
theorem aInt_add (k : IntKind) (a b : Int) : aInt .add k a b = some (.val (.int k (k.wrap (a + b)))) := _root_.id rfl
theorem aInt_sub (k : IntKind) (a b : Int) : aInt .sub k a b = some (.val (.int k (k.wrap (a - b)))) := _root_.id rfl
theorem aInt_mul (k : IntKind) (a b : Int) : aInt .mul k a b = some (.val (.int k (k.wrap (a * b)))) := _root_.id rfl
theorem aInt_quo (k : IntKind) (a b : Int) (hb : b ≠ 0) : aInt .quo k a b = some (.val (.int k (k.wrap (a.tdiv b)))) := by simp [aInt, hb]
theorem aInt_rem (k : IntKind) (a b : Int) (hb : b ≠ 0) : aInt .rem k a b = some (.val (.int k (a.tmod b))) := by simp [aInt, hb]
theorem aInt_eql (k : IntKind) (a b : Int) : aInt .eql k a b = some (.val (.bool (a == b))) := _root_.id rfl
theorem aInt_neq (k : IntKind) (a b : Int) : aInt .neq k a b = some (.val (.bool (a != b))) := _root_.id rfl
theorem aInt_lss (k : IntKind) (a b : Int) : aInt .lss k a b = some (.val (.bool (decide (a < b)))) := _root_.id rfl
theorem aInt_leq (k : IntKind) (a b : Int) : aInt .leq k a b = some (.val (.bool (decide (a ≤ b)))) := _root_.id rfl
theorem aInt_gtr (k : IntKind) (a b : Int) : aInt .gtr k a b = some (.val (.bool (decide (b < a)))) := _root_.id rfl
theorem aInt_geq (k : IntKind) (a b : Int) : aInt .geq k a b = some (.val (.bool (decide (b ≤ a)))) := _root_.id rfl

theorem wrap_id {n : Int} (h1 : -9223372036854775808 ≤ n) (h2 : n ≤ 9223372036854775807) : IntKind.i64.wrap n = n := by
  rw [IntKind.wrap_i64]; omega

theorem bools_length (l : List Bool) : (bools l).length = l.length := by simp [bools]
theorem bools_append (l m : List Bool) : bools l ++ bools m = bools (l ++ m) := by simp [bools]
theorem bools_one (l : List Bool) : (bools l).all AVal.one = true := by simp [bools, AVal.one, Value.oneCell']
theorem bools_drop (l : List Bool) (n : Nat) : (bools l).drop n = bools (l.drop n) := by simp [bools]
theorem bools_take (l : List Bool) (n : Nat) : (bools l).take n = bools (l.take n) := by simp [bools]
theorem bools_get (l : List Bool) (n : Nat) : (bools l)[n]? = (l[n]?).map B := by simp [bools]
theorem bools_arg (l : List Bool) (h : List AObj) (n : Nat) : (bools l).map (argOf h (n + 1)) = bools l := by simp [bools, argOf, Function.comp_def]
theorem bools_res (l : List Bool) (h : List AObj) (n : Nat) : (bools l).map (resOf h (n + 1)) = bools l := by simp [bools, resOf, Function.comp_def]
theorem bools_fresh (l : List Bool) (n : Nat) : (bools l).all (allFresh (n + 1)) = true := by simp [bools, allFresh]
theorem bools_noRef (l : List Bool) (n : Nat) : (bools l).all (noRef (n + 1)) = true := by simp [bools, noRef]
theorem ints_length (l : List Int) : (ints l).length = l.length := by simp [ints]
theorem ints_append (l m : List Int) : ints l ++ ints m = ints (l ++ m) := by simp [ints]
theorem ints_one (l : List Int) : (ints l).all AVal.one = true := by simp [ints, AVal.one, Value.oneCell']
theorem ints_drop (l : List Int) (n : Nat) : (ints l).drop n = ints (l.drop n) := by simp [ints]
theorem ints_take (l : List Int) (n : Nat) : (ints l).take n = ints (l.take n) := by simp [ints]
theorem ints_get (l : List Int) (n : Nat) : (ints l)[n]? = (l[n]?).map I := by simp [ints]
theorem ints_arg (l : List Int) (h : List AObj) (n : Nat) : (ints l).map (argOf h (n + 1)) = ints l := by simp [ints, argOf, Function.comp_def]
theorem ints_res (l : List Int) (h : List AObj) (n : Nat) : (ints l).map (resOf h (n + 1)) = ints l := by simp [ints, resOf, Function.comp_def]
theorem ints_fresh (l : List Int) (n : Nat) : (ints l).all (allFresh (n + 1)) = true := by simp [ints, allFresh]
theorem ints_noRef (l : List Int) (n : Nat) : (ints l).all (noRef (n + 1)) = true := by simp [ints, noRef]

/-- A slice that grows out of nil: object k, or nil as yet. -/
def gv (k : Nat) (xs : List AVal) : AVal := match xs with | [] => .cap0 true | _ :: _ => .ref k 0 xs.length xs.length
def gh (h : List AObj) (e : TypeId) (xs : List AVal) : List AObj := match xs with | [] => h | _ :: _ => h ++ [⟨e, 1, xs⟩]

theorem append_gv {t e : TypeId} {T E : TyI} (h : List AObj) (xs ys : List AVal) {y : AVal} {m : Nat} (ht : tyI P t = some T) (hT : T.elem = some e) (hE : tyI P e = some E) (hsz : E.size = 1) (hz : E.zero.length = 1)
    (hv : ∀ h', sview h' y = some (m, ys)) (hm : ys.length = m) (hone : ys.all AVal.one = true) (h0 : m ≠ 0) (hb : (xs.length + m) * E.bytes ≤ 140737488355328) (hb2 : xs.length + m ≤ 140737488355328) :
    aAppend P t (gh h e xs) (gv h.length xs) y = some (gv h.length (xs ++ ys), gh h e (xs ++ ys)) := by
  subst hm
  have hys : ys ≠ [] := by rintro rfl; simp at h0
  cases xs with
  | nil =>
    obtain ⟨y0, yr, rfl⟩ := List.exists_cons_of_ne_nil hys
    simp only [List.length_nil, Nat.zero_add] at hb hb2
    simp only [aAppend, ht, hT, hE, gh, gv, hv, hsz, hz, List.nil_append, Nat.mul_one]
    simp only [List.take_length]
    rw [if_pos (by simpa using hone), if_neg h0, if_pos ⟨hb, hb2⟩]
  | cons x xr =>
    simp only [aAppend, ht, hT, hE, gh, gv, hv, hsz, hz, Nat.mul_one, List.cons_append]
    simp only [List.take_length]
    rw [if_pos (by simpa using hone)]
    have hlast : (h ++ [(⟨e, 1, x :: xr⟩ : AObj)])[h.length]? = some ⟨e, 1, x :: xr⟩ := by simp
    rw [hlast]
    simp only []
    rw [if_pos (by simp; exact ⟨by simpa using hb, by simpa using hb2⟩)]
    simp; omega

end
end Go.AW

/- Rules for slices whose elements take one cell. -/
namespace Go.AW
open Go

/-- 't' is the type of slices of 'e', whose values take one cell and 'by' bytes. -/
structure SlT (P : Program) (t e : TypeId) (nb : Nat) (z : Value) : Prop where
  ht : ∃ T, tyI P t = some T ∧ T.elem = some e
  he : ∃ E, tyI P e = some E ∧ E.size = 1 ∧ E.agg = false ∧ E.bytes = nb ∧ E.zero = [z]

theorem SlT.of {P : Program} {t e : TypeId} {nb : Nat} {z : Value} (h1 : (tyI P t).map (·.elem) = some (some e)) (h2 : (tyI P e).map (fun E => (E.size, E.agg, E.bytes, E.zero)) = some (1, false, nb, [z])) : SlT P t e nb z := by
  constructor
  · obtain ⟨T, hT, he⟩ := Option.map_eq_some_iff.1 h1; exact ⟨T, hT, he⟩
  · obtain ⟨E, hE, he⟩ := Option.map_eq_some_iff.1 h2
    simp only [Prod.mk.injEq] at he
    exact ⟨E, hE, he.1, he.2.1, he.2.2.1, he.2.2.2⟩

section
variable {P : Program} {t e : TypeId} {nb : Nat} {z : Value} {h : List AObj}

theorem idx_list (S : SlT P t e nb z) (p b : Bool) (m : Nat) (cs : List AVal) (k : IntKind) (n : Int) : aIdx P t h (.list p b m cs) (.val (.int k n)) = if 0 ≤ n ∧ n < m then some (.spot p (cs.drop n.toNat)) else none := by
  obtain ⟨⟨T, hT, hTe⟩, E, hE, h1, h2, h3, h4⟩ := S
  simp [aIdx, hT, hTe, hE, h1]

theorem idx_lit (S : SlT P t e nb z) (m : Nat) (cs : List AVal) (k : IntKind) (n : Int) : aIdx P t h (.lit m cs) (.val (.int k n)) = if 0 ≤ n ∧ n < m then some (.spot true (cs.drop n.toNat)) else none := by
  obtain ⟨⟨T, hT, hTe⟩, E, hE, h1, h2, h3, h4⟩ := S
  simp [aIdx, hT, hTe, hE, h1]

theorem idx_ref (S : SlT P t e nb z) (id off m ext : Nat) (k : IntKind) (n : Int) : aIdx P t h (.ref id off m ext) (.val (.int k n)) = if 0 ≤ n ∧ n < m ∧ (cellsAt h id ext).isSome then some (.ptr id (off + n.toNat) ext) else none := by
  obtain ⟨⟨T, hT, hTe⟩, E, hE, h1, h2, h3, h4⟩ := S
  simp [aIdx, hT, hTe, hE, h1]

theorem idx_list_ok (S : SlT P t e nb z) {p b : Bool} {m : Nat} {cs : List AVal} {k : IntKind} {n : Int} (h0 : 0 ≤ n) (h1 : n < m) : aIdx P t h (.list p b m cs) (.val (.int k n)) = some (.spot p (cs.drop n.toNat)) := by
  rw [idx_list S, if_pos ⟨h0, h1⟩]

theorem idx_lit_ok (S : SlT P t e nb z) {m : Nat} {cs : List AVal} {k : IntKind} {n : Int} (h0 : 0 ≤ n) (h1 : n < m) : aIdx P t h (.lit m cs) (.val (.int k n)) = some (.spot true (cs.drop n.toNat)) := by
  rw [idx_lit S, if_pos ⟨h0, h1⟩]

theorem idx_own_ok (S : SlT P t e nb z) {id off m ext : Nat} {k : IntKind} {n : Int} (h0 : 0 ≤ n) (h1 : n < m) {cs : List AVal} (h2 : cellsAt h id ext = some cs) : aIdx P t h (.ref id off m ext) (.val (.int k n)) = some (.ptr id (off + n.toNat) ext) := by
  rw [idx_ref S, if_pos ⟨h0, h1, by rw [h2]; rfl⟩]

theorem pview_spot (p : Bool) (cs : List AVal) : pview h (.spot p cs) = some cs := _root_.id rfl

theorem part_one (S : SlT P t e nb z) (cs : List AVal) : aPart P e cs = cs[0]? := by
  obtain ⟨⟨T, hT, hTe⟩, E, hE, h1, h2, h3, h4⟩ := S
  simp [aPart, hE, h2]

theorem part_ints_ok (S : SlT P t e nb z) {l : List Int} {k : Nat} (hk : k < l.length) : aPart P e ((ints l).drop k) = some (I (l.getD k 0)) := by
  rw [part_one S, List.getElem?_drop, Nat.add_zero, ints_get]
  simp [hk]

theorem part_ints_zero (S : SlT P t e nb z) {l : List Int} (hk : 0 < l.length) : aPart P e (ints l) = some (I (l.getD 0 0)) := part_ints_ok S hk
theorem part_bools_ok (S : SlT P t e nb z) {l : List Bool} {k : Nat} (hk : k < l.length) : aPart P e ((bools l).drop k) = some (B (l.getD k false)) := by
  rw [part_one S, List.getElem?_drop, Nat.add_zero]
  simp [bools, hk]

theorem part_bools_zero (S : SlT P t e nb z) {l : List Bool} (hk : 0 < l.length) : aPart P e (bools l) = some (B (l.getD 0 false)) := part_bools_ok S hk

theorem sview_list (p b : Bool) (n : Nat) (cs : List AVal) : sview h (.list p b n cs) = some (n, cs) := _root_.id rfl
theorem sview_lit (n : Nat) (cs : List AVal) : sview h (.lit n cs) = some (n, cs) := _root_.id rfl
theorem sview_cap0 (b : Bool) : sview h (.cap0 b) = some (0, []) := _root_.id rfl

theorem len_elem (S : SlT P t e nb z) : ∃ T, tyI P t = some T ∧ T.elem.isSome = true := by
  obtain ⟨⟨T, hT, hTe⟩, _⟩ := S
  exact ⟨T, hT, by simp [hTe]⟩

variable {dst : Option Tmp} {ty : TypeId} {pos : String} {after : Array Edge} {g : Option (Nat × Bool)} {ρ : Operand → AVal} {K : AVal → List AObj → Prop}

theorem opK_len1 (S : SlT P t e nb z) (x : Operand) : opK P ⟨dst, .call ⟨.builtin .len, #[x], #[t]⟩, ty, pos, after, g⟩ ρ h K = @bindK _ (sview h (ρ x)) ⟨fun r => K (.val (.int .i64 r.1)) h⟩ := by
  obtain ⟨T, hT, hs⟩ := len_elem S
  rw [opK_len]
  cases sview h (ρ x) with
  | none => rfl
  | some r => simp [hT, hs, bindK]

theorem one_parts {x : AVal} (h : x.one = true) : x.parts = some [x] := by
  cases x <;> first | rfl | (simp [AVal.one] at h; done) | skip
  case val v => cases v <;> first | rfl | (simp [AVal.one, Value.oneCell'] at h; done)

theorem fill_one : ∀ (xs : List AVal) (k : Nat) (cells : List AVal), (∀ x ∈ xs, x.one = true) → k + xs.length ≤ cells.length →
    aFill (fun i => some (i * 1, 1)) cells ((xs.zipIdx k).map fun (x, i) => (i, x)) = some (cells.take k ++ xs ++ cells.drop (k + xs.length)) := by
  intro xs
  induction xs with
  | nil => intro k cells _ _; simp [aFill]
  | cons x xs ih =>
    intro k cells h1 hl
    simp only [List.length_cons] at hl
    simp only [List.zipIdx_cons, List.map_cons, aFill, one_parts (h1 x (by simp)), Nat.mul_one, List.length_singleton]
    rw [if_pos (by simp; omega)]
    have := ih (k + 1) (splice cells k [x]) (fun y hy => h1 y (by simp [hy])) (by simp [splice]; omega)
    simp only [Nat.mul_one] at this
    rw [this]
    simp only [splice, List.length_cons]
    congr 1
    have e1 : (cells.set k x).take (k + 1) = cells.take k ++ [x] := by
      rw [List.take_add_one, List.take_set_of_le (Nat.le_refl _)]
      have : k < cells.length := by omega
      simp [this]
    have e2 : (cells.set k x).drop (k + 1 + xs.length) = cells.drop (k + (xs.length + 1)) := by
      rw [List.drop_set_of_lt (by omega)]; congr 1; omega
    rw [e1, e2]; simp

/-- All of them may stand in cells. -/
def allOne (l : List AVal) : Option (List AVal) := if l.all AVal.one then some l else none
theorem allOne_nil : allOne [] = some [] := _root_.id rfl
theorem allOne_cons {x : AVal} (hx : x.one = true) (l : List AVal) : allOne (x :: l) = (allOne l).map (x :: ·) := by
  simp only [allOne, List.all_cons, hx, Bool.true_and]
  cases l.all AVal.one <;> simp
theorem allOne_int (k : IntKind) (n : Int) (l : List AVal) : allOne (.val (.int k n) :: l) = (allOne l).map (.val (.int k n) :: ·) := allOne_cons rfl l
theorem allOne_bool (b : Bool) (l : List AVal) : allOne (.val (.bool b) :: l) = (allOne l).map (.val (.bool b) :: ·) := allOne_cons rfl l

/-- A literal of all its elements, in order. -/
theorem opK_lit (S : SlT P t e nb z) (n : Nat) (ps : Array (Nat × Operand)) (hn : n ≤ 16777216) (hps : ps.toList.map (·.1) = List.range n) (h0 : n ≠ 0) :
    opK P ⟨dst, .buildSlice t n ps, ty, pos, after, g⟩ ρ h K = @bindK _ (allOne (ps.toList.map fun p => ρ p.2)) ⟨fun l => K (.lit n l) h⟩ := by
  obtain ⟨⟨T, hT, hTe⟩, E, hE, g1, g2, g3, g4⟩ := S
  have hlen : ps.toList.length = n := by have := congrArg List.length hps; simpa using this
  have hsz : ps.size = n := by simpa using hlen
  rw [opK_buildSlice]
  simp only [aEff, hT, hTe, hE]
  have hall : (ps.toList.all fun p => (ρ p.2).one) = (ps.toList.map fun p => ρ p.2).all AVal.one := by rw [List.all_map]; rfl
  rw [hall]
  cases h1 : (ps.toList.map fun p => ρ p.2).all AVal.one with
  | false =>
    have h2 : allOne (ps.toList.map fun p => ρ p.2) = none := by simp only [allOne, h1]; rfl
    rw [h2, if_neg]
    · rfl
    · rintro ⟨_, _, _, h3⟩
      exact absurd (h3 g1) (by simp)
  | true =>
    have h2 : allOne (ps.toList.map fun p => ρ p.2) = some (ps.toList.map fun p => ρ p.2) := by simp only [allOne, h1, if_true]
    have hz : (ps.toList.map fun (i, x) => (i, ρ x)) = ((ps.toList.map fun p => ρ p.2).zipIdx 0).map fun (x, i) => (i, x) := by
      apply List.ext_getElem
      · simp
      · intro i h2 h3
        have hi : i < ps.toList.length := by simpa using h2
        have := congrArg (fun l => l[i]?) hps
        simp only [List.getElem?_map, List.getElem?_range (show i < n by omega), List.getElem?_eq_getElem hi, Option.map_some, Option.some.injEq] at this
        simp at this ⊢
        exact this
    have hf := fill_one (ps.toList.map fun p => ρ p.2) 0 (zeros E.zero (n * 1)) (List.all_eq_true.1 h1) (by simp [zeros]; omega)
    have hf' : aFill (fun i => some (i * E.size, E.size)) (zeros E.zero (n * E.size)) (ps.toList.map fun (i, x) => (i, ρ x)) = some (ps.toList.map fun p => ρ p.2) := by
      rw [g1, hz, hf]
      have : (zeros E.zero (n * 1)).drop (0 + (ps.toList.map fun p => ρ p.2).length) = [] := by
        apply List.drop_eq_nil_of_le; simp [zeros]; omega
      rw [this]; simp
    rw [if_pos ⟨by rw [g1]; omega, by rw [g4]; simp, by omega, fun _ => rfl⟩, hf', h2]
    simp [bindK, h0]

theorem opK_lit1 (S : SlT P t e nb z) (x0 : Operand) : opK P ⟨dst, .buildSlice t 1 #[(0, x0)], ty, pos, after, g⟩ ρ h K = @bindK _ (allOne [ρ x0]) ⟨fun l => K (.lit 1 l) h⟩ :=
  opK_lit S 1 #[(0, x0)] (by decide) rfl (by decide)
theorem opK_lit2 (S : SlT P t e nb z) (x0 x1 : Operand) : opK P ⟨dst, .buildSlice t 2 #[(0, x0), (1, x1)], ty, pos, after, g⟩ ρ h K = @bindK _ (allOne [ρ x0, ρ x1]) ⟨fun l => K (.lit 2 l) h⟩ :=
  opK_lit S 2 #[(0, x0), (1, x1)] (by decide) rfl (by decide)
theorem opK_lit3 (S : SlT P t e nb z) (x0 x1 x2 : Operand) : opK P ⟨dst, .buildSlice t 3 #[(0, x0), (1, x1), (2, x2)], ty, pos, after, g⟩ ρ h K = @bindK _ (allOne [ρ x0, ρ x1, ρ x2]) ⟨fun l => K (.lit 3 l) h⟩ :=
  opK_lit S 3 #[(0, x0), (1, x1), (2, x2)] (by decide) rfl (by decide)
theorem opK_lit4 (S : SlT P t e nb z) (x0 x1 x2 x3 : Operand) : opK P ⟨dst, .buildSlice t 4 #[(0, x0), (1, x1), (2, x2), (3, x3)], ty, pos, after, g⟩ ρ h K = @bindK _ (allOne [ρ x0, ρ x1, ρ x2, ρ x3]) ⟨fun l => K (.lit 4 l) h⟩ :=
  opK_lit S 4 #[(0, x0), (1, x1), (2, x2), (3, x3)] (by decide) rfl (by decide)
theorem opK_lit5 (S : SlT P t e nb z) (x0 x1 x2 x3 x4 : Operand) : opK P ⟨dst, .buildSlice t 5 #[(0, x0), (1, x1), (2, x2), (3, x3), (4, x4)], ty, pos, after, g⟩ ρ h K = @bindK _ (allOne [ρ x0, ρ x1, ρ x2, ρ x3, ρ x4]) ⟨fun l => K (.lit 5 l) h⟩ :=
  opK_lit S 5 #[(0, x0), (1, x1), (2, x2), (3, x3), (4, x4)] (by decide) rfl (by decide)
theorem opK_lit6 (S : SlT P t e nb z) (x0 x1 x2 x3 x4 x5 : Operand) : opK P ⟨dst, .buildSlice t 6 #[(0, x0), (1, x1), (2, x2), (3, x3), (4, x4), (5, x5)], ty, pos, after, g⟩ ρ h K = @bindK _ (allOne [ρ x0, ρ x1, ρ x2, ρ x3, ρ x4, ρ x5]) ⟨fun l => K (.lit 6 l) h⟩ :=
  opK_lit S 6 #[(0, x0), (1, x1), (2, x2), (3, x3), (4, x4), (5, x5)] (by decide) rfl (by decide)
theorem opK_lit7 (S : SlT P t e nb z) (x0 x1 x2 x3 x4 x5 x6 : Operand) : opK P ⟨dst, .buildSlice t 7 #[(0, x0), (1, x1), (2, x2), (3, x3), (4, x4), (5, x5), (6, x6)], ty, pos, after, g⟩ ρ h K = @bindK _ (allOne [ρ x0, ρ x1, ρ x2, ρ x3, ρ x4, ρ x5, ρ x6]) ⟨fun l => K (.lit 7 l) h⟩ :=
  opK_lit S 7 #[(0, x0), (1, x1), (2, x2), (3, x3), (4, x4), (5, x5), (6, x6)] (by decide) rfl (by decide)
theorem opK_lit8 (S : SlT P t e nb z) (x0 x1 x2 x3 x4 x5 x6 x7 : Operand) : opK P ⟨dst, .buildSlice t 8 #[(0, x0), (1, x1), (2, x2), (3, x3), (4, x4), (5, x5), (6, x6), (7, x7)], ty, pos, after, g⟩ ρ h K = @bindK _ (allOne [ρ x0, ρ x1, ρ x2, ρ x3, ρ x4, ρ x5, ρ x6, ρ x7]) ⟨fun l => K (.lit 8 l) h⟩ :=
  opK_lit S 8 #[(0, x0), (1, x1), (2, x2), (3, x3), (4, x4), (5, x5), (6, x6), (7, x7)] (by decide) rfl (by decide)

theorem opK_lit0 (S : SlT P t e nb z) : opK P ⟨dst, .buildSlice t 0 #[], ty, pos, after, g⟩ ρ h K = K (.cap0 false) h := by
  obtain ⟨⟨T, hT, hTe⟩, E, hE, g1, g2, g3, g4⟩ := S
  rw [opK_buildSlice]
  simp [aEff, hT, hTe, hE, g1, g4, aFill, bindK]

theorem append1 (S : SlT P t e nb z) {h0 : List AObj} {k : Nat} (hk : h0.length = k) (xs ys : List AVal) {y : AVal} {m : Nat} (hv : ∀ h', sview h' y = some (m, ys)) (hm : ys.length = m) (hone : ys.all AVal.one = true) (hm0 : m ≠ 0) (hb : (xs.length + m) * nb ≤ 140737488355328) (hb2 : xs.length + m ≤ 140737488355328) :
    aAppend P t (gh h0 e xs) (gv k xs) y = some (gv k (xs ++ ys), gh h0 e (xs ++ ys)) := by
  obtain ⟨⟨T, hT, hTe⟩, E, hE, g1, g2, g3, g4⟩ := S
  subst hk
  exact append_gv h0 xs ys hT hTe hE g1 (by rw [g4]; rfl) hv hm hone hm0 (by rw [g3]; exact hb) hb2

/-- One int more. -/
theorem append_int (S : SlT P t e 8 z) {h0 : List AObj} {k : Nat} (hk : h0.length = k) (l : List Int) (x : Int) (hl : l.length ≤ 1000000000) :
    aAppend P t (gh h0 e (ints l)) (gv k (ints l)) (.lit 1 [.val (.int .i64 x)]) = some (gv k (ints (l ++ [x])), gh h0 e (ints (l ++ [x]))) := by
  have := append1 S hk (ints l) (ints [x]) (y := .lit 1 [.val (.int .i64 x)]) (m := 1) (fun _ => rfl) rfl (ints_one _) (by omega) (by rw [ints_length]; omega) (by rw [ints_length]; omega)
  rw [this, ints_append]

theorem resOf_gv (e : TypeId) (xs : List AVal) (n : Nat) : resOf (gh [] e xs) (n + 1) (gv 0 xs) = .list true xs.isEmpty xs.length (xs.map (resOf (gh [] e xs) n)) := by
  cases xs with
  | nil => rfl
  | cons x xr => simp [gv, gh, resOf]

theorem resVal_1 {fn : Func} {s : ASt} {a : Tmp} (hf : fn.results = #[.tmp a]) : resVal P fn s = some (look s.env a) := by simp [resVal, hf, resAt]
theorem resVal_2 {fn : Func} {s : ASt} {a b : Tmp} (hf : fn.results = #[.tmp a, .tmp b]) : resVal P fn s = some (.tuple [look s.env a, look s.env b]) := by simp [resVal, hf, resAt]
theorem resVal_3 {fn : Func} {s : ASt} {a b c : Tmp} (hf : fn.results = #[.tmp a, .tmp b, .tmp c]) : resVal P fn s = some (.tuple [look s.env a, look s.env b, look s.env c]) := by simp [resVal, hf, resAt]

theorem args0_0 : args0 [] = [] := _root_.id rfl
theorem args0_1 (a : AVal) : args0 [a] = [(0, a)] := _root_.id rfl
theorem args0_2 (a b : AVal) : args0 [a, b] = [(0, a), (1, b)] := _root_.id rfl
theorem args0_3 (a b c : AVal) : args0 [a, b, c] = [(0, a), (1, b), (2, c)] := _root_.id rfl
theorem args0_4 (a b c d : AVal) : args0 [a, b, c, d] = [(0, a), (1, b), (2, c), (3, d)] := _root_.id rfl

end
end Go.AW

/- Rules for objects of the call's own. -/
namespace Go.AW
open Go

section
variable {P : Program} {t e : TypeId} {nb : Nat} {z : Value} {h : List AObj}

theorem cellsAt_0 {ty es ext : Nat} {cs : List AVal} {r : List AObj} (h : cs.length = ext) : cellsAt (⟨ty, es, cs⟩ :: r) 0 ext = some cs := by simp [cellsAt, h]
theorem cellsAt_1 {o0 : AObj} {ty es ext : Nat} {cs : List AVal} {r : List AObj} (h : cs.length = ext) : cellsAt (o0 :: ⟨ty, es, cs⟩ :: r) 1 ext = some cs := by simp [cellsAt, h]
theorem cellsAt_2 {o0 o1 : AObj} {ty es ext : Nat} {cs : List AVal} {r : List AObj} (h : cs.length = ext) : cellsAt (o0 :: o1 :: ⟨ty, es, cs⟩ :: r) 2 ext = some cs := by simp [cellsAt, h]
theorem cellsAt_i0 {ty es ext : Nat} {l : List Int} {r : List AObj} (h : l.length = ext) : cellsAt (⟨ty, es, ints l⟩ :: r) 0 ext = some (ints l) := cellsAt_0 (by rw [ints_length]; exact h)
theorem cellsAt_i1 {o0 : AObj} {ty es ext : Nat} {l : List Int} {r : List AObj} (h : l.length = ext) : cellsAt (o0 :: ⟨ty, es, ints l⟩ :: r) 1 ext = some (ints l) := cellsAt_1 (by rw [ints_length]; exact h)
theorem cellsAt_i2 {o0 o1 : AObj} {ty es ext : Nat} {l : List Int} {r : List AObj} (h : l.length = ext) : cellsAt (o0 :: o1 :: ⟨ty, es, ints l⟩ :: r) 2 ext = some (ints l) := cellsAt_2 (by rw [ints_length]; exact h)

theorem sview_ref (id off n ext : Nat) : sview h (.ref id off n ext) = (cellsAt h id ext).map fun cs => (n, cs.drop off) := _root_.id rfl
theorem pview_ptr (id off ext : Nat) : pview h (.ptr id off ext) = (cellsAt h id ext).map (·.drop off) := _root_.id rfl

theorem idx_own (S : SlT P t e nb z) {id off m ext : Nat} {k : IntKind} {n : Int} (h0 : 0 ≤ n) (h1 : n < m) : aIdx P t h (.ref id off m ext) (.val (.int k n)) = (cellsAt h id ext).map fun _ => .ptr id (off + n.toNat) ext := by
  rw [idx_ref S]
  cases hc : cellsAt h id ext with
  | none => simp
  | some cs => simp [h0, h1]

theorem store_at (S : SlT P t e nb z) {id ext k : Nat} {ty es : Nat} {cs : List AVal} {x : AVal} (ho : h[id]? = some ⟨ty, es, cs⟩) (hx : x.one = true) (hl : cs.length = ext) (hk : k < ext) :
    aStore P e h (.ptr id k ext) x = some (h.set id ⟨ty, es, cs.set k x⟩) := by
  obtain ⟨⟨T, hT, hTe⟩, E, hE, g1, g2, g3, g4⟩ := S
  simp only [aStore, hE, one_parts hx, ho]
  rw [if_pos ⟨hl, by simp [g1], by simp; omega, by simp [hx]⟩]
  rfl

theorem ints_set (l : List Int) (k : Nat) (x : Int) : (ints l).set k (I x) = ints (l.set k x) := by simp [ints, List.map_set]
theorem bools_set (l : List Bool) (k : Nat) (x : Bool) : (bools l).set k (B x) = bools (l.set k x) := by simp [bools, List.map_set]

theorem store_i0 (S : SlT P t e nb z) {ty es ext k : Nat} {l : List Int} {x : Int} {r : List AObj} (hl : l.length = ext) (hk : k < ext) : aStore P e (⟨ty, es, ints l⟩ :: r) (.ptr 0 k ext) (.val (.int .i64 x)) = some (⟨ty, es, ints (l.set k x)⟩ :: r) := by
  rw [store_at S (ty := ty) (es := es) (cs := ints l) rfl rfl (by rw [ints_length]; exact hl) hk, ints_set]; rfl
theorem store_i1 (S : SlT P t e nb z) {o0 : AObj} {ty es ext k : Nat} {l : List Int} {x : Int} {r : List AObj} (hl : l.length = ext) (hk : k < ext) : aStore P e (o0 :: ⟨ty, es, ints l⟩ :: r) (.ptr 1 k ext) (.val (.int .i64 x)) = some (o0 :: ⟨ty, es, ints (l.set k x)⟩ :: r) := by
  rw [store_at S (ty := ty) (es := es) (cs := ints l) rfl rfl (by rw [ints_length]; exact hl) hk, ints_set]; rfl
theorem store_i2 (S : SlT P t e nb z) {o0 o1 : AObj} {ty es ext k : Nat} {l : List Int} {x : Int} {r : List AObj} (hl : l.length = ext) (hk : k < ext) : aStore P e (o0 :: o1 :: ⟨ty, es, ints l⟩ :: r) (.ptr 2 k ext) (.val (.int .i64 x)) = some (o0 :: o1 :: ⟨ty, es, ints (l.set k x)⟩ :: r) := by
  rw [store_at S (ty := ty) (es := es) (cs := ints l) rfl rfl (by rw [ints_length]; exact hl) hk, ints_set]; rfl
theorem store_b0 (S : SlT P t e nb z) {ty es ext k : Nat} {l : List Bool} {x : Bool} {r : List AObj} (hl : l.length = ext) (hk : k < ext) : aStore P e (⟨ty, es, bools l⟩ :: r) (.ptr 0 k ext) (.val (.bool x)) = some (⟨ty, es, bools (l.set k x)⟩ :: r) := by
  rw [store_at S (ty := ty) (es := es) (cs := bools l) rfl rfl (by simpa [bools] using hl) hk, bools_set]; rfl

theorem make_int (S : SlT P t e 8 (.int .i64 0)) {k k' : IntKind} {a b : Int} (h0 : 0 ≤ a) (h1 : a ≤ b) (h2 : b ≤ 17592186044416) :
    aMake P t h (.val (.int k a)) (.val (.int k' b)) = some (.ref h.length 0 a.toNat a.toNat, h ++ [⟨e, 1, ints (List.replicate a.toNat 0)⟩]) := by
  obtain ⟨⟨T, hT, hTe⟩, E, hE, g1, g2, g3, g4⟩ := S
  simp only [aMake, hT, hTe, hE, g4]
  rw [if_pos ⟨g1, h0, h1, by rw [g3]; omega, by omega⟩]
  simp [ints, ofCell]

theorem resOf_ref0 {ty ext n k : Nat} {cs : List AVal} {r : List AObj} (hl : cs.length = ext) (hk : k = ext) : resOf (⟨ty, 1, cs⟩ :: r) (n + 1) (.ref 0 0 k ext) = .list true false k (cs.map (resOf (⟨ty, 1, cs⟩ :: r) n)) := by
  subst hk; subst hl
  simp [resOf]

theorem eql_gv (S : SlT P t e nb z) (k : Nat) (xs : List AVal) : aBin P t .eql (gv k xs) (.cap0 true) = some (B xs.isEmpty) := by
  obtain ⟨⟨T, hT, hTe⟩, E, hE, g1, g2, g3, g4⟩ := S
  cases xs <;> simp [aBin, gv, hT, hTe, nilB]
theorem neq_gv (S : SlT P t e nb z) (k : Nat) (xs : List AVal) : aBin P t .neq (gv k xs) (.cap0 true) = some (B !xs.isEmpty) := by
  obtain ⟨⟨T, hT, hTe⟩, E, hE, g1, g2, g3, g4⟩ := S
  cases xs <;> simp [aBin, gv, hT, hTe, nilB]
theorem eql_list (S : SlT P t e nb z) (p b : Bool) (n : Nat) (xs : List AVal) : aBin P t .eql (.list p b n xs) (.cap0 true) = some (B b) := by
  obtain ⟨⟨T, hT, hTe⟩, E, hE, g1, g2, g3, g4⟩ := S
  simp [aBin, hT, hTe, nilB]
theorem neq_list (S : SlT P t e nb z) (p b : Bool) (n : Nat) (xs : List AVal) : aBin P t .neq (.list p b n xs) (.cap0 true) = some (B !b) := by
  obtain ⟨⟨T, hT, hTe⟩, E, hE, g1, g2, g3, g4⟩ := S
  simp [aBin, hT, hTe, nilB]

theorem slice_hi (S : SlT P t e nb z) {p b : Bool} {l : List Int} {n : Nat} {k : IntKind} {c : Int} (hn : n = l.length) (h0 : 0 ≤ c) (h1 : c ≤ n) :
    aSlice P t h (.list p b n (ints l)) none (some (.val (.int k c))) none = some (.list p b (l.take c.toNat).length (ints (l.take c.toNat))) := by
  obtain ⟨⟨T, hT, hTe⟩, E, hE, g1, g2, g3, g4⟩ := S
  subst hn
  simp only [aSlice, hT, hTe, hE, sview_list, optInt]
  rw [if_pos ⟨by omega, h0, h1, by omega⟩]
  simp [g1, ints, List.map_take]
  omega
theorem slice_lo (S : SlT P t e nb z) {p b : Bool} {l : List Int} {n : Nat} {k : IntKind} {c : Int} (hn : n = l.length) (h0 : 0 ≤ c) (h1 : c ≤ n) :
    aSlice P t h (.list p b n (ints l)) (some (.val (.int k c))) none none = some (.list p b (l.drop c.toNat).length (ints (l.drop c.toNat))) := by
  obtain ⟨⟨T, hT, hTe⟩, E, hE, g1, g2, g3, g4⟩ := S
  subst hn
  simp only [aSlice, hT, hTe, hE, sview_list, optInt]
  rw [if_pos ⟨h0, h1, by omega, by omega⟩]
  have : ((l.length : Int) - c).toNat = (l.drop c.toNat).length := by simp; omega
  rw [this, g1]
  simp [ints, List.map_drop]
  rw [List.take_of_length_le (by simp)]

/-- A copy of a slice, in an object of its own. -/
def cv (k : Nat) (xs : List AVal) : AVal := match xs with | [] => .cap0 false | _ :: _ => .ref k 0 xs.length xs.length

theorem append_cv (S : SlT P t e 8 z) {p b : Bool} {n : Nat} {l : List Int} (hn : n = l.length) (hl : l.length ≤ 1000000000000) :
    aAppend P t h (.cap0 false) (.list p b n (ints l)) = some (cv h.length (ints l), gh h e (ints l)) := by
  obtain ⟨⟨T, hT, hTe⟩, E, hE, g1, g2, g3, g4⟩ := S
  subst hn
  have ht : (ints l).take l.length = ints l := List.take_of_length_le (by rw [ints_length]; omega)
  simp only [aAppend, hT, hTe, hE, sview_list, g1, Nat.mul_one, ht]
  rw [if_pos ⟨ints_length l, ints_one l, by omega, by rw [g4]; rfl⟩]
  cases l with
  | nil => rfl
  | cons x r =>
    rw [if_neg (by simp), if_pos ⟨by rw [g3]; omega, by omega⟩]
    simp [cv, gh, ints]

theorem resOf_cv (e : TypeId) (xs : List AVal) (n : Nat) : resOf (gh [] e xs) (n + 1) (cv 0 xs) = .list true false xs.length (xs.map (resOf (gh [] e xs) n)) := by
  cases xs with
  | nil => rfl
  | cons x xr => simp [cv, gh, resOf]
theorem argOf_cv (e : TypeId) (xs : List AVal) (n : Nat) : argOf (gh [] e xs) (n + 1) (cv 0 xs) = .list false false xs.length (xs.map (argOf (gh [] e xs) n)) := by
  cases xs with
  | nil => rfl
  | cons x xr => simp [cv, gh, argOf]
theorem argOf_gv (e : TypeId) (xs : List AVal) (n : Nat) : argOf (gh [] e xs) (n + 1) (gv 0 xs) = .list false xs.isEmpty xs.length (xs.map (argOf (gh [] e xs) n)) := by
  cases xs with
  | nil => rfl
  | cons x xr => simp [gv, gh, argOf]
theorem sview_gv (e : TypeId) (xs : List AVal) : sview (gh [] e xs) (gv 0 xs) = some (xs.length, xs) := by
  cases xs with
  | nil => rfl
  | cons x xr => simp [gv, gh, sview, cellsAt]
theorem sview_cv (e : TypeId) (xs : List AVal) : sview (gh [] e xs) (cv 0 xs) = some (xs.length, xs) := by
  cases xs with
  | nil => rfl
  | cons x xr => simp [cv, gh, sview, cellsAt]
theorem idx_gv (S : SlT P t e nb z) {xs : List AVal} {k : IntKind} {n : Int} (h0 : 0 ≤ n) (h1 : n < xs.length) : aIdx P t (gh [] e xs) (gv 0 xs) (.val (.int k n)) = some (.ptr 0 n.toNat xs.length) := by
  cases xs with
  | nil => simp at h1; omega
  | cons x xr => 
    simp only [gv, gh, List.nil_append]
    rw [idx_own S h0 h1]
    simp [cellsAt]
theorem cellsAt_gv (e : TypeId) {xs : List AVal} {n : Nat} (hn : n = xs.length) (h0 : 0 < n) : cellsAt (gh [] e xs) 0 n = some xs := by
  subst hn
  cases xs with
  | nil => simp at h0
  | cons x xr => simp [gh, cellsAt]
theorem pview_gv (e : TypeId) {xs : List AVal} {i n : Nat} (hi : i < xs.length) (hn : n = xs.length) : pview (gh [] e xs) (.ptr 0 i n) = some (xs.drop i) := by
  subst hn
  cases xs with
  | nil => simp at hi
  | cons x xr => simp [gh, pview, cellsAt]
theorem store_gv (S : SlT P t e nb z) {l : List Int} {x : Int} {i n : Nat} (hi : i < l.length) (hn : n = l.length) : aStore P e (gh [] e (ints l)) (.ptr 0 i n) (.val (.int .i64 x)) = some (gh [] e (ints (l.set i x))) := by
  subst hn
  cases l with
  | nil => simp at hi
  | cons y r =>
    have := store_i0 S (ty := e) (es := 1) (ext := (y :: r).length) (k := i) (l := y :: r) (x := x) (r := []) rfl hi
    cases i <;> exact this
theorem gv_set (k : Nat) (l : List Int) (i : Nat) (x : Int) : gv k (ints (l.set i x)) = gv k (ints l) := by
  cases l with
  | nil => rfl
  | cons y r => cases i <;> simp [gv, ints]

theorem min_int (k : IntKind) (a b : Int) : aMinMax false [.val (.int k a), .val (.int k b)] = some (.val (.int k (min a b))) := by
  simp only [aMinMax]; rw [Int.min_def]; simp; omega
theorem max_int (k : IntKind) (a b : Int) : aMinMax true [.val (.int k a), .val (.int k b)] = some (.val (.int k (max a b))) := by
  simp only [aMinMax]; rw [Int.max_def]; simp; omega
theorem rem_int (k : IntKind) {a b : Int} (h0 : 0 ≤ a) (h1 : 0 < b) : aInt .rem k a b = some (.val (.int k ((a.toNat % b.toNat : Nat) : Int))) := by
  rw [aInt_rem k a b (by omega), Int.tmod_eq_emod_of_nonneg h0]
  congr 3
  rw [Int.natCast_emod, Int.toNat_of_nonneg h0, Int.toNat_of_nonneg (by omega)]

end
end Go.AW

/- From a law's contract to the statement's walk. -/
namespace Go.AW
open Go Go.RowKit

/-- What a law's contract says of a call with values that stand to its arguments. -/
theorem Contract.law {P : Program} {f : FuncId} {args : List AVal} (h : Contract P f args (B true)) (vs : Array Value) (w : World) (hs : vs.size = args.length)
    (hv : ∀ j (hj : j < args.length), VRel (fun b => b < w.heap.size) (fun _ => False) w (fun _ => (0, 0)) (fun _ => none) args[j] (vs.getD j undef)) :
    Calls P f vs w fun e w' => e = .returned (.bool true) ∧ Below w.heap.size w w' := by
  refine (h.2 w (fun b => b < w.heap.size) vs (fun _ h => h) hs hv).mono ?_
  rintro e w' ⟨v, rfl, hv, hb⟩
  cases hv
  exact ⟨rfl, hb⟩

/-- A slice of ints that comes in: its elements, and whether it may be nil. -/
def ArgI (w : World) (v : Value) (b : Bool) (l : List Int) : Prop :=
  (l = [] ∨ b = false) ∧ l.length ≤ 9223372036854775807 ∧ (∀ n ∈ l, -9223372036854775808 ≤ n ∧ n ≤ 9223372036854775807) ∧
  VRel (fun b => b < w.heap.size) (fun _ => False) w (fun _ => (0, 0)) (fun _ => none) (.list false b l.length (ints l)) v

theorem argI {P : Program} {w : World} {base len cap : Nat} {t e : TypeId} {a : Option Addr} {zs : List Int} (ht : P.underlying t = some (.slice e)) (hok : Value.okWide P w .any base t (.slice a len cap))
    (h : (a = none ∧ len = 0 ∧ cap = 0 ∧ zs = []) ∨ ∃ x, a = some x ∧ len ≤ cap ∧ cap ≤ maxLen ∧ zs.length = cap ∧ (∀ i, i < zs.length → w.cell? (x.add i) = some (.int .i64 (zs.getD i 0))) ∧ ∀ n ∈ zs, (Lit.int .i64 n).wf = true) :
    ∃ b l, ArgI w (.slice a len cap) b l := by
  rcases h with ⟨rfl, rfl, rfl, rfl⟩ | ⟨x, rfl, h1, h2, h3, h4, h5⟩
  · exact ⟨true, [], .inl rfl, by simp, by simp, .nil _⟩
  · have hs : x.spot = none := by
      simp only [Value.okWide, ht, Cell.okWide, Cell.ok] at hok
      exact hok.2.2.2.1
    obtain ⟨xb, xo, xs⟩ := x
    simp only at hs
    subst hs
    have hlen : (zs.take len).length = len := by rw [List.length_take]; omega
    have hcell : ∀ j, j < len → w.cell? ⟨xb, xo + j, none⟩ = some (.int .i64 (zs.getD j 0)) := fun j hj => by
      have := h4 j (by omega)
      unfold Addr.add at this
      split at this
      · rename_i h0; subst h0; exact this
      · exact this
    refine ⟨false, zs.take len, .inr rfl, by rw [hlen]; have : maxLen = 9223372036854775807 := rfl; omega, fun n hn => ?_, ?_⟩
    · have := h5 n (List.mem_of_mem_take hn)
      have e1 : IntKind.min .i64 = -9223372036854775808 := rfl
      have e2 : IntKind.max .i64 = 9223372036854775807 := rfl
      simp only [Lit.wf, e1, e2, Bool.and_eq_true, decide_eq_true_eq] at this
      exact this
    · rw [hlen]
      refine .list false xb xo len cap _ (fun j => .int .i64 (zs.getD j 0)) (fun hne => ?_) (fun h => by cases h) h1 (fun j hj => hcell j (by rw [ints_length, hlen] at hj; exact hj)) (fun j hj => ?_)
      · have hl0 : 0 < len := by
          rw [← hlen]
          cases hz : zs.take len with
          | nil => rw [hz] at hne; exact absurd rfl hne
          | cons => simp
        have := hcell 0 hl0
        unfold World.cell? at this
        split at this
        · rename_i heq
          exact (Array.getElem?_eq_some_iff.1 heq).1
        · cases this
      · rw [ints_length, hlen] at hj
        have : (ints (zs.take len))[j]'(by rw [ints_length, hlen]; exact hj) = I (zs.getD j 0) := by
          simp [ints, List.getD, List.getElem?_eq_getElem (show j < zs.length by omega)]
        rw [this]
        exact .val _

theorem wf_bd {n : Int} (h : (Lit.int .i64 n).wf = true) : -9223372036854775808 ≤ n ∧ n ≤ 9223372036854775807 := by
  have e1 : IntKind.min .i64 = -9223372036854775808 := rfl
  have e2 : IntKind.max .i64 = 9223372036854775807 := rfl
  simp only [Lit.wf, e1, e2, Bool.and_eq_true, decide_eq_true_eq] at h
  exact h

end Go.AW
