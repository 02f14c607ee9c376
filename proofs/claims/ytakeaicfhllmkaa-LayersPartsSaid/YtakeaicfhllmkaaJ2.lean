/- Part 2 of the proof's own texts: the contracts of functions, and what they rest on. -/
import Derived.Test.YtakeaicfhllmkaaJ1
import Derived.Test.YtakeaicfhllmkaaBw5
import Derived.Test.YtakeaicfhllmkaaBw4
/- Chapter 11: the parts of a cloth, by the program. -/
set_option linter.unusedSimpArgs false
set_option linter.unusedVariables false
set_option maxRecDepth 100000
namespace Go.Proofs.Ytakeaicfhllmkaa
open Go Go.Proofs Go.AW

/-- Thread a is held by thread b. -/
def hdB (W n : Nat) (l : List Bool) (a b : Nat) : Bool := decide (0 ≤ (srch (adjT W n l) (far0 n a) [a]).getD b 0)
theorem adjT_in {W n : Nat} {l : List Bool} : ∀ x y, x < n → y ∈ adjT W n l x → y < n := fun _ _ _ h => adjT_lt h
theorem adjT_le (W n : Nat) (l : List Bool) (a : Nat) : (adjT W n l a).length ≤ n := by
  unfold adjT; exact Nat.le_trans (List.length_filter_le _ _) (by simp)
theorem hdB_iff {W n : Nat} {l : List Bool} {a b : Nat} (ha : a < n) (hb : b < n) : hdB W n l a b = true ↔ Wy (adjT W n l) a b := by
  unfold hdB
  rw [decide_eq_true_eq]
  constructor
  · intro h
    refine rch_in ha hb (M := fun x => Wy (adjT W n l) a x) (fun c hc hw x hx ho => ?_) (.refl a) h
    exact Wy.trans hw (.one (mem_adjT.2 ⟨hx, ho⟩))
  · intro h
    have hcl := rch_cl (W := W) l ha
    exact (h.closed (p := fun x => x < n ∧ Rch W n l a x) (fun x y hx hy => by
      obtain ⟨h1, h2⟩ := mem_adjT.1 hy
      exact ⟨h1, hcl x hx.1 hx.2 y h1 h2⟩) ⟨ha, rch_self l ha⟩).2
/-- The parts of a cloth in their order. -/
def PL (W n : Nat) (l : List Bool) : List (List Nat) := lsP (hdB W n l) n n fun _ => false
def PV (ps : List (List Nat)) : AVal := .list true ps.isEmpty ps.length (rowsC ps)
def nxV (o : Option Nat) : Int := match o with
  | none => -1
  | some p => (p : Int)
theorem fI_const (n : Nat) (v : Int) : fI n (fun _ => v) = List.replicate n v := by
  rw [List.eq_replicate_iff]
  exact ⟨fI_len _ _, fun x hx => by obtain ⟨_, _, rfl⟩ := List.mem_map.1 hx; rfl⟩
theorem LL_fr (k : Nat) (rs : List (List Int)) : ∀ x, x ∈ LL rs → allFresh (k + 2) x = true := by
  intro x hx
  obtain ⟨r, _, rfl⟩ := List.mem_map.1 hx
  simp [allFresh, ints_fresh]
/-- Rows, by parts. -/
def fL (m : Nat) (g : Nat → List Nat) : List (List Int) := (List.range m).map fun q => nI (g q)
theorem fL_len (m : Nat) (g : Nat → List Nat) : (fL m g).length = m := by simp [fL]
theorem fL_get {m : Nat} {g : Nat → List Nat} {q : Nat} (h : q < m) : (fL m g).getD q [] = nI (g q) := by simp [fL, List.getD_eq_getElem?_getD, h]
theorem fL_set {m : Nat} {g : Nat → List Nat} {q : Nat} (v : List Nat) : (fL m g).set q (nI v) = fL m (updN g q v) := by
  refine List.ext_getElem (by simp [fL]) fun i h1 h2 => ?_
  rw [List.getElem_set]
  simp only [fL, List.getElem_map, List.getElem_range]
  by_cases h : q = i
  · rw [if_pos h, h, updN_same]
  · rw [if_neg h, updN_other _ _ (fun e => h e.symm)]
theorem fL_nil (m : Nat) : fL m (fun _ => []) = List.replicate m [] := by
  rw [List.eq_replicate_iff]
  exact ⟨fL_len _ _, fun x hx => by obtain ⟨_, _, rfl⟩ := List.mem_map.1 hx; rfl⟩
section
variable {o0 o1 o2 o3 o4 o5 o6 o7 : AObj} {rs : List (List Int)} {tl : List AObj}
theorem h8_at {a : Nat} (ha : a < rs.length) : (o0 :: o1 :: o2 :: o3 :: o4 :: o5 :: o6 :: o7 :: (gos rs ++ tl))[8 + a]? = some (go 3 (ints (rs.getD a []))) := by
  rw [show 8 + a = a + 8 by omega]
  simp only [List.getElem?_cons_succ]
  rw [List.getElem?_append_left (by rw [gos_len]; exact ha)]
  exact gos_at ha
theorem h8_set {a : Nat} (ha : a < rs.length) (r : List Int) : (o0 :: o1 :: o2 :: o3 :: o4 :: o5 :: o6 :: o7 :: (gos rs ++ tl)).set (8 + a) (go 3 (ints r)) = o0 :: o1 :: o2 :: o3 :: o4 :: o5 :: o6 :: o7 :: (gos (rs.set a r) ++ tl) := by
  rw [show 8 + a = a + 8 by omega]
  simp only [List.set_cons_succ]
  rw [List.set_append_left _ _ (by rw [gos_len]; exact ha), gos_set]
theorem h8_tl {m k : Nat} (hm : rs.length = m) : (o0 :: o1 :: o2 :: o3 :: o4 :: o5 :: o6 :: o7 :: (gos rs ++ tl))[8 + m + k]? = tl[k]? := by
  rw [show 8 + m + k = m + k + 8 by omega]
  simp only [List.getElem?_cons_succ]
  rw [List.getElem?_append_right (by rw [gos_len]; omega), gos_len, hm, Nat.add_sub_cancel_left]
theorem h8_stl {m k : Nat} (hm : rs.length = m) (o : AObj) : (o0 :: o1 :: o2 :: o3 :: o4 :: o5 :: o6 :: o7 :: (gos rs ++ tl)).set (8 + m + k) o = o0 :: o1 :: o2 :: o3 :: o4 :: o5 :: o6 :: o7 :: (gos rs ++ tl.set k o) := by
  rw [show 8 + m + k = m + k + 8 by omega]
  simp only [List.set_cons_succ]
  rw [List.set_append_right _ _ (by rw [gos_len]; omega), gos_len, hm, Nat.add_sub_cancel_left]
end
theorem argOf_gwI {h : List AObj} {k e m : Nat} {l : List Int} (ho : h[k]? = some (go e (ints l))) : argOf h (m + 2) (gw true k (ints l)) = LA l.isEmpty l := by
  rw [argOf_gw, ho, gaA_go, ints_length, ints_arg]
  have : (ints l).isEmpty = l.isEmpty := by cases l <;> rfl
  rw [this]; rfl
theorem mem_nI {l : List Nat} {x : Nat} : (x : Int) ∈ nI l ↔ x ∈ l := by
  unfold nI
  rw [List.mem_map]
  constructor
  · rintro ⟨y, h1, h2⟩
    have : y = x := by omega
    exact this ▸ h1
  · intro h; exact ⟨x, h, rfl⟩
/-- Marks, by parts. -/
def fB (m : Nat) (D : Nat → Bool) : List Bool := (List.range m).map D
theorem fB_len (m : Nat) (D : Nat → Bool) : (fB m D).length = m := by simp [fB]
theorem fB_get {m : Nat} {D : Nat → Bool} {p : Nat} (h : p < m) : (fB m D).getD p false = D p := by simp [fB, List.getD_eq_getElem?_getD, h]
theorem fB_set {m : Nat} {D : Nat → Bool} {p : Nat} (v : Bool) : (fB m D).set p v = fB m (updN D p v) := by
  refine List.ext_getElem (by simp [fB]) fun i h1 h2 => ?_
  rw [List.getElem_set]
  simp only [fB, List.getElem_map, List.getElem_range]
  by_cases h : p = i
  · rw [if_pos h, h, updN_same]
  · rw [if_neg h, updN_other _ _ (fun e => h e.symm)]
theorem fB_none (m : Nat) : fB m (fun _ => false) = List.replicate m false := by
  rw [List.eq_replicate_iff]
  exact ⟨fB_len _ _, fun x hx => by obtain ⟨_, _, rfl⟩ := List.mem_map.1 hx; rfl⟩
theorem rowsC_at {ps : List (List Nat)} {i : Nat} (h : i < ps.length) : ((rowsC ps).drop i)[0]? = some (LR false (nI (ps.getD i []))) := by
  rw [List.getElem?_drop, Nat.add_zero, rowsC, List.getElem?_map, List.getElem?_eq_getElem h, List.getD_eq_getElem?_getD, List.getElem?_eq_getElem h]; rfl
section
variable {o0 o1 o2 o3 o4 o5 o6 o7 : AObj} {rs : List (List Int)} {tl : List AObj} {m : Nat}
theorem h8_t0 (hm : rs.length = m) : (o0 :: o1 :: o2 :: o3 :: o4 :: o5 :: o6 :: o7 :: (gos rs ++ tl))[m + 8]? = tl[0]? := by
  rw [show m + 8 = 8 + m + 0 by omega]; exact h8_tl hm
theorem h8_t1 (hm : rs.length = m) : (o0 :: o1 :: o2 :: o3 :: o4 :: o5 :: o6 :: o7 :: (gos rs ++ tl))[m + 9]? = tl[1]? := by
  rw [show m + 9 = 8 + m + 1 by omega]; exact h8_tl hm
theorem h8_s0 (hm : rs.length = m) (o : AObj) : (o0 :: o1 :: o2 :: o3 :: o4 :: o5 :: o6 :: o7 :: (gos rs ++ tl)).set (m + 8) o = o0 :: o1 :: o2 :: o3 :: o4 :: o5 :: o6 :: o7 :: (gos rs ++ tl.set 0 o) := by
  rw [show m + 8 = 8 + m + 0 by omega]; exact h8_stl hm o
theorem h8_s1 (hm : rs.length = m) (o : AObj) : (o0 :: o1 :: o2 :: o3 :: o4 :: o5 :: o6 :: o7 :: (gos rs ++ tl)).set (m + 9) o = o0 :: o1 :: o2 :: o3 :: o4 :: o5 :: o6 :: o7 :: (gos rs ++ tl.set 1 o) := by
  rw [show m + 9 = 8 + m + 1 by omega]; exact h8_stl hm o
end
theorem hdL_nI {q : List Nat} (h : 0 < q.length) : (nI q).getD 0 0 = (hdL q : Int) := by
  cases q with
  | nil => simp at h
  | cons a t => rfl
theorem rowsC_res (h : List AObj) (n : Nat) (ps : List (List Nat)) : (rowsC ps).map (resOf h (n + 2)) = rowsC ps := by
  unfold rowsC
  rw [List.map_map]
  refine List.map_congr_left fun l _ => ?_
  simp [resOf, resOf_list, ints_res]
theorem abv_len (W n : Nat) (l : List Bool) : (abv W n l).length = n := by simp [abv]
set_option maxHeartbeats 1000000 in
theorem partsP_c {W H n : Nat} (hN : W + H = n) (hW0 : 0 < W) (hH0 : 0 < H) (hn64 : n ≤ 64) (b : Bool) {l : List Bool} (hn : l.length = W * H) : Contract Try.prog 21 [GA W H b l] (PV (PL W n l)) := by
  have hab := aboveP_c hN hW0 hH0 (by omega) (by omega) b hn
  have hNi : ((W : Int) + (H : Int)).toNat = n := by omega
  have hNc : (W : Int) + (H : Int) = (n : Int) := by omega
  have hrl := abv_len W n l
  have hrow : ∀ a, a < n → (abv W n l).getD a [] = nI (adjT W n l a) := fun a ha => abv_adj ha
  have hS := tAll_scc (ov := adjT W n l) (n := n) adjT_in
  have hinv := tAll_inv (ov := adjT W n l) (n := n) adjT_in
  refine Contract.intro (effS [31] false [1] [0] [] (fun _ => true) [] [31]) 6 follows Try.func21 rfl rfl (by kernel_rfl) (Nat.le_of_ble_eq_true rfl) ?_
  simp (disch := first | assumption | omega | rfl | simp only [RH]) only [↓RP, RG, FX, RQ, ↓reduceIte, Nat.reduceEqDiff, reduceCtorEq, Nat.reduceBEq, Nat.reduceAdd, Nat.reduceLeDiff, args0_1, hNc]
  refine callK_F 6 hab (by simp (disch := first | assumption | omega | rfl | simp only [RH]) only [↓RP, RG, FX, RQ, ↓reduceIte, Nat.reduceEqDiff, reduceCtorEq, Nat.reduceBEq, Nat.reduceAdd, Nat.reduceLeDiff, RA] <;> rfl) (.inl (by simp [allFresh]; exact LL_fr 3 _)) ?_
  simp (disch := first | assumption | omega | rfl | simp only [RH]) only [↓RP, RG, FX, RQ, ↓reduceIte, Nat.reduceEqDiff, reduceCtorEq, Nat.reduceBEq, Nat.reduceAdd, Nat.reduceLeDiff, make_int, hNi, hNc]
  refine callK_M (o := ⟨3, 1, ints (List.replicate n (-1))⟩) (fun k => .ref k 0 n n) (.ref 0 n n) rfl rfl (fun h2 => repeat_s h2 (by omega) (by omega)) ?_ (by simp) (fun x hx => by
    simp only [ints, List.mem_map] at hx
    obtain ⟨u, _, rfl⟩ := hx
    exact ⟨_, rfl⟩)
  simp (disch := first | assumption | omega | rfl | simp only [RH]) only [↓RP, RG, FX, RQ, ↓reduceIte, Nat.reduceEqDiff, reduceCtorEq, Nat.reduceBEq, Nat.reduceAdd, Nat.reduceLeDiff]
  refine loopK_WW [3, 4, 35, 36] (fun a : Nat => a ≤ n) (fun a => ⟨[(3, I n), (4, .ptr 3 0 7), (35, I n), (36, I a)], FS (abv W n l) n (tAll (adjT W n l) n a)⟩) (fun a => n - a) 0 (by omega) ?_ ?_
  · simp only [↓RP, RG, FX, RQ, ↓reduceIte, Nat.reduceEqDiff, reduceCtorEq, Nat.reduceBEq, Nat.reduceAdd, Nat.reduceLeDiff]
    have e : FS (abv W n l) n (tAll (adjT W n l) n 0) = [⟨3, 1, ints (List.replicate n 0)⟩, ⟨3, 1, ints (List.replicate n 0)⟩, ⟨3, 1, ints (List.replicate n (-1))⟩, ⟨64, 7, [.list true false n (LL (abv W n l)), .ref 0 0 n n, .ref 1 0 n n, .ref 2 0 n n, .res 4, I 0, .res 5]⟩, ⟨0, 0, []⟩, ⟨0, 0, []⟩] := by
      rw [← fI_const, ← fI_const]; rfl
    rw [e]
    exact Wk.weak (fun t => .refl _) (.cons _ _ _ _ (WL.refl _) (.cons _ _ _ _ (WL.refl _) (.cons _ _ _ _ (WL.refl _) (.cons _ _ _ _ (.cons (.refl _) (.cons (.refl _) (.cons (.refl _) (.cons (.refl _) (.cons (.nil _) (.cons (.refl _) (.cons (.nil _) .nil))))))) (.nil _ (by simp))))))
  intro a ha
  obtain ⟨s, hs⟩ : ∃ s, tAll (adjT W n l) n a = s := ⟨_, rfl⟩
  have hsi := (hinv a ha).1
  rw [hs] at hsi
  simp only [hs]
  have m1 := fI_len n fun x => (s.ix x : Int)
  by_cases hlt : a < n
  · have gix : (fI n fun x => (s.ix x : Int)).getD a 0 = (s.ix a : Int) := fI_get hlt
    by_cases h0 : s.ix a = 0
    · have hnx : tAll (adjT W n l) n (a + 1) = tVis (adjT W n l) n s a := by
        show (if (tAll (adjT W n l) n a).ix a = 0 then _ else _) = _
        rw [hs, if_pos h0]
      have hg0 : (fI n fun x => (s.ix x : Int)).getD a 0 = 0 := by rw [gix, h0]; rfl
      unfold FS
      simp (disch := first | assumption | omega | rfl | simp only [RH]) only [↓RP, RG, FX, RQ, ↓reduceIte, Nat.reduceEqDiff, reduceCtorEq, Nat.reduceBEq, Nat.reduceAdd, Nat.reduceLeDiff, hg0, Int.toNat_natCast]
      refine callK_T rfl (visit_s (by omega) hrl hrow (fun a _ => adjT_le W n l a) adjT_in n s [] a hsi hlt h0 (fun g hg => by cases hg) (by have := hsi.mtc; omega)) ?_
      simp (disch := first | assumption | omega | rfl | simp only [RH]) only [↓RP, RG, FX, RQ, ↓reduceIte, Nat.reduceEqDiff, reduceCtorEq, Nat.reduceBEq, Nat.reduceAdd, Nat.reduceLeDiff]
      exact ⟨a + 1, hlt, Wk.of_eq (by rw [hnx]; rfl), by omega⟩
    · have hnx : tAll (adjT W n l) n (a + 1) = s := by
        show (if (tAll (adjT W n l) n a).ix a = 0 then _ else _) = _
        rw [hs, if_neg h0]
      have hg0 : ¬ (fI n fun x => (s.ix x : Int)).getD a 0 = 0 := by rw [gix]; omega
      unfold FS
      simp (disch := first | assumption | omega | rfl | simp only [RH]) only [↓RP, RG, FX, RQ, ↓reduceIte, Nat.reduceEqDiff, reduceCtorEq, Nat.reduceBEq, Nat.reduceAdd, Nat.reduceLeDiff, Int.toNat_natCast]
      exact ⟨a + 1, hlt, Wk.of_eq (by rw [hnx]; rfl), by omega⟩
  obtain rfl : n = a := by omega
  rw [hs] at hS
  have hpl : s.ps.length ≤ n := hS.len_le
  unfold FS
  obtain ⟨m, hm⟩ : ∃ m, s.ps.length = m := ⟨_, rfl⟩
  rw [hm] at hpl
  have hgs : gS (some (go 42 (rowsC s.ps))) (rowsC s.ps) = some (m, rowsC s.ps) := by rw [gS_go]; simp [rowsC, hm]
  have hmi : ((m : Nat) : Int).toNat = m := Int.toNat_natCast m
  have hcell : ofCell (.slice none 0 0) = .cap0 true := rfl
  -- which parts lie over which
  obtain ⟨P, hP⟩ : ∃ P : Nat → Nat, P = fun x => (s.pt x).toNat := ⟨_, rfl⟩
  obtain ⟨hF, hFn, hO⟩ := gAll_lies hS (m := m) hm.symm adjT_in (fun a _ => adjT_le W n l a)
  rw [← hP] at hF hFn hO
  have hPm : ∀ x, x < n → P x < m := fun x hx => by
    have h0 := hS.all x hx
    obtain ⟨l', h1, _⟩ := (hS.p1 x (s.pt x).toNat).1 (by omega)
    have := (List.getElem?_eq_some_iff.1 h1).1
    rw [hP]; simp only []; omega
  have hPt : ∀ x, x < n → s.pt x = (P x : Int) := fun x hx => by
    have h0 := hS.all x hx
    rw [hP]; simp only []; omega
  have hgi := gAt_inv (P := P) (n := n) (m := m) hPm adjT_in (fun a _ => adjT_le W n l a)
  simp (disch := first | assumption | omega | rfl | simp only [RH]) only [↓RP, RG, FX, RQ, ↓reduceIte, Nat.reduceEqDiff, reduceCtorEq, Nat.reduceBEq, Nat.reduceAdd, Nat.reduceLeDiff, sview_gw, hgs, make_int, make_one, hmi, hcell, ovV]
  generalize (⟨3, 1, ints (fI n fun x => (s.ix x : Int))⟩ : AObj) = o0
  generalize (⟨3, 1, ints (fI n fun x => (s.lo x : Int))⟩ : AObj) = o1
  generalize stO s.st s.jk = o4
  generalize stV 4 s.st s.jk = x4
  refine loopK_WW [3, 4, 6, 7, 57, 58, 59] (fun a : Nat => a ≤ n) (fun a => ⟨[(3, I n), (4, .ptr 3 0 7), (6, .ref 6 0 m m), (7, .ref 7 0 m m), (57, .list true false n (LL (abv W n l))), (58, I n), (59, I a)], o0 :: o1 :: ⟨3, 1, ints (fI n s.pt)⟩ :: ⟨64, 7, [.list true false n (LL (abv W n l)), .ref 0 0 n n, .ref 1 0 n n, .ref 2 0 n n, x4, I s.mt, gw true 5 (rowsC s.ps)]⟩ :: o4 :: go 42 (rowsC s.ps) :: ⟨3, 1, ints (fI m fun p => ((gAll (adjT W n l) P a).w p : Int))⟩ :: ⟨42, 1, gws 8 (fL m (gAll (adjT W n l) P a).f)⟩ :: (gos (fL m (gAll (adjT W n l) P a).f) ++ [])⟩) (fun a => n - a) 0 (by omega) ?_ ?_
  · simp only [↓RP, RG, FX, RQ, ↓reduceIte, Nat.reduceEqDiff, reduceCtorEq, Nat.reduceBEq, Nat.reduceAdd, Nat.reduceLeDiff]
    have e1 : (fI m fun p => ((gAll (adjT W n l) P 0).w p : Int)) = List.replicate m 0 := fI_const m 0
    have e2 : fL m (gAll (adjT W n l) P 0).f = List.replicate m [] := fL_nil m
    rw [e1, e2]
    exact Wk.weak (fun t => .refl _) (.app [o0, o1, _, _, o4, _, _] (.cons _ _ _ _ (WL_gws 8 m) (.nil _ (gos_nil m))))
  intro a ha
  by_cases hlt : a < n
  · have hra := LL_at (rs := abv W n l) (a := a) (by omega)
    rw [hrow a hlt] at hra
    have hal := adjT_le W n l a
    have hai : (nI (adjT W n l a)).length = (adjT W n l a).length := nI_len _
    simp (disch := first | assumption | omega | rfl | simp only [RH]) only [↓RP, RG, FX, RQ, ↓reduceIte, Nat.reduceEqDiff, reduceCtorEq, Nat.reduceBEq, Nat.reduceAdd, Nat.reduceLeDiff, hra, Int.toNat_natCast]
    refine loopK_I [3, 4, 6, 7, 8, 57, 58, 59, 64, 65, 66] (fun j : Nat => j ≤ (adjT W n l a).length) (fun j => ⟨[(3, I n), (4, .ptr 3 0 7), (6, .ref 6 0 m m), (7, .ref 7 0 m m), (8, I a), (57, .list true false n (LL (abv W n l))), (58, I n), (59, I a), (64, LR (nI (adjT W n l a)).isEmpty (nI (adjT W n l a))), (65, I (adjT W n l a).length), (66, I j)], o0 :: o1 :: ⟨3, 1, ints (fI n s.pt)⟩ :: ⟨64, 7, [.list true false n (LL (abv W n l)), .ref 0 0 n n, .ref 1 0 n n, .ref 2 0 n n, x4, I s.mt, gw true 5 (rowsC s.ps)]⟩ :: o4 :: go 42 (rowsC s.ps) :: ⟨3, 1, ints (fI m fun p => ((gRow (adjT W n l) P a (gAll (adjT W n l) P a) j).w p : Int))⟩ :: ⟨42, 1, gws 8 (fL m (gRow (adjT W n l) P a (gAll (adjT W n l) P a) j).f)⟩ :: (gos (fL m (gRow (adjT W n l) P a (gAll (adjT W n l) P a) j).f) ++ [])⟩) (fun j => (adjT W n l a).length - j) 0 (by omega) (by simp only [↓RP, RG, FX, RQ, ↓reduceIte, Nat.reduceEqDiff, reduceCtorEq, Nat.reduceBEq, Nat.reduceAdd, Nat.reduceLeDiff, hai]; rw [gRow_zero]; rfl) ?_
    intro j hj
    by_cases hlt2 : j < (adjT W n l a).length
    · obtain ⟨c, hc⟩ : ∃ c, (adjT W n l a)[j]? = some c := ⟨_, List.getElem?_eq_getElem hlt2⟩
      have hcn : c < n := adjT_lt (List.mem_of_getElem? hc)
      have hgc : (nI (adjT W n l a)).getD j 0 = (c : Int) := by simp [nI, List.getD_eq_getElem?_getD, hc]
      obtain ⟨_, hbd⟩ := (hgi a ha).2 hlt j hj
      have hnx := gRow_succ (P := P) (s := gAll (adjT W n l) P a) hc
      generalize gRow (adjT W n l) P a (gAll (adjT W n l) P a) j = t at *
      have hsq : a * n + j ≤ 64 * 64 + 64 := by
        have : a * n ≤ 64 * 64 := Nat.mul_le_mul (by omega) (by omega)
        omega
      have m3 := fI_len n s.pt
      have m4 := fI_len m fun p => (t.w p : Int)
      have gpa : (fI n s.pt).getD a 0 = (P a : Int) := by rw [fI_get hlt, hPt a hlt]
      have gpc : (fI n s.pt).getD c 0 = (P c : Int) := by rw [fI_get hcn, hPt c hcn]
      have hpa := hPm a hlt
      have hpc := hPm c hcn
      have gwp : (fI m fun p => (t.w p : Int)).getD (P a) 0 = (t.w (P a) : Int) := fI_get hpa
      have hwb := (hbd (P a)).2
      have hfb := (hbd (P c)).1
      have hfl := fL_len m t.f
      have gl : (gws 8 (fL m t.f)).length = m := by rw [gws_len, hfl]
      have a1 := gws_at (k := 8) (rs := fL m t.f) (a := P c) (by omega)
      rw [fL_get hpc] at a1
      by_cases hpq : P a = P c
      · have hst : gStep t (P a) (P c) = t := by unfold gStep; rw [if_neg (fun h => h.1 hpq)]
        rw [hst] at hnx
        have hpq2 : (P a : Int) = (P c : Int) := by omega
        simp (disch := first | assumption | omega | rfl | simp only [RH]) only [↓RP, RG, FX, RQ, ↓reduceIte, Nat.reduceEqDiff, reduceCtorEq, Nat.reduceBEq, Nat.reduceAdd, Nat.reduceLeDiff, hgc, gpa, gpc, Int.toNat_natCast]
        exact ⟨j + 1, hlt2, by rw [hnx]; rfl, by omega⟩
      · have hpq2 : ¬ (P a : Int) = (P c : Int) := by omega
        have oh := h8_at (o0 := o0) (o1 := o1) (o2 := ⟨3, 1, ints (fI n s.pt)⟩) (o3 := ⟨64, 7, [.list true false n (LL (abv W n l)), .ref 0 0 n n, .ref 1 0 n n, .ref 2 0 n n, x4, I s.mt, gw true 5 (rowsC s.ps)]⟩) (o4 := o4) (o5 := go 42 (rowsC s.ps)) (o6 := ⟨3, 1, ints (fI m fun p => (t.w p : Int))⟩) (o7 := ⟨42, 1, gws 8 (fL m t.f)⟩) (rs := fL m t.f) (tl := []) (a := P c) (by omega)
        rw [fL_get hpc, List.append_nil] at oh
        have hct := contains_c (nI (t.f (P c))).isEmpty (nI (t.f (P c))) (P a) (by rw [nI_len]; omega)
        by_cases hin : P a ∈ t.f (P c)
        · have hst : gStep t (P a) (P c) = t := by unfold gStep; rw [if_neg (fun h => h.2 hin)]
          rw [hst] at hnx
          rw [decide_eq_true (mem_nI.2 hin)] at hct
          simp (disch := first | assumption | omega | rfl | simp only [RH]) only [↓RP, RG, FX, RQ, ↓reduceIte, Nat.reduceEqDiff, reduceCtorEq, Nat.reduceBEq, Nat.reduceAdd, Nat.reduceLeDiff, hgc, gpa, gpc, cA_any, a1, Int.toNat_natCast]
          refine callK_F 6 hct (by simp only [List.map_cons, List.map_nil]; rw [argOf_gwI oh]; rfl) (.inl rfl) ?_
          simp (disch := first | assumption | omega | rfl | simp only [RH]) only [↓RP, RG, FX, RQ, ↓reduceIte, Nat.reduceEqDiff, reduceCtorEq, Nat.reduceBEq, Nat.reduceAdd, Nat.reduceLeDiff]
          exact ⟨j + 1, hlt2, by rw [hnx]; rfl, by omega⟩
        · have hst : gStep t (P a) (P c) = ⟨updN t.w (P a) (t.w (P a) + 1), updN t.f (P c) (t.f (P c) ++ [P a])⟩ := by unfold gStep; rw [if_pos ⟨hpq, hin⟩]
          rw [hst] at hnx
          rw [decide_eq_false (fun h => hin (mem_nI.1 h))] at hct
          have hil : (nI (t.f (P c))).length ≤ 1000000000 := by rw [nI_len]; omega
          have t1 : ∀ p0 p1 p2 p3 p4 p5 p6 p7 : AObj, (p0 :: p1 :: p2 :: p3 :: p4 :: p5 :: p6 :: p7 :: gos (fL m t.f)).set (8 + P c) (go 3 (ints (nI (t.f (P c)) ++ [(P a : Int)]))) = p0 :: p1 :: p2 :: p3 :: p4 :: p5 :: p6 :: p7 :: gos (fL m (updN t.f (P c) (t.f (P c) ++ [P a]))) := fun p0 p1 p2 p3 p4 p5 p6 p7 => by
            have := h8_set (o0 := p0) (o1 := p1) (o2 := p2) (o3 := p3) (o4 := p4) (o5 := p5) (o6 := p6) (o7 := p7) (rs := fL m t.f) (tl := []) (a := P c) (by omega) (nI (t.f (P c)) ++ [(P a : Int)])
            rw [List.append_nil, List.append_nil] at this
            rw [this, ← fL_set, nI_app2]; rfl
          have p1 : (gws 8 (fL m t.f)).set (P c) (gw true (8 + P c) (ints (nI (t.f (P c)) ++ [(P a : Int)]))) = gws 8 (fL m (updN t.f (P c) (t.f (P c) ++ [P a]))) := by
            rw [gws_set, ← fL_set, nI_app2]; rfl
          have e1 : (fI m fun p => (t.w p : Int)).set (P a) ((t.w (P a) : Int) + 1) = fI m fun p => ((updN t.w (P a) (t.w (P a) + 1) p : Nat) : Int) := by
            rw [fI_set, show (t.w (P a) : Int) + 1 = ((t.w (P a) + 1 : Nat) : Int) by omega, upd_cast]
          simp (disch := first | assumption | omega | rfl | simp only [RH]) only [↓RP, RG, FX, RQ, ↓reduceIte, Nat.reduceEqDiff, reduceCtorEq, Nat.reduceBEq, Nat.reduceAdd, Nat.reduceLeDiff, hgc, gpa, gpc, cA_any, a1, Int.toNat_natCast]
          refine callK_F 6 hct (by simp only [List.map_cons, List.map_nil]; rw [argOf_gwI oh]; rfl) (.inl rfl) ?_
          simp (disch := first | assumption | omega | rfl | simp only [RH]) only [↓RP, RG, FX, RQ, ↓reduceIte, Nat.reduceEqDiff, reduceCtorEq, Nat.reduceBEq, Nat.reduceAdd, Nat.reduceLeDiff, cA_any, a1, sX_gw, append_int, t1, p1, gwp, e1, Int.toNat_natCast]
          exact ⟨j + 1, hlt2, by rw [hnx]; rfl, by omega⟩
    · obtain rfl : (adjT W n l a).length = j := by omega
      simp (disch := first | assumption | omega | rfl | simp only [RH]) only [↓RP, RG, FX, RQ, ↓reduceIte, Nat.reduceEqDiff, reduceCtorEq, Nat.reduceBEq, Nat.reduceAdd, Nat.reduceLeDiff]
      exact ⟨a + 1, hlt, Wk.of_eq rfl, by omega⟩
  obtain rfl : n = a := by omega
  have hrc : (rowsC s.ps).length = m := by simp [rowsC, hm]
  obtain ⟨F, hFe⟩ : ∃ F, (gAll (adjT W n l) P n).f = F := ⟨_, rfl⟩
  obtain ⟨w0, hwe⟩ : ∃ w0, (gAll (adjT W n l) P n).w = w0 := ⟨_, rfl⟩
  rw [hFe, hwe] at hO
  rw [hFe] at hF hFn
  simp only [hFe, hwe]
  have hgl : (gos (fL m F)).length = m := by rw [gos_len, fL_len]
  simp (disch := first | assumption | omega | rfl | simp only [RH]) only [↓RP, RG, FX, RQ, ↓reduceIte, Nat.reduceEqDiff, reduceCtorEq, Nat.reduceBEq, Nat.reduceAdd, Nat.reduceLeDiff, make_bool, hrc, hgl, hmi]
  have hhd : ∀ a b, a < n → b < n → (hdB W n l a b = true ↔ Wy (adjT W n l) a b) := fun a b ha hb => hdB_iff ha hb
  have hoi := oAt_inv hS hhd hF hFn hO
  have hfin := oAt_all hS hhd hF hFn hO
  rw [hm] at hoi hfin
  have gl : (gws 8 (fL m F)).length = m := by rw [gws_len, fL_len]
  have fl := fL_len m F
  have t8 : ∀ (p0 p1 p2 p3 p4 p5 p6 p7 : AObj) (tl : List AObj), (p0 :: p1 :: p2 :: p3 :: p4 :: p5 :: p6 :: p7 :: (gos (fL m F) ++ tl))[m + 8]? = tl[0]? := fun _ _ _ _ _ _ _ _ _ => h8_t0 fl
  have t9 : ∀ (p0 p1 p2 p3 p4 p5 p6 p7 : AObj) (tl : List AObj), (p0 :: p1 :: p2 :: p3 :: p4 :: p5 :: p6 :: p7 :: (gos (fL m F) ++ tl))[m + 9]? = tl[1]? := fun _ _ _ _ _ _ _ _ _ => h8_t1 fl
  have s8 : ∀ (p0 p1 p2 p3 p4 p5 p6 p7 o : AObj) (tl : List AObj), (p0 :: p1 :: p2 :: p3 :: p4 :: p5 :: p6 :: p7 :: (gos (fL m F) ++ tl)).set (m + 8) o = p0 :: p1 :: p2 :: p3 :: p4 :: p5 :: p6 :: p7 :: (gos (fL m F) ++ tl.set 0 o) := fun _ _ _ _ _ _ _ _ _ _ => h8_s0 fl _
  have s9 : ∀ (p0 p1 p2 p3 p4 p5 p6 p7 o : AObj) (tl : List AObj), (p0 :: p1 :: p2 :: p3 :: p4 :: p5 :: p6 :: p7 :: (gos (fL m F) ++ tl)).set (m + 9) o = p0 :: p1 :: p2 :: p3 :: p4 :: p5 :: p6 :: p7 :: (gos (fL m F) ++ tl.set 1 o) := fun _ _ _ _ _ _ _ _ _ _ => h8_s1 fl _
  have hpos : ∀ i, i < m → 0 < (s.ps.getD i []).length := fun i hi => by
    rw [List.getD_eq_getElem?_getD, List.getElem?_eq_getElem (by omega), Option.getD_some]
    exact List.length_pos_iff.2 (hS.p2 _ (List.getElem_mem _)).1
  refine loopK_WW [4, 6, 7, 14, 15, 116, 117] (fun k : Nat => k ≤ m) (fun k => ⟨[(4, .ptr 3 0 7), (6, .ref 6 0 m m), (7, .ref 7 0 m m), (14, gw true (m + 9) (rowsC (oAt s.ps F w0 k).out)), (15, .ref (m + 8) 0 m m), (116, I m), (117, I k)], o0 :: o1 :: ⟨3, 1, ints (fI n s.pt)⟩ :: ⟨64, 7, [.list true false n (LL (abv W n l)), .ref 0 0 n n, .ref 1 0 n n, .ref 2 0 n n, x4, I s.mt, gw true 5 (rowsC s.ps)]⟩ :: o4 :: go 42 (rowsC s.ps) :: ⟨3, 1, ints (fI m fun p => (((oAt s.ps F w0 k).w) p : Int))⟩ :: ⟨42, 1, gws 8 (fL m F)⟩ :: (gos (fL m F) ++ [⟨4, 1, bools (fB m ((oAt s.ps F w0 k).D))⟩, go 42 (rowsC ((oAt s.ps F w0 k).out))])⟩) (fun k => m - k) 0 (by omega) ?_ ?_
  · simp only [↓RP, RG, FX, RQ, ↓reduceIte, Nat.reduceEqDiff, reduceCtorEq, Nat.reduceBEq, Nat.reduceAdd, Nat.reduceLeDiff]
    rw [← fB_none]
    refine Wk.weak (WE.cons _ (.refl _) (WE.cons _ (.refl _) (WE.cons _ (.refl _) (WE.cons _ (.nil _) (WE.cons _ (.refl _) (WE.cons _ (.refl _) (WE.cons _ (.refl _) WE.nil))))))) ?_
    have h9 := WO.app (o0 :: o1 :: ⟨3, 1, ints (fI n s.pt)⟩ :: ⟨64, 7, [.list true false n (LL (abv W n l)), .ref 0 0 n n, .ref 1 0 n n, .ref 2 0 n n, x4, I s.mt, gw true 5 (rowsC s.ps)]⟩ :: o4 :: go 42 (rowsC s.ps) :: ⟨3, 1, ints (fI m fun p => ((w0) p : Int))⟩ :: ⟨42, 1, gws 8 (fL m F)⟩ :: (gos (fL m F) ++ [⟨4, 1, bools (fB m (fun _ => false))⟩])) (r := []) (r' := [go 42 (rowsC [])]) (.nil _ (by simp [go, rowsC]))
    simp only [List.cons_append, List.append_assoc, List.nil_append, List.append_nil] at h9
    exact h9
  intro k hk
  obtain ⟨hok, hol, _⟩ := hoi k hk
  obtain ⟨O, hO'⟩ : ∃ O, oAt s.ps F w0 k = O := ⟨_, rfl⟩
  rw [hO'] at hok hol
  simp only [hO']
  have m5 := fI_len m fun p => (O.w p : Int)
  have m6 := fB_len m O.D
  by_cases hlt : k < m
  · obtain ⟨p, hp⟩ := hok.some hS hF (by omega)
    rw [hm] at hp
    obtain ⟨hpm, _, _⟩ := bstP_some hp
    have hnx : oAt s.ps F w0 (k + 1) = ⟨wDec O.w (F p), updN O.D p true, O.out ++ [s.ps.getD p []]⟩ := by
      show oStep s.ps F (oAt s.ps F w0 k) = _
      rw [hO']
      unfold oStep
      rw [hm, hp]
    simp (disch := first | assumption | omega | rfl | simp only [RH]) only [↓RP, RG, FX, RQ, ↓reduceIte, Nat.reduceEqDiff, reduceCtorEq, Nat.reduceBEq, Nat.reduceAdd, Nat.reduceLeDiff, sview_gw, hgs]
    refine loopK_I [4, 6, 7, 14, 15, 16, 116, 117, 121, 122] (fun i : Nat => i ≤ m) (fun i => ⟨[(4, .ptr 3 0 7), (6, .ref 6 0 m m), (7, .ref 7 0 m m), (14, gw true (m + 9) (rowsC O.out)), (15, .ref (m + 8) 0 m m), (16, I (nxV (bstP s.ps (cdW O.w O.D) i))), (116, I m), (117, I k), (121, I m), (122, I i)], o0 :: o1 :: ⟨3, 1, ints (fI n s.pt)⟩ :: ⟨64, 7, [.list true false n (LL (abv W n l)), .ref 0 0 n n, .ref 1 0 n n, .ref 2 0 n n, x4, I s.mt, gw true 5 (rowsC s.ps)]⟩ :: o4 :: go 42 (rowsC s.ps) :: ⟨3, 1, ints (fI m fun p => ((O.w) p : Int))⟩ :: ⟨42, 1, gws 8 (fL m F)⟩ :: (gos (fL m F) ++ [⟨4, 1, bools (fB m (O.D))⟩, go 42 (rowsC (O.out))])⟩) (fun i => m - i) 0 (by omega) (by simp only [↓RP, RG, FX, RQ, ↓reduceIte, Nat.reduceEqDiff, reduceCtorEq, Nat.reduceBEq, Nat.reduceAdd, Nat.reduceLeDiff, hrc]; rfl) ?_
    intro i hi
    by_cases hlt2 : i < m
    · have gdi : (fB m O.D).getD i false = O.D i := fB_get hlt2
      have gwi : (fI m fun p => (O.w p : Int)).getD i 0 = (O.w i : Int) := fI_get hlt2
      have hbs : bstP s.ps (cdW O.w O.D) (i + 1) = if (cdW O.w O.D i && btr s.ps (bstP s.ps (cdW O.w O.D) i) i) = true then some i else bstP s.ps (cdW O.w O.D) i := rfl
      have hcdd : cdW O.w O.D i = (!O.D i && decide (O.w i = 0)) := rfl
      obtain ⟨B, hB⟩ : ∃ B, bstP s.ps (cdW O.w O.D) i = B := ⟨_, rfl⟩
      rw [hB] at hbs
      simp only [hB]
      by_cases hd : O.D i = true
      · have hnx2 : bstP s.ps (cdW O.w O.D) (i + 1) = B := by rw [hbs, hcdd, hd]; rfl
        have gd : (fB m O.D).getD i false = true := by rw [gdi, hd]
        simp (disch := first | assumption | omega | rfl | simp only [RH]) only [↓RP, RG, FX, RQ, ↓reduceIte, Nat.reduceEqDiff, reduceCtorEq, Nat.reduceBEq, Nat.reduceAdd, Nat.reduceLeDiff, t8, gd, Int.toNat_natCast]
        exact ⟨i + 1, hlt2, by rw [hnx2]; rfl, by omega⟩
      · have hd' : O.D i = false := by simpa using hd
        have gd : (fB m O.D).getD i false = false := by rw [gdi, hd']
        by_cases hw : O.w i = 0
        · have hw2 : (fI m fun p => (O.w p : Int)).getD i 0 = 0 := by rw [gwi, hw]; rfl
          have hcd : cdW O.w O.D i = true := by rw [hcdd, hd', hw]; rfl
          have hri := rowsC_at (ps := s.ps) (i := i) (by omega)
          cases B with
          | none =>
            have hnx2 : bstP s.ps (cdW O.w O.D) (i + 1) = some i := by rw [hbs, hcd]; rfl
            simp only [nxV]
            simp (disch := first | assumption | omega | rfl | simp only [RH]) only [↓RP, RG, FX, RQ, ↓reduceIte, Nat.reduceEqDiff, reduceCtorEq, Nat.reduceBEq, Nat.reduceAdd, Nat.reduceLeDiff, t8, gd, hw2, Int.toNat_natCast]
            exact ⟨i + 1, hlt2, by rw [hnx2]; rfl, by omega⟩
          | some p' =>
            obtain ⟨hpi, _, _⟩ := bstP_some hB
            have hrp := rowsC_at (ps := s.ps) (i := p') (by omega)
            have hni := hpos i (by omega)
            have hnp := hpos p' (by omega)
            have hgi2 := hdL_nI hni
            have hgp2 := hdL_nI hnp
            have hz0 : Int.toNat 0 = 0 := rfl
            have hli : (nI (s.ps.getD i [])).length = (s.ps.getD i []).length := nI_len _
            have hlp : (nI (s.ps.getD p' [])).length = (s.ps.getD p' []).length := nI_len _
            by_cases hc : hdL (s.ps.getD i []) < hdL (s.ps.getD p' [])
            · have hnx2 : bstP s.ps (cdW O.w O.D) (i + 1) = some i := by
                rw [hbs, hcd, if_pos]
                simp only [btr, Bool.true_and, decide_eq_true_eq]; exact hc
              simp only [nxV]
              generalize s.ps.getD i [] = qi at *
              generalize s.ps.getD p' [] = qp at *
              simp (disch := first | assumption | omega | rfl | simp only [RH]) only [↓RP, RG, FX, RQ, ↓reduceIte, Nat.reduceEqDiff, reduceCtorEq, Nat.reduceBEq, Nat.reduceAdd, Nat.reduceLeDiff, t8, gd, hw2, hri, hrp, hgi2, hgp2, hz0, sview_gw, hgs, Int.toNat_natCast]
              exact ⟨i + 1, hlt2, by rw [hnx2]; rfl, by omega⟩
            · have hnx2 : bstP s.ps (cdW O.w O.D) (i + 1) = some p' := by
                rw [hbs, hcd, if_neg]
                simp only [btr, Bool.true_and, decide_eq_true_eq]; exact hc
              simp only [nxV]
              generalize s.ps.getD i [] = qi at *
              generalize s.ps.getD p' [] = qp at *
              simp (disch := first | assumption | omega | rfl | simp only [RH]) only [↓RP, RG, FX, RQ, ↓reduceIte, Nat.reduceEqDiff, reduceCtorEq, Nat.reduceBEq, Nat.reduceAdd, Nat.reduceLeDiff, t8, gd, hw2, hri, hrp, hgi2, hgp2, hz0, sview_gw, hgs, Int.toNat_natCast]
              exact ⟨i + 1, hlt2, by rw [hnx2]; rfl, by omega⟩
        · have hw2 : ¬ (fI m fun p => (O.w p : Int)).getD i 0 = 0 := by rw [gwi]; omega
          have hnx2 : bstP s.ps (cdW O.w O.D) (i + 1) = B := by rw [hbs, hcdd, hd', decide_eq_false hw]; rfl
          simp (disch := first | assumption | omega | rfl | simp only [RH]) only [↓RP, RG, FX, RQ, ↓reduceIte, Nat.reduceEqDiff, reduceCtorEq, Nat.reduceBEq, Nat.reduceAdd, Nat.reduceLeDiff, t8, gd, hw2, Int.toNat_natCast]
          exact ⟨i + 1, hlt2, by rw [hnx2]; rfl, by omega⟩
    · obtain rfl : m = i := by omega
      rw [hp]
      simp only [nxV]
      have gp : (fB m O.D).set p true = fB m (updN O.D p true) := fB_set true
      have a1 := gws_at (k := 8) (rs := fL m F) (a := p) (by omega)
      rw [fL_get hpm] at a1
      have oh : ∀ (p0 p1 p2 p3 p4 p5 p6 p7 : AObj) (tl : List AObj), (p0 :: p1 :: p2 :: p3 :: p4 :: p5 :: p6 :: p7 :: (gos (fL m F) ++ tl))[8 + p]? = some (go 3 (ints (nI (F p)))) := fun p0 p1 p2 p3 p4 p5 p6 p7 tl => by
        have := h8_at (o0 := p0) (o1 := p1) (o2 := p2) (o3 := p3) (o4 := p4) (o5 := p5) (o6 := p6) (o7 := p7) (rs := fL m F) (tl := tl) (a := p) (by omega)
        rw [fL_get hpm] at this
        exact this
      have hfl : (F p).length ≤ 64 * 64 := by
        have h1 := ((hgi n (Nat.le_refl _)).1.2 p).1
        rw [hFe] at h1
        exact Nat.le_trans h1 (Nat.mul_le_mul hn64 hn64)
      have hfl2 := nI_len (F p)
      have hpm2 : p ≤ 64 := by omega
      simp (disch := first | assumption | omega | rfl | simp only [RH]) only [↓RP, RG, FX, RQ, ↓reduceIte, Nat.reduceEqDiff, reduceCtorEq, Nat.reduceBEq, Nat.reduceAdd, Nat.reduceLeDiff, t8, s8, gp, cA_any, a1, oh, Int.toNat_natCast]
      obtain ⟨D1, hD1⟩ : ∃ D1, updN O.D p true = D1 := ⟨_, rfl⟩
      simp only [hD1] at hnx ⊢
      have hOw : ∀ r, O.w r ≤ m := fun r => by
        rw [hok.o1, hm]
        exact Nat.le_trans List.countP_le_length (by simp)
      have hwr : ∀ i r, (F p)[i]? = some r → r < m ∧ 1 ≤ wDec O.w ((F p).take i) r ∧ wDec O.w ((F p).take i) r ≤ m := fun i r hr => by
        have hmem := List.mem_of_getElem? hr
        have hl := (hF r p).1 hmem
        have h2 := (hS.lies_lt hl).2
        have hnd := hFn p
        obtain ⟨hil, he⟩ := List.getElem?_eq_some_iff.1 hr
        have hnt : ¬ r ∈ (F p).take i := fun h => by
          obtain ⟨j, hj, hje⟩ := List.mem_iff_getElem.1 h
          rw [List.getElem_take] at hje
          rw [List.length_take] at hj
          exact List.pairwise_iff_getElem.1 hnd j i _ _ (by omega) (hje.trans he.symm)
        rw [wDec_get ((List.take_sublist _ _).nodup hnd), if_neg hnt]
        refine ⟨by omega, ?_, hOw r⟩
        rw [hok.o1]
        refine List.countP_pos_iff.2 ⟨p, List.mem_range.2 (by omega), ?_⟩
        have hcp := (bstP_some hp).2.1
        unfold cdW at hcp
        rw [Bool.and_eq_true] at hcp ⊢
        exact ⟨hcp.1, decide_eq_true hmem⟩
      refine loopK_I [4, 6, 7, 14, 15, 16, 116, 117, 166, 167, 168] (fun i : Nat => i ≤ (F p).length) (fun i => ⟨[(4, .ptr 3 0 7), (6, .ref 6 0 m m), (7, .ref 7 0 m m), (14, gw true (m + 9) (rowsC O.out)), (15, .ref (m + 8) 0 m m), (16, I p), (116, I m), (117, I k), (166, gw true (8 + p) (ints (nI (F p)))), (167, I (F p).length), (168, I i)], o0 :: o1 :: ⟨3, 1, ints (fI n s.pt)⟩ :: ⟨64, 7, [.list true false n (LL (abv W n l)), .ref 0 0 n n, .ref 1 0 n n, .ref 2 0 n n, x4, I s.mt, gw true 5 (rowsC s.ps)]⟩ :: o4 :: go 42 (rowsC s.ps) :: ⟨3, 1, ints (fI m fun x => ((wDec O.w ((F p).take i)) x : Int))⟩ :: ⟨42, 1, gws 8 (fL m F)⟩ :: (gos (fL m F) ++ [⟨4, 1, bools (fB m D1)⟩, go 42 (rowsC (O.out))])⟩) (fun i => (F p).length - i) 0 (by omega) (by simp only [↓RP, RG, FX, RQ, ↓reduceIte, Nat.reduceEqDiff, reduceCtorEq, Nat.reduceBEq, Nat.reduceAdd, Nat.reduceLeDiff, hfl2]; rfl) ?_
      intro i hi
      by_cases hlt3 : i < (F p).length
      · obtain ⟨r, hr⟩ : ∃ r, (F p)[i]? = some r := ⟨_, List.getElem?_eq_getElem hlt3⟩
        obtain ⟨hrm, hw1, hw2⟩ := hwr i r hr
        have hws : wDec O.w ((F p).take (i + 1)) = updN (wDec O.w ((F p).take i)) r (wDec O.w ((F p).take i) r - 1) := by
          unfold wDec
          rw [List.take_add_one, hr, Option.toList_some, List.foldl_append]; rfl
        generalize wDec O.w ((F p).take i) = w at *
        have hgr : (nI (F p)).getD i 0 = (r : Int) := by simp [nI, List.getD_eq_getElem?_getD, hr]
        have gw0 : (fI m fun x => (w x : Int)).getD r 0 = (w r : Int) := fI_get hrm
        have m7 := fI_len m fun x => (w x : Int)
        have e1 : (fI m fun x => (w x : Int)).set r ((w r : Int) - 1) = fI m fun x => ((updN w r (w r - 1) x : Nat) : Int) := by
          rw [fI_set, show (w r : Int) - 1 = ((w r - 1 : Nat) : Int) by omega, upd_cast]
        have hix : (i : Int) < ((ints (nI (F p))).length : Int) := by rw [ints_length, hfl2]; omega
        have hcA : cA (some (go 3 (ints (nI (F p))))) (nI (F p)).length = some (ints (nI (F p))) := cA_go (ints_length _)
        simp (disch := first | assumption | omega | rfl | simp only [RH]) only [↓RP, RG, FX, RQ, ↓reduceIte, Nat.reduceEqDiff, reduceCtorEq, Nat.reduceBEq, Nat.reduceAdd, Nat.reduceLeDiff, idx_gw, cA_any, hcA, oh, hgr, gw0, e1, Int.toNat_natCast]
        exact ⟨i + 1, hlt3, by rw [hws]; rfl, by omega⟩
      · obtain rfl : (F p).length = i := by omega
        rw [List.take_length]
        have hrp := rowsC_at (ps := s.ps) (i := p) (by omega)
        have hro : rowsC O.out ++ [AVal.list true false (nI (s.ps.getD p [])).length (ints (nI (s.ps.getD p [])))] = rowsC (O.out ++ [s.ps.getD p []]) := by simp [rowsC]
        have hap : ∀ p0 p1 p2 p3 p4 p5 p6 p7 tt : AObj, aAppend Try.prog 27 (p0 :: p1 :: p2 :: p3 :: p4 :: p5 :: p6 :: p7 :: (gos (fL m F) ++ [tt, go 42 (rowsC O.out)])) (gw true (m + 9) (rowsC O.out)) (.lit 1 [.list true false (nI (s.ps.getD p [])).length (ints (nI (s.ps.getD p [])))]) = some (gw true (m + 9) (rowsC (O.out ++ [s.ps.getD p []])), p0 :: p1 :: p2 :: p3 :: p4 :: p5 :: p6 :: p7 :: (gos (fL m F) ++ [tt, go 42 (rowsC (O.out ++ [s.ps.getD p []]))])) := fun p0 p1 p2 p3 p4 p5 p6 p7 tt => by
          rw [append_list (e := 42) (xs := rowsC O.out) (by rw [t9]; rfl) (by simp [rowsC, hol]; omega), s9, hro]; rfl
        simp (disch := first | assumption | omega | rfl | simp only [RH]) only [↓RP, RG, FX, RQ, ↓reduceIte, Nat.reduceEqDiff, reduceCtorEq, Nat.reduceBEq, Nat.reduceAdd, Nat.reduceLeDiff, hrp, t9, s9, hap, sview_gw, hgs, Int.toNat_natCast]
        exact ⟨k + 1, hlt, Wk.of_eq (by rw [hnx]; rfl), by omega⟩
  · obtain rfl : m = k := by omega
    rw [hO'] at hfin
    simp (disch := first | assumption | omega | rfl | simp only [RH]) only [↓RP, RG, FX, RQ, ↓reduceIte, Nat.reduceEqDiff, reduceCtorEq, Nat.reduceBEq, Nat.reduceAdd, Nat.reduceLeDiff]
    rw [resVal_1 rfl]; simp (disch := first | assumption | omega | rfl | simp only [RH]) only [↓RP, RG, FX, RQ, ↓reduceIte, Nat.reduceEqDiff, reduceCtorEq, Nat.reduceBEq, Nat.reduceAdd, Nat.reduceLeDiff, RS]
    have hgx : (gos (fL m F) ++ [⟨4, 1, bools (fB m O.D)⟩, go 42 (rowsC O.out)])[m + 1]? = some (go 42 (rowsC O.out)) := by
      rw [List.getElem?_append_right (by rw [hgl]; omega), hgl, Nat.add_sub_cancel_left]; rfl
    rw [hgx, gaR_go, rowsC_res, hfin]
    simp only [PV, PL, rowsC, List.length_map, Bool.true_and, List.isEmpty_map]
end Go.Proofs.Ytakeaicfhllmkaa

/- Chapter 11: the reference's table of what holds what. -/
set_option linter.unusedSimpArgs false
set_option linter.unusedVariables false
set_option maxRecDepth 100000
namespace Go.Proofs.Ytakeaicfhllmkaa
open Go Go.Proofs Go.AW

/-- Own rows, one after the other. -/
def rfs (k m i : Nat) : List AVal := (List.range i).map fun q => .ref (k + q) 0 m m
def bos (g : Nat → List Bool) (i : Nat) : List AObj := (List.range i).map fun q => ⟨4, 1, bools (g q)⟩
theorem rfs_len (k m i : Nat) : (rfs k m i).length = i := by simp [rfs]
theorem bos_len (g : Nat → List Bool) (i : Nat) : (bos g i).length = i := by simp [bos]
theorem rfs_succ (k m i : Nat) : rfs k m (i + 1) = rfs k m i ++ [.ref (k + i) 0 m m] := by simp [rfs, List.range_succ]
theorem bos_succ (g : Nat → List Bool) (i : Nat) : bos g (i + 1) = bos g i ++ [⟨4, 1, bools (g i)⟩] := by simp [bos, List.range_succ]
theorem bos_at {g : Nat → List Bool} {i q : Nat} (h : q < i) : (bos g i)[q]? = some ⟨4, 1, bools (g q)⟩ := by
  simp [bos, List.getElem?_map, List.getElem?_range h]
section
variable {p0 p1 : AObj} {g : Nat → List Bool} {i : Nat} {tl : List AObj}
theorem b2_end : (p0 :: p1 :: (bos g i ++ tl))[i + 2]? = tl[0]? := by
  simp only [List.getElem?_cons_succ]
  rw [List.getElem?_append_right (by rw [bos_len]; omega), bos_len, Nat.sub_self]
theorem b2_set (o : AObj) : (p0 :: p1 :: (bos g i ++ tl)).set (i + 2) o = p0 :: p1 :: (bos g i ++ tl.set 0 o) := by
  simp only [List.set_cons_succ]
  rw [List.set_append_right _ _ (by rw [bos_len]; omega), bos_len, Nat.sub_self]
end
theorem table_c {W H n : Nat} (hN : W + H = n) (hW0 : 0 < W) (hn64 : n ≤ 64) (b : Bool) {l : List Bool} (hn : l.length = W * H) : Contract Try.prog 34 [GA W H b l] (.list true false n ((List.range n).map fun a => .list true false n (bools (fB n (hdB W n l a))))) := by
  have hNi : ((W : Int) + (H : Int)).toNat = n := by omega
  have hNc : (W : Int) + (H : Int) = (n : Int) := by omega
  refine Contract.intro (effS [] false) 6 follows Try.func34 rfl rfl (by kernel_rfl) (Nat.le_of_ble_eq_true rfl) ?_
  simp (disch := first | assumption | omega | rfl | simp only [RH]) only [↓RP, RG, FX, RQ, ↓reduceIte, Nat.reduceEqDiff, reduceCtorEq, Nat.reduceBEq, Nat.reduceAdd, Nat.reduceLeDiff, args0_1]
  refine callK_F 6 (threads_c W H b l (by omega) (by omega)) (by simp (disch := first | assumption | omega | rfl | simp only [RH]) only [↓RP, RG, FX, RQ, ↓reduceIte, Nat.reduceEqDiff, reduceCtorEq, Nat.reduceBEq, Nat.reduceAdd, Nat.reduceLeDiff, RA] <;> rfl) (.inl (by simp [allFresh, ints_fresh, bools_fresh])) ?_
  simp (disch := first | assumption | omega | rfl | simp only [RH]) only [↓RP, RG, FX, RQ, ↓reduceIte, Nat.reduceEqDiff, reduceCtorEq, Nat.reduceBEq, Nat.reduceAdd, Nat.reduceLeDiff, hNc]
  refine loopK_WW [1, 3, 4, 5] (fun a : Nat => a ≤ n) (fun a => ⟨[(1, .ptr 0 0 3), (3, I n), (4, gw true 1 (rfs 2 n a)), (5, I a)], ⟨24, 3, [I W, I H, BA b l]⟩ :: go 22 (rfs 2 n a) :: bos (fun x => fB n (hdB W n l x)) a⟩) (fun a => n - a) 0 (by omega) ?_ ?_
  · simp only [↓RP, RG, FX, RQ, ↓reduceIte, Nat.reduceEqDiff, reduceCtorEq, Nat.reduceBEq, Nat.reduceAdd, Nat.reduceLeDiff]
    exact Wk.weak (WE.cons _ (.refl _) (WE.cons _ (.refl _) (WE.cons _ (.nil _) (WE.cons _ (.refl _) WE.nil)))) (.app [_] (.nil _ (by simp [go, rfs, bos])))
  intro a ha
  have hrl := rfs_len 2 n a
  have hbl := bos_len (fun x => fB n (hdB W n l x)) a
  by_cases hlt : a < n
  · have hsl := srch_len (W := W) l hlt
    have hdd : ∀ x, hdB W n l a x = decide (0 ≤ (srch (adjT W n l) (far0 n a) [a]).getD x 0) := fun x => rfl
    simp (disch := first | assumption | omega | rfl | simp only [RH]) only [↓RP, RG, FX, RQ, ↓reduceIte, Nat.reduceEqDiff, reduceCtorEq, Nat.reduceBEq, Nat.reduceAdd, Nat.reduceLeDiff]
    refine callK_F 6 (steps_c hN (by omega) (by omega) b hn hlt) (by simp (disch := first | assumption | omega | rfl | simp only [RH]) only [↓RP, RG, FX, RQ, ↓reduceIte, Nat.reduceEqDiff, reduceCtorEq, Nat.reduceBEq, Nat.reduceAdd, Nat.reduceLeDiff, RA] <;> rfl) (.inl (by simp [allFresh, ints_fresh, bools_fresh])) ?_
    have hro := rfs_succ 2 n a
    have hbo := bos_succ (fun x => fB n (hdB W n l x)) a
    generalize srch (adjT W n l) (far0 n a) [a] = far at *
    have e0 : List.replicate n false = fB n fun x => decide (x < 0) && hdB W n l a x := by
      rw [← fB_none]; simp [fB]
    have lk : ∀ (p0 p1 : AObj) (tl : List AObj), (p0 :: p1 :: (bos (fun x => fB n (hdB W n l x)) a ++ tl))[a + 2]? = tl[0]? := fun _ _ _ => b2_end
    have st : ∀ (p0 p1 o : AObj) (tl : List AObj), (p0 :: p1 :: (bos (fun x => fB n (hdB W n l x)) a ++ tl)).set (a + 2) o = p0 :: p1 :: (bos (fun x => fB n (hdB W n l x)) a ++ tl.set 0 o) := fun _ _ _ _ => b2_set _
    simp (disch := first | assumption | omega | rfl | simp only [RH]) only [↓RP, RG, FX, RQ, ↓reduceIte, Nat.reduceEqDiff, reduceCtorEq, Nat.reduceBEq, Nat.reduceAdd, Nat.reduceLeDiff, make_bool, hNi, hbl, Int.toNat_natCast, e0]
    refine loopK_I [1, 3, 4, 5, 6, 7, 8] (fun j : Nat => j ≤ n) (fun j => ⟨[(1, .ptr 0 0 3), (3, I n), (4, gw true 1 (rfs 2 n a)), (5, I a), (6, LR false far), (7, .ref (a + 2) 0 n n), (8, I j)], ⟨24, 3, [I W, I H, BA b l]⟩ :: go 22 (rfs 2 n a) :: (bos (fun x => fB n (hdB W n l x)) a ++ [⟨4, 1, bools (fB n fun x => decide (x < j) && hdB W n l a x)⟩])⟩) (fun j => n - j) 0 (by omega) (by simp only [↓RP, RG, FX, RQ, ↓reduceIte, Nat.reduceEqDiff, reduceCtorEq, Nat.reduceBEq, Nat.reduceAdd, Nat.reduceLeDiff]; rfl) ?_
    intro j hj
    have hfl := fB_len n fun x => decide (x < j) && hdB W n l a x
    by_cases hlt2 : j < n
    · have e1 : (fB n fun x => decide (x < j) && hdB W n l a x).set j (decide (0 ≤ far.getD j 0)) = fB n fun x => decide (x < j + 1) && hdB W n l a x := by
        rw [← hdd, fB_set]
        congr 1
        funext x
        by_cases hx : x = j
        · subst hx; rw [updN_same]; simp
        · rw [updN_other _ _ hx]
          congr 1
          exact decide_eq_decide.2 (by omega)
      simp (disch := first | assumption | omega | rfl | simp only [RH]) only [↓RP, RG, FX, RQ, ↓reduceIte, Nat.reduceEqDiff, reduceCtorEq, Nat.reduceBEq, Nat.reduceAdd, Nat.reduceLeDiff, lk, st, e1, Int.toNat_natCast]
      exact ⟨j + 1, hlt2, rfl, by omega⟩
    · obtain rfl : n = j := by omega
      have e2 : (fB n fun x => decide (x < n) && hdB W n l a x) = fB n (hdB W n l a) := by
        unfold fB
        exact List.map_congr_left fun x hx => by simp [List.mem_range.1 hx]
      rw [e2]
      have hap : ∀ (p0 : AObj) (tt : List AObj), aAppend Try.prog 67 (p0 :: go 22 (rfs 2 n a) :: tt) (gw true 1 (rfs 2 n a)) (.lit 1 [.ref (a + 2) 0 n n]) = some (gw true 1 (rfs 2 n (a + 1)), p0 :: go 22 (rfs 2 n (a + 1)) :: tt) := fun p0 tt => by
        rw [append_one (e := 22) (xs := rfs 2 n a) rfl rfl (by omega) (by omega), hro, Nat.add_comm a 2]; rfl
      have h1 : allOne [AVal.ref (a + 2) 0 n n] = some [AVal.ref (a + 2) 0 n n] := rfl
      simp (disch := first | assumption | omega | rfl | simp only [RH]) only [↓RP, RG, FX, RQ, ↓reduceIte, Nat.reduceEqDiff, reduceCtorEq, Nat.reduceBEq, Nat.reduceAdd, Nat.reduceLeDiff, h1, hap]
      exact ⟨a + 1, hlt, Wk.of_eq (by rw [hbo]; rfl), by omega⟩
  · obtain rfl : n = a := by omega
    simp (disch := first | assumption | omega | rfl | simp only [RH]) only [↓RP, RG, FX, RQ, ↓reduceIte, Nat.reduceEqDiff, reduceCtorEq, Nat.reduceBEq, Nat.reduceAdd, Nat.reduceLeDiff]
    rw [resVal_1 rfl]; simp (disch := first | assumption | omega | rfl | simp only [RH]) only [↓RP, RG, FX, RQ, ↓reduceIte, Nat.reduceEqDiff, reduceCtorEq, Nat.reduceBEq, Nat.reduceAdd, Nat.reduceLeDiff, RS]
    rw [hrl]
    have he : (rfs 2 n n).isEmpty = false := by
      cases hr : rfs 2 n n with
      | nil => rw [hr] at hrl; simp at hrl; omega
      | cons => rfl
    rw [he]
    unfold rfs
    rw [List.map_map]
    refine congrArg some (congrArg (AVal.list true false n) (List.map_congr_left fun q hq => ?_))
    have hqn := List.mem_range.1 hq
    have hfq := fB_len n (hdB W n l q)
    show resOf _ 5 (.ref (2 + q) 0 n n) = _
    rw [resOf_ref, Nat.add_comm 2 q]
    simp only [List.getElem?_cons_succ, bos_at hqn]
    rw [rX_bools hfq.symm hfq.symm, hfq]
end Go.Proofs.Ytakeaicfhllmkaa

/- Chapter 11: the reference's list of the parts. -/
set_option linter.unusedSimpArgs false
set_option linter.unusedVariables false
set_option maxRecDepth 100000
namespace Go.Proofs.Ytakeaicfhllmkaa
open Go Go.Proofs Go.AW

def frB (hd : Nat → Nat → Bool) (n : Nat) (L : Nat → Bool) (a : Nat) : Bool := (List.range n).all fun b => !hd a b || L b || hd b a
/-- The table: rows of marks. -/
def tbC (p : Bool) (n : Nat) (hd : Nat → Nat → Bool) : List AVal := (List.range n).map fun a => .list p false n (bools (fB n (hd a)))
theorem tbC_at {p : Bool} {n : Nat} {hd : Nat → Nat → Bool} {a : Nat} (h : a < n) : ((tbC p n hd).drop a)[0]? = some (.list p false n (bools (fB n (hd a)))) := by
  rw [List.getElem?_drop, Nat.add_zero, tbC, List.getElem?_map, List.getElem?_range h]; rfl
theorem free_c {n : Nat} (hn64 : n ≤ 64) (hd : Nat → Nat → Bool) (L : Nat → Bool) (bt : Bool) {a : Nat} (ha : a < n) :
    Contract Try.prog 35 [.list false false n (tbC false n hd), .list false bt n (bools (fB n L)), I a] (B (frB hd n L a)) := by
  have ra := tbC_at (p := false) (hd := hd) ha
  have hfl := fB_len n L
  have hfa := fB_len n (hd a)
  have hst : ∀ k, (List.range (k + 1)).all (fun b => !hd a b || L b || hd b a) = ((List.range k).all (fun b => !hd a b || L b || hd b a) && (!hd a k || L k || hd k a)) := fun k => by
    rw [List.range_succ, List.all_append]; simp
  refine Contract.intro (effS [] false) 6 follows Try.func35 rfl rfl (by kernel_rfl) (Nat.le_of_ble_eq_true rfl) ?_
  simp (disch := first | assumption | omega | rfl | simp only [RH]) only [↓RP, RG, FX, RQ, ↓reduceIte, Nat.reduceEqDiff, reduceCtorEq, Nat.reduceBEq, Nat.reduceAdd, Nat.reduceLeDiff, args0_3]
  refine loopK_I [0, 1, 2, 7] (fun k : Nat => k ≤ n ∧ (List.range k).all (fun b => !hd a b || L b || hd b a) = true) (fun k => ⟨[(0, .list false false n (tbC false n hd)), (1, .list false bt n (bools (fB n L))), (2, I a), (7, I k)], []⟩) (fun k => n - k) 0 (by simp) (by simp only [↓RP, RG, FX, RQ, ↓reduceIte, Nat.reduceEqDiff, reduceCtorEq, Nat.reduceBEq, Nat.reduceAdd, Nat.reduceLeDiff]; rfl) ?_
  rintro k ⟨hk, hall⟩
  by_cases hlt : k < n
  · have rk := tbC_at (p := false) (hd := hd) hlt
    have hfk := fB_len n (hd k)
    have g1 : (fB n (hd a)).getD k false = hd a k := fB_get hlt
    have g2 : (fB n L).getD k false = L k := fB_get hlt
    have g3 : (fB n (hd k)).getD a false = hd k a := fB_get ha
    have hnx := hst k
    rw [hall, Bool.true_and] at hnx
    cases c1 : hd a k with
    | false =>
      rw [c1] at g1
      simp (disch := first | assumption | omega | rfl | simp only [RH]) only [↓RP, RG, FX, RQ, ↓reduceIte, Nat.reduceEqDiff, reduceCtorEq, Nat.reduceBEq, Nat.reduceAdd, Nat.reduceLeDiff, ra, rk, g1, Int.toNat_natCast]
      exact ⟨k + 1, ⟨hlt, by rw [hnx, c1]; rfl⟩, rfl, by omega⟩
    | true =>
      rw [c1] at g1
      cases c2 : L k with
      | true =>
        rw [c2] at g2
        simp (disch := first | assumption | omega | rfl | simp only [RH]) only [↓RP, RG, FX, RQ, ↓reduceIte, Nat.reduceEqDiff, reduceCtorEq, Nat.reduceBEq, Nat.reduceAdd, Nat.reduceLeDiff, ra, rk, g1, g2, Int.toNat_natCast]
        exact ⟨k + 1, ⟨hlt, by rw [hnx, c1, c2]; rfl⟩, rfl, by omega⟩
      | false =>
        rw [c2] at g2
        cases c3 : hd k a with
        | true =>
          rw [c3] at g3
          simp (disch := first | assumption | omega | rfl | simp only [RH]) only [↓RP, RG, FX, RQ, ↓reduceIte, Nat.reduceEqDiff, reduceCtorEq, Nat.reduceBEq, Nat.reduceAdd, Nat.reduceLeDiff, ra, rk, g1, g2, g3, Int.toNat_natCast]
          exact ⟨k + 1, ⟨hlt, by rw [hnx, c1, c2, c3]; rfl⟩, rfl, by omega⟩
        | false =>
          rw [c3] at g3
          simp (disch := first | assumption | omega | rfl | simp only [RH]) only [↓RP, RG, FX, RQ, ↓reduceIte, Nat.reduceEqDiff, reduceCtorEq, Nat.reduceBEq, Nat.reduceAdd, Nat.reduceLeDiff, ra, rk, g1, g2, g3, Int.toNat_natCast]
          rw [resVal_1 rfl]; simp (disch := first | assumption | omega | rfl | simp only [RH]) only [↓RP, RG, FX, RQ, ↓reduceIte, Nat.reduceEqDiff, reduceCtorEq, Nat.reduceBEq, Nat.reduceAdd, Nat.reduceLeDiff, RS]
          have : frB hd n L a = false := by
            unfold frB
            refine Bool.eq_false_iff.2 fun h => ?_
            have := List.all_eq_true.1 h k (List.mem_range.2 hlt)
            rw [c1, c2, c3] at this; cases this
          rw [this]
  · obtain rfl : n = k := by omega
    simp (disch := first | assumption | omega | rfl | simp only [RH]) only [↓RP, RG, FX, RQ, ↓reduceIte, Nat.reduceEqDiff, reduceCtorEq, Nat.reduceBEq, Nat.reduceAdd, Nat.reduceLeDiff]
    rw [resVal_1 rfl]; simp (disch := first | assumption | omega | rfl | simp only [RH]) only [↓RP, RG, FX, RQ, ↓reduceIte, Nat.reduceEqDiff, reduceCtorEq, Nat.reduceBEq, Nat.reduceAdd, Nat.reduceLeDiff, RS]
    rw [show frB hd n L a = true from hall]
end Go.Proofs.Ytakeaicfhllmkaa

/- Chapter 11: the reference's list, part by part. Plain. -/
set_option linter.unusedSimpArgs false
set_option linter.unusedVariables false
set_option maxRecDepth 100000
namespace Go.Proofs.Ytakeaicfhllmkaa
open Go Go.Proofs Go.AW

def lSt (hd : Nat → Nat → Bool) (n : Nat) : Nat → List (List Nat) × (Nat → Bool)
  | 0 => ([], fun _ => false)
  | k + 1 => match (List.range n).find? (cnd hd n (lSt hd n k).2) with
    | none => lSt hd n k
    | some a => ((lSt hd n k).1 ++ [mtl hd n a], fun b => (lSt hd n k).2 b || (hd a b && hd b a))
def lCt (hd : Nat → Nat → Bool) (n k : Nat) : Nat := (List.range n).countP (lSt hd n k).2
theorem countP_or {α : Type} {p q : α → Bool} : ∀ (l : List α), (∀ x ∈ l, q x = true → p x = false) → l.countP (fun x => p x || q x) = l.countP p + (l.filter q).length
  | [], _ => rfl
  | x :: l, h => by
    have ih := countP_or l fun y hy => h y (List.mem_cons_of_mem _ hy)
    have hx := h x List.mem_cons_self
    cases hp : p x with
    | true =>
      cases hq : q x with
      | true => rw [hx hq] at hp; cases hp
      | false =>
        rw [List.countP_cons_of_pos (by simp [hp]), List.countP_cons_of_pos hp, List.filter_cons_of_neg (by simp [hq]), ih]; omega
    | false =>
      cases hq : q x with
      | true =>
        rw [List.countP_cons_of_pos (by simp [hq]), List.countP_cons_of_neg (by simp [hp]), List.filter_cons_of_pos hq, List.length_cons, ih]; omega
      | false =>
        rw [List.countP_cons_of_neg (by simp [hp, hq]), List.countP_cons_of_neg (by simp [hp]), List.filter_cons_of_neg (by simp [hq]), ih]
section
variable {ov : Nat → List Nat} {n : Nat} {ps : List (List Nat)} {pt : Nat → Int} {hd : Nat → Nat → Bool} {F : Nat → List Nat} {w : Nat → Nat}
theorem lSt_step (S : Scc ov n ps pt) (hhd : ∀ a b, a < n → b < n → (hd a b = true ↔ Wy ov a b)) (hF : ∀ p q, p ∈ F q ↔ lies ov pt p q) (hFn : ∀ q, (F q).Nodup) (O : OInv ov n ps pt F 0 w fun _ => false) {k : Nat} (hk : k < ps.length)
    (i1 : (lSt hd n k).1 = (oAt ps F w k).out) (i2 : ∀ b (q : Nat), pt b = (q : Int) → (lSt hd n k).2 b = (oAt ps F w k).D q) :
    (∃ a, a < n ∧ (List.range n).find? (cnd hd n (lSt hd n k).2) = some a ∧ (∀ b, b < n → hd a b = true → hd b a = true → (lSt hd n k).2 b = false) ∧ hd a a = true) ∧
    (lSt hd n (k + 1)).1 = (oAt ps F w (k + 1)).out ∧ ∀ b (q : Nat), pt b = (q : Int) → (lSt hd n (k + 1)).2 b = (oAt ps F w (k + 1)).D q := by
  obtain ⟨o1, _, _⟩ := oAt_inv S hhd hF hFn O k (by omega)
  obtain ⟨p, hp⟩ := o1.some S hF hk
  obtain ⟨a, ha, hpa, hfind⟩ := S.next_is hhd i2 o1.o2 (fun p _ => o1.cd_iff S hF) hp
  have hs : oAt ps F w (k + 1) = ⟨wDec (oAt ps F w k).w (F p), updN (oAt ps F w k).D p true, (oAt ps F w k).out ++ [ps.getD p []]⟩ := by
    show oStep ps F (oAt ps F w k) = _
    unfold oStep; rw [hp]
  have hl : lSt hd n (k + 1) = ((lSt hd n k).1 ++ [mtl hd n a], fun b => (lSt hd n k).2 b || (hd a b && hd b a)) := by
    rw [lSt, hfind]
  have hm : ∀ b, b < n → ∀ q : Nat, pt b = (q : Int) → ((hd a b && hd b a) = true ↔ q = p) := fun b hbn q hq => by
    rw [Bool.and_eq_true, hhd a b ha hbn, hhd b a hbn ha, ← S.p3 a b (by omega), hq, hpa]
    omega
  refine ⟨⟨a, ha, hfind, fun b hb h1 h2 => ?_, (hhd a a ha ha).2 (.refl a)⟩, ?_, fun b q hq => ?_⟩
  · have h0 := S.all b hb
    have hq : pt b = ((pt b).toNat : Int) := by omega
    have := (hm b hb _ hq).1 (by rw [h1, h2]; rfl)
    rw [i2 b _ hq, this]
    have := (bstP_some hp).2.1
    unfold cdW at this
    rw [Bool.and_eq_true] at this
    simpa using this.1
  · rw [hl, hs]
    show _ ++ _ = _ ++ _
    rw [i1, S.part_is hhd ha hpa]
  · have hbn : b < n := S.lt b (by omega)
    rw [hl, hs]
    show ((lSt hd n k).2 b || (hd a b && hd b a)) = updN _ p true q
    have hmm := hm b hbn q hq
    by_cases hqp : q = p
    · rw [hqp, updN_same, hmm.2 hqp]; simp
    · rw [updN_other _ _ hqp, i2 b q hq]
      have : (hd a b && hd b a) = false := by
        cases h : (hd a b && hd b a) with
        | false => rfl
        | true => exact absurd (hmm.1 h) hqp
      rw [this]; simp
theorem lSt_inv (S : Scc ov n ps pt) (hhd : ∀ a b, a < n → b < n → (hd a b = true ↔ Wy ov a b)) (hF : ∀ p q, p ∈ F q ↔ lies ov pt p q) (hFn : ∀ q, (F q).Nodup) (O : OInv ov n ps pt F 0 w fun _ => false) :
    ∀ k, k ≤ ps.length → (lSt hd n k).1 = (oAt ps F w k).out ∧ ∀ b (q : Nat), pt b = (q : Int) → (lSt hd n k).2 b = (oAt ps F w k).D q
  | 0, _ => ⟨rfl, fun _ _ _ => rfl⟩
  | k + 1, hk => by
    obtain ⟨i1, i2⟩ := lSt_inv S hhd hF hFn O k (by omega)
    exact (lSt_step S hhd hF hFn O (by omega) i1 i2).2
theorem lSt_run (S : Scc ov n ps pt) (hhd : ∀ a b, a < n → b < n → (hd a b = true ↔ Wy ov a b)) (hF : ∀ p q, p ∈ F q ↔ lies ov pt p q) (hFn : ∀ q, (F q).Nodup) (O : OInv ov n ps pt F 0 w fun _ => false) :
    (∀ k, k < ps.length → lCt hd n k < n ∧ ∃ a, a < n ∧ (List.range n).find? (cnd hd n (lSt hd n k).2) = some a ∧ hd a a = true ∧ lCt hd n (k + 1) = lCt hd n k + (mtl hd n a).length ∧ (∀ b, b < n → hd a b = true → hd b a = true → (lSt hd n k).2 b = false)) ∧
    lCt hd n ps.length = n ∧ (lSt hd n ps.length).1 = lsP hd n n fun _ => false := by
  refine ⟨fun k hk => ?_, ?_, ?_⟩
  · obtain ⟨i1, i2⟩ := lSt_inv S hhd hF hFn O k (by omega)
    obtain ⟨⟨a, ha, hf, hz, haa⟩, _⟩ := lSt_step S hhd hF hFn O hk i1 i2
    have hl : lSt hd n (k + 1) = ((lSt hd n k).1 ++ [mtl hd n a], fun b => (lSt hd n k).2 b || (hd a b && hd b a)) := by
      rw [lSt, hf]
    have hct : lCt hd n (k + 1) = lCt hd n k + (mtl hd n a).length := by
      unfold lCt
      rw [hl]
      refine countP_or _ fun x hx hq => ?_
      rw [Bool.and_eq_true] at hq
      exact hz x (List.mem_range.1 hx) hq.1 hq.2
    have hle : lCt hd n (k + 1) ≤ n := by
      unfold lCt
      exact Nat.le_trans List.countP_le_length (by simp)
    have hpos : 0 < (mtl hd n a).length := List.length_pos_iff.2 fun h => by
      have : a ∈ mtl hd n a := by rw [mtl, List.mem_filter, haa]; exact ⟨List.mem_range.2 ha, rfl⟩
      rw [h] at this; cases this
    exact ⟨by omega, a, ha, hf, haa, hct, hz⟩
  · obtain ⟨_, i2⟩ := lSt_inv S hhd hF hFn O ps.length (Nat.le_refl _)
    obtain ⟨o1, _, _⟩ := oAt_inv S hhd hF hFn O ps.length (Nat.le_refl _)
    have hall : ∀ p, p < ps.length → (oAt ps F w ps.length).D p = true := by
      have h2 : (List.range ps.length).countP (oAt ps F w ps.length).D = (List.range ps.length).length := by rw [o1.o3]; simp
      exact fun p hp => (List.countP_eq_length.1 h2) p (List.mem_range.2 hp)
    unfold lCt
    have : (List.range n).countP (lSt hd n ps.length).2 = (List.range n).length := List.countP_eq_length.2 fun b hb => by
      have hbn := List.mem_range.1 hb
      have h0 := S.all b hbn
      obtain ⟨l, h1, _⟩ := (S.p1 b (pt b).toNat).1 (by omega)
      have hlt := (List.getElem?_eq_some_iff.1 h1).1
      rw [i2 b (pt b).toNat (by omega)]
      exact hall _ hlt
    rw [this]; simp
  · rw [(lSt_inv S hhd hF hFn O ps.length (Nat.le_refl _)).1]
    exact oAt_all S hhd hF hFn O
end
end Go.Proofs.Ytakeaicfhllmkaa

/- Chapter 11: the reference's list of the parts. -/
set_option linter.unusedSimpArgs false
set_option linter.unusedVariables false
set_option maxRecDepth 100000
namespace Go.Proofs.Ytakeaicfhllmkaa
open Go Go.Proofs Go.AW

theorem lists_run (W n : Nat) (l : List Bool) : ∃ m, m ≤ n ∧ (∀ k, k < m → lCt (hdB W n l) n k < n ∧ ∃ a, a < n ∧ (List.range n).find? (cnd (hdB W n l) n (lSt (hdB W n l) n k).2) = some a ∧ hdB W n l a a = true ∧ lCt (hdB W n l) n (k + 1) = lCt (hdB W n l) n k + (mtl (hdB W n l) n a).length ∧ (∀ b, b < n → hdB W n l a b = true → hdB W n l b a = true → (lSt (hdB W n l) n k).2 b = false)) ∧
    lCt (hdB W n l) n m = n ∧ (lSt (hdB W n l) n m).1 = PL W n l := by
  have hS := tAll_scc (ov := adjT W n l) (n := n) adjT_in
  obtain ⟨hF, hFn, hO⟩ := gAll_lies hS (m := (tAll (adjT W n l) n n).ps.length) rfl adjT_in (fun a _ => adjT_le W n l a)
  have h := lSt_run hS (fun a b ha hb => hdB_iff ha hb) hF hFn hO
  exact ⟨_, hS.len_le, h.1, h.2.1, h.2.2⟩
theorem tbC_arg (h : List AObj) (k : Nat) (p : Bool) (n : Nat) (hd : Nat → Nat → Bool) : (tbC p n hd).map (argOf h (k + 2)) = tbC false n hd := by
  unfold tbC
  rw [List.map_map]
  refine List.map_congr_left fun a _ => ?_
  simp [argOf_list, bools_arg]
theorem tbC_fresh (k n : Nat) (hd : Nat → Nat → Bool) : ∀ x, x ∈ tbC true n hd → allFresh (k + 2) x = true := by
  intro x hx
  obtain ⟨r, _, rfl⟩ := List.mem_map.1 hx
  simp [allFresh, bools_fresh]
theorem gws_snoc (k : Nat) (rs : List (List Int)) (r : List Int) : gws k (rs ++ [r]) = gws k rs ++ [gw true (k + rs.length) (ints r)] := by
  simp [gws, List.mapIdx_append]
theorem gos_snoc (rs : List (List Int)) (r : List Int) : gos (rs ++ [r]) = gos rs ++ [go 3 (ints r)] := by simp [gos]
section
variable {p0 p1 p2 : AObj} {rs : List (List Int)} {i : Nat} {tl : List AObj}
theorem g3_end (h : rs.length = i) : (p0 :: p1 :: p2 :: (gos rs ++ tl))[i + 3]? = tl[0]? := by
  simp only [List.getElem?_cons_succ]
  rw [List.getElem?_append_right (by rw [gos_len]; omega), gos_len, h, Nat.sub_self]
theorem g3_set (h : rs.length = i) (o : AObj) : (p0 :: p1 :: p2 :: (gos rs ++ tl)).set (i + 3) o = p0 :: p1 :: p2 :: (gos rs ++ tl.set 0 o) := by
  simp only [List.set_cons_succ]
  rw [List.set_append_right _ _ (by rw [gos_len]; omega), gos_len, h, Nat.sub_self]
end
def rwI (ps : List (List Nat)) : List (List Int) := ps.map nI
theorem cnd_free (hd : Nat → Nat → Bool) (n : Nat) (L : Nat → Bool) (a : Nat) : cnd hd n L a = (!L a && frB hd n L a) := rfl
theorem lSt_len {hd : Nat → Nat → Bool} {n m : Nat} (h : ∀ k, k < m → ∃ a, (List.range n).find? (cnd hd n (lSt hd n k).2) = some a) : ∀ k, k ≤ m → (lSt hd n k).1.length = k
  | 0, _ => rfl
  | k + 1, hk => by
    obtain ⟨a, ha⟩ := h k (by omega)
    rw [lSt, ha]
    show ((lSt hd n k).1 ++ [mtl hd n a]).length = _
    rw [List.length_append, lSt_len h k (by omega)]; rfl
theorem lSt_ne {hd : Nat → Nat → Bool} {n m : Nat} (h : ∀ k, k < m → ∃ a, a < n ∧ (List.range n).find? (cnd hd n (lSt hd n k).2) = some a ∧ hd a a = true) : ∀ k, k ≤ m → ∀ r ∈ (lSt hd n k).1, r ≠ []
  | 0, _, r, hr => by cases hr
  | k + 1, hk, r, hr => by
    obtain ⟨a, ha0, ha, haa⟩ := h k (by omega)
    rw [lSt, ha] at hr
    rcases List.mem_append.1 (show r ∈ (lSt hd n k).1 ++ [mtl hd n a] from hr) with h1 | h1
    · exact lSt_ne h k (by omega) r h1
    · rw [List.mem_singleton.1 h1]
      intro he
      have : a ∈ mtl hd n a := by rw [mtl, List.mem_filter, haa]; exact ⟨List.mem_range.2 ha0, rfl⟩
      rw [he] at this; cases this
theorem LL_rwI {ps : List (List Nat)} (h : ∀ r ∈ ps, r ≠ []) : LL (rwI ps) = rowsC ps := by
  unfold LL rwI rowsC
  rw [List.map_map]
  refine List.map_congr_left fun r hr => ?_
  have : (nI r).isEmpty = false := by
    cases r with
    | nil => exact absurd rfl (h [] hr)
    | cons => rfl
  show LR (nI r).isEmpty (nI r) = _
  rw [this]
theorem argOf_refB {h : List AObj} {i n ty k : Nat} {l : List Bool} (ho : h[i]? = some ⟨ty, 1, bools l⟩) (hl : l.length = n) : argOf h (k + 2) (.ref i 0 n n) = .list false false n (bools l) := by
  rw [argOf_ref, ho, aX_bools hl.symm hl.symm, hl]
theorem listed_c {W H n : Nat} (hN : W + H = n) (hW0 : 0 < W) (hn64 : n ≤ 64) (b : Bool) {l : List Bool} (hn : l.length = W * H) : Contract Try.prog 22 [GA W H b l] (PV (PL W n l)) := by
  obtain ⟨m, hmn, hst, hcm, hfin⟩ := lists_run W n l
  have hlen := lSt_len (m := m) (fun k hk => (hst k hk).2.imp fun a h => h.2.1)
  have hne := lSt_ne (m := m) (fun k hk => (hst k hk).2.imp fun a h => ⟨h.1, h.2.1, h.2.2.1⟩) m (Nat.le_refl _)
  rw [hfin] at hne
  have htb : Contract Try.prog 34 [GA W H b l] (.list true false n (tbC true n (hdB W n l))) := table_c hN hW0 hn64 b hn
  generalize hdB W n l = hd at *
  have hnn : (n : Int).toNat = n := Int.toNat_natCast n
  refine Contract.intro (effS [] false) 6 follows Try.func22 rfl rfl (by kernel_rfl) (Nat.le_of_ble_eq_true rfl) ?_
  simp (disch := first | assumption | omega | rfl | simp only [RH]) only [↓RP, RG, FX, RQ, ↓reduceIte, Nat.reduceEqDiff, reduceCtorEq, Nat.reduceBEq, Nat.reduceAdd, Nat.reduceLeDiff, args0_1]
  refine callK_F 6 htb (by simp (disch := first | assumption | omega | rfl | simp only [RH]) only [↓RP, RG, FX, RQ, ↓reduceIte, Nat.reduceEqDiff, reduceCtorEq, Nat.reduceBEq, Nat.reduceAdd, Nat.reduceLeDiff, RA] <;> rfl) (.inl (by simp [allFresh]; exact tbC_fresh 3 n hd)) ?_
  simp (disch := first | assumption | omega | rfl | simp only [RH]) only [↓RP, RG, FX, RQ, ↓reduceIte, Nat.reduceEqDiff, reduceCtorEq, Nat.reduceBEq, Nat.reduceAdd, Nat.reduceLeDiff, make_bool, hnn]
  refine loopK_WW [3, 4, 5, 6] (fun k : Nat => k ≤ m) (fun k => ⟨[(3, .list true false n (tbC true n hd)), (4, .ref 1 0 n n), (5, gw true 2 (gws 3 (rwI (lSt hd n k).1))), (6, I (lCt hd n k))], ⟨24, 3, [I W, I H, BA b l]⟩ :: ⟨4, 1, bools (fB n (lSt hd n k).2)⟩ :: go 42 (gws 3 (rwI (lSt hd n k).1)) :: gos (rwI (lSt hd n k).1)⟩) (fun k => m - k) 0 (by omega) ?_ ?_
  · simp only [↓RP, RG, FX, RQ, ↓reduceIte, Nat.reduceEqDiff, reduceCtorEq, Nat.reduceBEq, Nat.reduceAdd, Nat.reduceLeDiff]
    have e0 : fB n (lSt hd n 0).2 = List.replicate n false := fB_none n
    have e1 : lCt hd n 0 = 0 := by unfold lCt; rw [lSt]; simp
    rw [e0, e1]
    exact Wk.weak (WE.cons _ (.refl _) (WE.cons _ (.refl _) (WE.cons _ (.nil _) (WE.cons _ (.refl _) WE.nil)))) (.app [_, _] (.nil _ (by simp [go, rwI, lSt, gws, gos])))
  intro k hk
  have hlk := hlen k hk
  have hrl : (rwI (lSt hd n k).1).length = k := by simp [rwI, hlk]
  have hrg : (gws 3 (rwI (lSt hd n k).1)).length = k := by rw [gws_len, hrl]
  have hro : (gos (rwI (lSt hd n k).1)).length = k := by rw [gos_len, hrl]
  by_cases hlt : k < m
  · obtain ⟨hcl, a0, ha0, hf, haa, hcn, _⟩ := hst k hlt
    have hns : lSt hd n (k + 1) = ((lSt hd n k).1 ++ [mtl hd n a0], fun b => (lSt hd n k).2 b || (hd a0 b && hd b a0)) := by
      rw [lSt, hf]
    obtain ⟨hf1, _, hf2⟩ := List.find?_range_eq_some.1 hf
    obtain ⟨L, hL⟩ : ∃ L, (lSt hd n k).2 = L := ⟨_, rfl⟩
    obtain ⟨c, hc⟩ : ∃ c, lCt hd n k = c := ⟨_, rfl⟩
    rw [hL] at hns hf1 hf2
    rw [hc] at hcl hcn
    simp only [hL, hc]
    have hlL := fB_len n L
    have hfr : ∀ x, x < n → Contract Try.prog 35 [.list false false n (tbC false n hd), .list false false n (bools (fB n L)), I x] (B (frB hd n L x)) := fun x hx => free_c hn64 hd L false hx
    simp (disch := first | assumption | omega | rfl | simp only [RH]) only [↓RP, RG, FX, RQ, ↓reduceIte, Nat.reduceEqDiff, reduceCtorEq, Nat.reduceBEq, Nat.reduceAdd, Nat.reduceLeDiff]
    refine loopK_I [3, 4, 5, 6, 7] (fun x : Nat => x ≤ a0) (fun x => ⟨[(3, .list true false n (tbC true n hd)), (4, .ref 1 0 n n), (5, gw true 2 (gws 3 (rwI (lSt hd n k).1))), (6, I c), (7, I x)], ⟨24, 3, [I W, I H, BA b l]⟩ :: ⟨4, 1, bools (fB n L)⟩ :: go 42 (gws 3 (rwI (lSt hd n k).1)) :: gos (rwI (lSt hd n k).1)⟩) (fun x => a0 - x) 0 (by omega) (by simp only [↓RP, RG, FX, RQ, ↓reduceIte, Nat.reduceEqDiff, reduceCtorEq, Nat.reduceBEq, Nat.reduceAdd, Nat.reduceLeDiff]; rfl) ?_
    intro x hx
    have gx : (fB n L).getD x false = L x := fB_get (by omega)
    have hfx := hfr x (by omega)
    by_cases hlt2 : x < a0
    · have hcx := hf2 x hlt2
      rw [cnd_free] at hcx
      cases c1 : L x with
      | true =>
        rw [c1] at gx
        simp (disch := first | assumption | omega | rfl | simp only [RH]) only [↓RP, RG, FX, RQ, ↓reduceIte, Nat.reduceEqDiff, reduceCtorEq, Nat.reduceBEq, Nat.reduceAdd, Nat.reduceLeDiff, gx, Int.toNat_natCast]
        exact ⟨x + 1, hlt2, rfl, by omega⟩
      | false =>
        rw [c1] at gx hcx
        have hff : frB hd n L x = false := by simpa using hcx
        rw [hff] at hfx
        simp (disch := first | assumption | omega | rfl | simp only [RH]) only [↓RP, RG, FX, RQ, ↓reduceIte, Nat.reduceEqDiff, reduceCtorEq, Nat.reduceBEq, Nat.reduceAdd, Nat.reduceLeDiff, gx, Int.toNat_natCast]
        refine callK_F 6 hfx (by simp only [List.map_cons, List.map_nil, argOf_list, tbC_arg, argOf_int]; rw [argOf_refB rfl hlL]) (.inl rfl) ?_
        simp (disch := first | assumption | omega | rfl | simp only [RH]) only [↓RP, RG, FX, RQ, ↓reduceIte, Nat.reduceEqDiff, reduceCtorEq, Nat.reduceBEq, Nat.reduceAdd, Nat.reduceLeDiff]
        exact ⟨x + 1, hlt2, rfl, by omega⟩
    · obtain rfl : a0 = x := by omega
      rw [cnd_free, Bool.and_eq_true] at hf1
      have c1 : L a0 = false := by simpa using hf1.1
      rw [c1] at gx
      rw [hf1.2] at hfx
      simp (disch := first | assumption | omega | rfl | simp only [RH]) only [↓RP, RG, FX, RQ, ↓reduceIte, Nat.reduceEqDiff, reduceCtorEq, Nat.reduceBEq, Nat.reduceAdd, Nat.reduceLeDiff, gx, Int.toNat_natCast]
      refine callK_F 6 hfx (by simp only [List.map_cons, List.map_nil, argOf_list, tbC_arg, argOf_int]; rw [argOf_refB rfl hlL]) (.inl rfl) ?_
      simp (disch := first | assumption | omega | rfl | simp only [RH]) only [↓RP, RG, FX, RQ, ↓reduceIte, Nat.reduceEqDiff, reduceCtorEq, Nat.reduceBEq, Nat.reduceAdd, Nat.reduceLeDiff]
      obtain ⟨q, hq⟩ : ∃ q : Nat → Bool, q = fun b => hd a0 b && hd b a0 := ⟨_, rfl⟩
      obtain ⟨R, hR⟩ : ∃ R, rwI (lSt hd n k).1 = R := ⟨_, rfl⟩
      simp only [hR] at hrl hrg hro ⊢
      have hRn : rwI (lSt hd n (k + 1)).1 = R ++ [nI ((List.range n).filter q)] := by
        rw [hns, ← hR, hq]; simp [rwI]; rfl
      have hLn : (lSt hd n (k + 1)).2 = fun b => L b || q b := by rw [hns, hq]
      have hcq : lCt hd n (k + 1) = c + ((List.range n).filter q).length := by rw [hcn, hq]; rfl
      have lk : ∀ (p0 p1 p2 : AObj) (tl : List AObj), (p0 :: p1 :: p2 :: (gos R ++ tl))[k + 3]? = tl[0]? := fun _ _ _ _ => g3_end hrl
      have st : ∀ (p0 p1 p2 o : AObj) (tl : List AObj), (p0 :: p1 :: p2 :: (gos R ++ tl)).set (k + 3) o = p0 :: p1 :: p2 :: (gos R ++ tl.set 0 o) := fun _ _ _ _ _ => g3_set hrl _
      have ra := tbC_at (p := true) (hd := hd) ha0
      have hfa := fB_len n (hd a0)
      refine loopK_WW [3, 4, 5, 6, 7, 8, 9] (fun j : Nat => j ≤ n) (fun j => ⟨[(3, .list true false n (tbC true n hd)), (4, .ref 1 0 n n), (5, gw true 2 (gws 3 R)), (6, I c), (7, I a0), (8, gw true (k + 3) (ints (nI ((List.range j).filter q)))), (9, I j)], ⟨24, 3, [I W, I H, BA b l]⟩ :: ⟨4, 1, bools (fB n fun b => L b || (decide (b < j) && q b))⟩ :: go 42 (gws 3 R) :: (gos R ++ [go 3 (ints (nI ((List.range j).filter q)))])⟩) (fun j => n - j) 0 (by omega) ?_ ?_
      · simp only [↓RP, RG, FX, RQ, ↓reduceIte, Nat.reduceEqDiff, reduceCtorEq, Nat.reduceBEq, Nat.reduceAdd, Nat.reduceLeDiff]
        have e0 : (fB n fun b => L b || (decide (b < 0) && q b)) = fB n L := by simp [fB]
        rw [e0]
        have h9 := WO.app (⟨24, 3, [I W, I H, BA b l]⟩ :: ⟨4, 1, bools (fB n L)⟩ :: go 42 (gws 3 R) :: gos R) (r := []) (r' := [go 3 (ints (nI ((List.range 0).filter q)))]) (.nil _ (by simp [go, ints, nI]))
        simp only [List.cons_append, List.append_nil] at h9
        exact Wk.weak (WE.cons _ (.refl _) (WE.cons _ (.refl _) (WE.cons _ (.refl _) (WE.cons _ (.refl _) (WE.cons _ (.refl _) (WE.cons _ (.nil _) (WE.cons _ (.refl _) WE.nil))))))) h9
      intro j hj
      have hfj := fB_len n fun b => L b || (decide (b < j) && q b)
      have hnl := nI_len ((List.range j).filter q)
      have hfl : ((List.range j).filter q).length ≤ j := Nat.le_trans (List.length_filter_le _ _) (by simp)
      by_cases hlt3 : j < n
      · have rj := tbC_at (p := true) (hd := hd) hlt3
        have hfj2 := fB_len n (hd j)
        have g1 : (fB n (hd a0)).getD j false = hd a0 j := fB_get hlt3
        have g3 : (fB n (hd j)).getD a0 false = hd j a0 := fB_get (by omega)
        have e1 : (fB n fun b => L b || (decide (b < j) && q b)).set j true = fB n (updN (fun b => L b || (decide (b < j) && q b)) j true) := fB_set true
        have hqj : q j = (hd a0 j && hd j a0) := by rw [hq]
        have hqn : (List.range (j + 1)).filter q = (List.range j).filter q ++ (if q j = true then [j] else []) := by
          rw [List.range_succ, List.filter_append]
          congr 1
          cases hqq : q j <;> simp [List.filter_cons, hqq]
        have hno : q j = false → (fun b => L b || (decide (b < j + 1) && q b)) = fun b => L b || (decide (b < j) && q b) := fun h => by
          funext x
          by_cases hxj : x = j
          · subst hxj; rw [h]; simp
          · congr 2
            exact decide_eq_decide.2 (by omega)
        cases c1 : hd a0 j with
        | false =>
          rw [c1] at g1 hqj
          have hqf : q j = false := hqj
          rw [hqf, if_neg (by simp), List.append_nil] at hqn
          simp (disch := first | assumption | omega | rfl | simp only [RH]) only [↓RP, RG, FX, RQ, ↓reduceIte, Nat.reduceEqDiff, reduceCtorEq, Nat.reduceBEq, Nat.reduceAdd, Nat.reduceLeDiff, ra, rj, g1, Int.toNat_natCast]
          exact ⟨j + 1, hlt3, Wk.of_eq (by rw [hqn, hno hqf]; rfl), by omega⟩
        | true =>
          rw [c1] at g1 hqj
          cases c2 : hd j a0 with
          | false =>
            rw [c2] at g3 hqj
            have hqf : q j = false := hqj
            rw [hqf, if_neg (by simp), List.append_nil] at hqn
            simp (disch := first | assumption | omega | rfl | simp only [RH]) only [↓RP, RG, FX, RQ, ↓reduceIte, Nat.reduceEqDiff, reduceCtorEq, Nat.reduceBEq, Nat.reduceAdd, Nat.reduceLeDiff, ra, rj, g1, g3, Int.toNat_natCast]
            exact ⟨j + 1, hlt3, Wk.of_eq (by rw [hqn, hno hqf]; rfl), by omega⟩
          | true =>
            rw [c2] at g3 hqj
            have hqf : q j = true := hqj
            rw [hqf, if_pos rfl] at hqn
            have hu : updN (fun b => L b || (decide (b < j) && q b)) j true = fun b => L b || (decide (b < j + 1) && q b) := by
              funext x
              by_cases hxj : x = j
              · subst hxj; rw [updN_same, hqf]; simp
              · rw [updN_other _ _ hxj]
                congr 2
                exact decide_eq_decide.2 (by omega)
            rw [hu] at e1
            have hil : (nI ((List.range j).filter q)).length ≤ 1000000000 := by omega
            generalize (List.range j).filter q = X at *
            have hap : ∀ (p0 p1 p2 : AObj), aAppend Try.prog 42 (p0 :: p1 :: p2 :: (gos R ++ [go 3 (ints (nI X))])) (gw true (k + 3) (ints (nI X))) (.lit 1 [I j]) = some (gw true (k + 3) (ints (nI (X ++ [j]))), p0 :: p1 :: p2 :: (gos R ++ [go 3 (ints (nI (X ++ [j])))])) := fun p0 p1 p2 => by
              rw [append_one (e := 3) (xs := ints (nI X)) (by rw [lk]; rfl) rfl (by rw [ints_length]; exact hil) (by omega), st, nI_app, show ints (nI X) ++ [I (j : Int)] = ints (nI X ++ [(j : Int)]) from by simp [ints]]; rfl
            simp (disch := first | assumption | omega | rfl | simp only [RH]) only [↓RP, RG, FX, RQ, ↓reduceIte, Nat.reduceEqDiff, reduceCtorEq, Nat.reduceBEq, Nat.reduceAdd, Nat.reduceLeDiff, ra, rj, g1, g3, hap, e1, Int.toNat_natCast]
            exact ⟨j + 1, hlt3, Wk.of_eq (by rw [hqn]; rfl), by omega⟩
      · obtain rfl : n = j := by omega
        have e2 : (fB n fun b => L b || (decide (b < n) && q b)) = fB n fun b => L b || q b := by
          unfold fB
          exact List.map_congr_left fun x hx => by simp [List.mem_range.1 hx]
        rw [e2]
        generalize (List.range n).filter q = M at *
        have h1 : allOne [gw true (k + 3) (ints (nI M))] = some [gw true (k + 3) (ints (nI M))] := by
          rw [allOne_cons (one_gw _ _ _), allOne_nil]; rfl
        have hap : ∀ (p0 p1 : AObj) (tt : List AObj), aAppend Try.prog 27 (p0 :: p1 :: go 42 (gws 3 R) :: tt) (gw true 2 (gws 3 R)) (.lit 1 [gw true (k + 3) (ints (nI M))]) = some (gw true 2 (gws 3 (R ++ [nI M])), p0 :: p1 :: go 42 (gws 3 (R ++ [nI M])) :: tt) := fun p0 p1 tt => by
          rw [append_one (e := 42) (xs := gws 3 R) rfl (one_gw _ _ _) (by omega) (by omega), gws_snoc, hrl, Nat.add_comm 3 k]; rfl
        have hcc : (c : Int) + ((nI M).length : Int) = ((c + M.length : Nat) : Int) := by rw [nI_len]; omega
        simp (disch := first | assumption | omega | rfl | simp only [RH]) only [↓RP, RG, FX, RQ, ↓reduceIte, Nat.reduceEqDiff, reduceCtorEq, Nat.reduceBEq, Nat.reduceAdd, Nat.reduceLeDiff, h1, hap, lk, hcc]
        exact ⟨k + 1, hlt, Wk.of_eq (by rw [hRn, hLn, hcq, gos_snoc]), by omega⟩
  · obtain rfl : m = k := by omega
    rw [hcm, hfin]
    simp (disch := first | assumption | omega | rfl | simp only [RH]) only [↓RP, RG, FX, RQ, ↓reduceIte, Nat.reduceEqDiff, reduceCtorEq, Nat.reduceBEq, Nat.reduceAdd, Nat.reduceLeDiff]
    rw [resVal_1 rfl]; simp (disch := first | assumption | omega | rfl | simp only [RH]) only [↓RP, RG, FX, RQ, ↓reduceIte, Nat.reduceEqDiff, reduceCtorEq, Nat.reduceBEq, Nat.reduceAdd, Nat.reduceLeDiff, RS]
    rw [gws_res 3 (fun a ha => by
      rw [show 3 + a = a + 3 by omega]
      simp only [List.getElem?_cons_succ]
      exact gos_at ha), LL_rwI hne]
    simp only [PV, gws_len, rwI, List.length_map, Bool.true_and]
    refine congrArg some (congrArg (fun x => AVal.list true x _ _) ?_)
    cases PL W n l <;> simp [gws]
end Go.Proofs.Ytakeaicfhllmkaa

/- Chapter 11: what holds a thread, by both. -/
set_option linter.unusedSimpArgs false
set_option linter.unusedVariables false
set_option maxRecDepth 100000
namespace Go.Proofs.Ytakeaicfhllmkaa
open Go Go.Proofs Go.AW

theorem heldP_bad (w h : Int) (b : Bool) (l : List Bool) (a c : Int) (hz : gchk w h l.length ≠ 0) : Contract Try.prog 8 [GA w h b l, I a, I c] (.tuple [B false, I (gchk w h l.length)]) := by
  refine Contract.intro (effS [] false) 6 follows Try.func8 rfl rfl (by kernel_rfl) (Nat.le_of_ble_eq_true rfl) ?_
  simp (disch := first | assumption | omega | rfl | simp only [RH]) only [↓RP, RG, FX, RQ, ↓reduceIte, Nat.reduceEqDiff, reduceCtorEq, Nat.reduceBEq, Nat.reduceAdd, Nat.reduceLeDiff, args0_3]
  refine callK_F 6 (gcheckP_c w h b l) (by simp (disch := first | assumption | omega | rfl | simp only [RH]) only [↓RP, RG, FX, RQ, ↓reduceIte, Nat.reduceEqDiff, reduceCtorEq, Nat.reduceBEq, Nat.reduceAdd, Nat.reduceLeDiff, RA] <;> rfl) (.inl (by simp [allFresh, ints_fresh, bools_fresh])) ?_
  simp (disch := first | assumption | omega | rfl | simp only [RH]) only [↓RP, RG, FX, RQ, ↓reduceIte, Nat.reduceEqDiff, reduceCtorEq, Nat.reduceBEq, Nat.reduceAdd, Nat.reduceLeDiff]
  rw [resVal_2 rfl]; simp (disch := first | assumption | omega | rfl | simp only [RH]) only [↓RP, RG, FX, RQ, ↓reduceIte, Nat.reduceEqDiff, reduceCtorEq, Nat.reduceBEq, Nat.reduceAdd, Nat.reduceLeDiff, RS]
theorem heldR_bad (w h : Int) (b : Bool) (l : List Bool) (a c : Int) (hz : gchk w h l.length ≠ 0) : Contract Try.prog 9 [GA w h b l, I a, I c] (.tuple [B false, I (gchk w h l.length)]) := by
  refine Contract.intro (effS [] false) 6 follows Try.func9 rfl rfl (by kernel_rfl) (Nat.le_of_ble_eq_true rfl) ?_
  simp (disch := first | assumption | omega | rfl | simp only [RH]) only [↓RP, RG, FX, RQ, ↓reduceIte, Nat.reduceEqDiff, reduceCtorEq, Nat.reduceBEq, Nat.reduceAdd, Nat.reduceLeDiff, args0_3]
  refine callK_F 6 (gcheckR_c w h b l) (by simp (disch := first | assumption | omega | rfl | simp only [RH]) only [↓RP, RG, FX, RQ, ↓reduceIte, Nat.reduceEqDiff, reduceCtorEq, Nat.reduceBEq, Nat.reduceAdd, Nat.reduceLeDiff, RA] <;> rfl) (.inl (by simp [allFresh, ints_fresh, bools_fresh])) ?_
  simp (disch := first | assumption | omega | rfl | simp only [RH]) only [↓RP, RG, FX, RQ, ↓reduceIte, Nat.reduceEqDiff, reduceCtorEq, Nat.reduceBEq, Nat.reduceAdd, Nat.reduceLeDiff]
  refine callK_F 6 (gcheckR_c w h b l) (by simp (disch := first | assumption | omega | rfl | simp only [RH]) only [↓RP, RG, FX, RQ, ↓reduceIte, Nat.reduceEqDiff, reduceCtorEq, Nat.reduceBEq, Nat.reduceAdd, Nat.reduceLeDiff, RA] <;> rfl) (.inl (by simp [allFresh, ints_fresh, bools_fresh])) ?_
  simp (disch := first | assumption | omega | rfl | simp only [RH]) only [↓RP, RG, FX, RQ, ↓reduceIte, Nat.reduceEqDiff, reduceCtorEq, Nat.reduceBEq, Nat.reduceAdd, Nat.reduceLeDiff]
  rw [resVal_2 rfl]; simp (disch := first | assumption | omega | rfl | simp only [RH]) only [↓RP, RG, FX, RQ, ↓reduceIte, Nat.reduceEqDiff, reduceCtorEq, Nat.reduceBEq, Nat.reduceAdd, Nat.reduceLeDiff, RS]
def hldV (W n : Nat) (l : List Bool) (a c : Int) : Bool × Int := if 0 ≤ a ∧ a < n ∧ 0 ≤ c ∧ c < n then (hdB W n l a.toNat c.toNat, 0) else (false, 2)
theorem heldR_c {W H n : Nat} (hN : W + H = n) (hW0 : 0 < W) (hH0 : 0 < H) (hn64 : n ≤ 64) (b : Bool) {l : List Bool} (hn : l.length = W * H) (a c : Int) :
    Contract Try.prog 9 [GA W H b l, I a, I c] (.tuple [B (hldV W n l a c).1, I (hldV W n l a c).2]) := by
  have hW : W ≤ 64 := by omega
  have hH : H ≤ 64 := by omega
  have hNc : (W : Int) + (H : Int) = (n : Int) := by omega
  have hz : gchk W H l.length = 0 := gchk_ok ⟨by omega, by omega, by omega, by omega, by rw [hn, Int.natCast_mul]⟩
  by_cases h1 : 0 ≤ a ∧ a < (W : Int) + H
  rotate_left
  · have e : hldV W n l a c = (false, 2) := by unfold hldV; rw [if_neg (fun h => h1 ⟨h.1, by omega⟩)]
    rw [e]
    refine Contract.intro (effS [] false) 6 follows Try.func9 rfl rfl (by kernel_rfl) (Nat.le_of_ble_eq_true rfl) ?_
    simp (disch := first | assumption | omega | rfl | simp only [RH]) only [↓RP, RG, FX, RQ, ↓reduceIte, Nat.reduceEqDiff, reduceCtorEq, Nat.reduceBEq, Nat.reduceAdd, Nat.reduceLeDiff, args0_3]
    refine callK_F 6 (gcheckR_c W H b l) (by simp (disch := first | assumption | omega | rfl | simp only [RH]) only [↓RP, RG, FX, RQ, ↓reduceIte, Nat.reduceEqDiff, reduceCtorEq, Nat.reduceBEq, Nat.reduceAdd, Nat.reduceLeDiff, RA] <;> rfl) (.inl (by simp [allFresh, ints_fresh, bools_fresh])) ?_
    simp (disch := first | assumption | omega | rfl | simp only [RH]) only [↓RP, RG, FX, RQ, ↓reduceIte, Nat.reduceEqDiff, reduceCtorEq, Nat.reduceBEq, Nat.reduceAdd, Nat.reduceLeDiff, hz]
    refine callK_F 6 (is_c W H b l a hW hH) (by simp (disch := first | assumption | omega | rfl | simp only [RH]) only [↓RP, RG, FX, RQ, ↓reduceIte, Nat.reduceEqDiff, reduceCtorEq, Nat.reduceBEq, Nat.reduceAdd, Nat.reduceLeDiff, RA] <;> rfl) (.inl (by simp [allFresh, ints_fresh, bools_fresh])) ?_
    simp (disch := first | assumption | omega | rfl | simp only [RH]) only [↓RP, RG, FX, RQ, ↓reduceIte, Nat.reduceEqDiff, reduceCtorEq, Nat.reduceBEq, Nat.reduceAdd, Nat.reduceLeDiff, decide_eq_false h1]
    rw [resVal_2 rfl]; simp (disch := first | assumption | omega | rfl | simp only [RH]) only [↓RP, RG, FX, RQ, ↓reduceIte, Nat.reduceEqDiff, reduceCtorEq, Nat.reduceBEq, Nat.reduceAdd, Nat.reduceLeDiff, RS]
  by_cases h2 : 0 ≤ c ∧ c < (W : Int) + H
  rotate_left
  · have e : hldV W n l a c = (false, 2) := by unfold hldV; rw [if_neg (fun h => h2 ⟨h.2.2.1, by omega⟩)]
    rw [e]
    refine Contract.intro (effS [] false) 6 follows Try.func9 rfl rfl (by kernel_rfl) (Nat.le_of_ble_eq_true rfl) ?_
    simp (disch := first | assumption | omega | rfl | simp only [RH]) only [↓RP, RG, FX, RQ, ↓reduceIte, Nat.reduceEqDiff, reduceCtorEq, Nat.reduceBEq, Nat.reduceAdd, Nat.reduceLeDiff, args0_3]
    refine callK_F 6 (gcheckR_c W H b l) (by simp (disch := first | assumption | omega | rfl | simp only [RH]) only [↓RP, RG, FX, RQ, ↓reduceIte, Nat.reduceEqDiff, reduceCtorEq, Nat.reduceBEq, Nat.reduceAdd, Nat.reduceLeDiff, RA] <;> rfl) (.inl (by simp [allFresh, ints_fresh, bools_fresh])) ?_
    simp (disch := first | assumption | omega | rfl | simp only [RH]) only [↓RP, RG, FX, RQ, ↓reduceIte, Nat.reduceEqDiff, reduceCtorEq, Nat.reduceBEq, Nat.reduceAdd, Nat.reduceLeDiff, hz]
    refine callK_F 6 (is_c W H b l a hW hH) (by simp (disch := first | assumption | omega | rfl | simp only [RH]) only [↓RP, RG, FX, RQ, ↓reduceIte, Nat.reduceEqDiff, reduceCtorEq, Nat.reduceBEq, Nat.reduceAdd, Nat.reduceLeDiff, RA] <;> rfl) (.inl (by simp [allFresh, ints_fresh, bools_fresh])) ?_
    simp (disch := first | assumption | omega | rfl | simp only [RH]) only [↓RP, RG, FX, RQ, ↓reduceIte, Nat.reduceEqDiff, reduceCtorEq, Nat.reduceBEq, Nat.reduceAdd, Nat.reduceLeDiff, decide_eq_true h1]
    refine callK_F 6 (is_c W H b l c hW hH) (by simp (disch := first | assumption | omega | rfl | simp only [RH]) only [↓RP, RG, FX, RQ, ↓reduceIte, Nat.reduceEqDiff, reduceCtorEq, Nat.reduceBEq, Nat.reduceAdd, Nat.reduceLeDiff, RA] <;> rfl) (.inl (by simp [allFresh, ints_fresh, bools_fresh])) ?_
    simp (disch := first | assumption | omega | rfl | simp only [RH]) only [↓RP, RG, FX, RQ, ↓reduceIte, Nat.reduceEqDiff, reduceCtorEq, Nat.reduceBEq, Nat.reduceAdd, Nat.reduceLeDiff, decide_eq_false h2]
    rw [resVal_2 rfl]; simp (disch := first | assumption | omega | rfl | simp only [RH]) only [↓RP, RG, FX, RQ, ↓reduceIte, Nat.reduceEqDiff, reduceCtorEq, Nat.reduceBEq, Nat.reduceAdd, Nat.reduceLeDiff, RS]
  obtain ⟨x, rfl⟩ : ∃ x : Nat, a = x := ⟨a.toNat, by omega⟩
  obtain ⟨y, rfl⟩ : ∃ y : Nat, c = y := ⟨c.toNat, by omega⟩
  have e : hldV W n l x y = (hdB W n l x y, 0) := by unfold hldV; rw [if_pos (by omega)]; rfl
  rw [e]
  have hsl := srch_len (W := W) l (show x < n by omega)
  have hs := steps_c hN hW hH b hn (a := x) (by omega)
  have hdd : hdB W n l x y = decide (0 ≤ (srch (adjT W n l) (far0 n x) [x]).getD y 0) := rfl
  rw [hdd]
  generalize srch (adjT W n l) (far0 n x) [x] = far at *
  refine Contract.intro (effS [] false) 6 follows Try.func9 rfl rfl (by kernel_rfl) (Nat.le_of_ble_eq_true rfl) ?_
  simp (disch := first | assumption | omega | rfl | simp only [RH]) only [↓RP, RG, FX, RQ, ↓reduceIte, Nat.reduceEqDiff, reduceCtorEq, Nat.reduceBEq, Nat.reduceAdd, Nat.reduceLeDiff, args0_3]
  refine callK_F 6 (gcheckR_c W H b l) (by simp (disch := first | assumption | omega | rfl | simp only [RH]) only [↓RP, RG, FX, RQ, ↓reduceIte, Nat.reduceEqDiff, reduceCtorEq, Nat.reduceBEq, Nat.reduceAdd, Nat.reduceLeDiff, RA] <;> rfl) (.inl (by simp [allFresh, ints_fresh, bools_fresh])) ?_
  simp (disch := first | assumption | omega | rfl | simp only [RH]) only [↓RP, RG, FX, RQ, ↓reduceIte, Nat.reduceEqDiff, reduceCtorEq, Nat.reduceBEq, Nat.reduceAdd, Nat.reduceLeDiff, hz]
  refine callK_F 6 (is_c W H b l x hW hH) (by simp (disch := first | assumption | omega | rfl | simp only [RH]) only [↓RP, RG, FX, RQ, ↓reduceIte, Nat.reduceEqDiff, reduceCtorEq, Nat.reduceBEq, Nat.reduceAdd, Nat.reduceLeDiff, RA] <;> rfl) (.inl (by simp [allFresh, ints_fresh, bools_fresh])) ?_
  simp (disch := first | assumption | omega | rfl | simp only [RH]) only [↓RP, RG, FX, RQ, ↓reduceIte, Nat.reduceEqDiff, reduceCtorEq, Nat.reduceBEq, Nat.reduceAdd, Nat.reduceLeDiff, decide_eq_true h1]
  refine callK_F 6 (is_c W H b l y hW hH) (by simp (disch := first | assumption | omega | rfl | simp only [RH]) only [↓RP, RG, FX, RQ, ↓reduceIte, Nat.reduceEqDiff, reduceCtorEq, Nat.reduceBEq, Nat.reduceAdd, Nat.reduceLeDiff, RA] <;> rfl) (.inl (by simp [allFresh, ints_fresh, bools_fresh])) ?_
  simp (disch := first | assumption | omega | rfl | simp only [RH]) only [↓RP, RG, FX, RQ, ↓reduceIte, Nat.reduceEqDiff, reduceCtorEq, Nat.reduceBEq, Nat.reduceAdd, Nat.reduceLeDiff, decide_eq_true h2]
  refine callK_F 6 (hs) (by simp (disch := first | assumption | omega | rfl | simp only [RH]) only [↓RP, RG, FX, RQ, ↓reduceIte, Nat.reduceEqDiff, reduceCtorEq, Nat.reduceBEq, Nat.reduceAdd, Nat.reduceLeDiff, RA] <;> rfl) (.inl (by simp [allFresh, ints_fresh, bools_fresh])) ?_
  simp (disch := first | assumption | omega | rfl | simp only [RH]) only [↓RP, RG, FX, RQ, ↓reduceIte, Nat.reduceEqDiff, reduceCtorEq, Nat.reduceBEq, Nat.reduceAdd, Nat.reduceLeDiff, Int.toNat_natCast]
  rw [resVal_2 rfl]; simp (disch := first | assumption | omega | rfl | simp only [RH]) only [↓RP, RG, FX, RQ, ↓reduceIte, Nat.reduceEqDiff, reduceCtorEq, Nat.reduceBEq, Nat.reduceAdd, Nat.reduceLeDiff, RS]
/-- What the search has met. -/
structure Met (ov : Nat → List Nat) (n a : Nat) (q : List Nat) : Prop where
  nd : q.Nodup
  wy : ∀ x ∈ q, x < n ∧ Wy ov a x
  me : a ∈ q
theorem Met.len {ov : Nat → List Nat} {n a : Nat} {q : List Nat} (h : Met ov n a q) : q.length ≤ n :=
  nodup_lt n q h.nd fun x hx => (h.wy x hx).1
theorem Met.push {ov : Nat → List Nat} {n a : Nat} {q : List Nat} (h : Met ov n a q) {c y : Nat} (hc : c ∈ q) (hy : y ∈ ov c) (hyn : y < n) (hq : ¬ y ∈ q) : Met ov n a (q ++ [y]) :=
  ⟨List.nodup_append.2 ⟨h.nd, by simp, fun x hx z hz e => hq (by rw [List.mem_singleton] at hz; rw [← hz, ← e]; exact hx)⟩,
   fun x hx => by
    rcases List.mem_append.1 hx with h1 | h1
    · exact h.wy x h1
    · rw [List.mem_singleton.1 h1]; exact ⟨hyn, (h.wy c hc).2.trans (.one hy)⟩,
   List.mem_append_left _ h.me⟩
theorem heldP_c {W H n : Nat} (hN : W + H = n) (hW0 : 0 < W) (hH0 : 0 < H) (hn64 : n ≤ 64) (b : Bool) {l : List Bool} (hn : l.length = W * H) (a c : Int) :
    Contract Try.prog 8 [GA W H b l, I a, I c] (.tuple [B (hldV W n l a c).1, I (hldV W n l a c).2]) := by
  have hNc : (W : Int) + (H : Int) = (n : Int) := by omega
  have hz : gchk W H l.length = 0 := gchk_ok ⟨by omega, by omega, by omega, by omega, by rw [hn, Int.natCast_mul]⟩
  by_cases h1 : 0 ≤ a ∧ 0 ≤ c
  rotate_left
  · have e : hldV W n l a c = (false, 2) := by unfold hldV; rw [if_neg (fun h => h1 ⟨h.1, h.2.2.1⟩)]
    rw [e]
    have hmin : min a c < 0 := by omega
    refine Contract.intro (effS [] false) 6 follows Try.func8 rfl rfl (by kernel_rfl) (Nat.le_of_ble_eq_true rfl) ?_
    simp (disch := first | assumption | omega | rfl | simp only [RH]) only [↓RP, RG, FX, RQ, ↓reduceIte, Nat.reduceEqDiff, reduceCtorEq, Nat.reduceBEq, Nat.reduceAdd, Nat.reduceLeDiff, args0_3]
    refine callK_F 6 (gcheckP_c W H b l) (by simp (disch := first | assumption | omega | rfl | simp only [RH]) only [↓RP, RG, FX, RQ, ↓reduceIte, Nat.reduceEqDiff, reduceCtorEq, Nat.reduceBEq, Nat.reduceAdd, Nat.reduceLeDiff, RA] <;> rfl) (.inl (by simp [allFresh, ints_fresh, bools_fresh])) ?_
    simp (disch := first | assumption | omega | rfl | simp only [RH]) only [↓RP, RG, FX, RQ, ↓reduceIte, Nat.reduceEqDiff, reduceCtorEq, Nat.reduceBEq, Nat.reduceAdd, Nat.reduceLeDiff, hz]
    rw [resVal_2 rfl]; simp (disch := first | assumption | omega | rfl | simp only [RH]) only [↓RP, RG, FX, RQ, ↓reduceIte, Nat.reduceEqDiff, reduceCtorEq, Nat.reduceBEq, Nat.reduceAdd, Nat.reduceLeDiff, RS]
  by_cases h2 : a < (W : Int) + H ∧ c < (W : Int) + H
  rotate_left
  · have e : hldV W n l a c = (false, 2) := by unfold hldV; rw [if_neg (fun h => h2 ⟨by omega, by omega⟩)]
    rw [e]
    have hmin : ¬ min a c < 0 := by omega
    have hmax : (W : Int) + H ≤ max a c := by omega
    refine Contract.intro (effS [] false) 6 follows Try.func8 rfl rfl (by kernel_rfl) (Nat.le_of_ble_eq_true rfl) ?_
    simp (disch := first | assumption | omega | rfl | simp only [RH]) only [↓RP, RG, FX, RQ, ↓reduceIte, Nat.reduceEqDiff, reduceCtorEq, Nat.reduceBEq, Nat.reduceAdd, Nat.reduceLeDiff, args0_3]
    refine callK_F 6 (gcheckP_c W H b l) (by simp (disch := first | assumption | omega | rfl | simp only [RH]) only [↓RP, RG, FX, RQ, ↓reduceIte, Nat.reduceEqDiff, reduceCtorEq, Nat.reduceBEq, Nat.reduceAdd, Nat.reduceLeDiff, RA] <;> rfl) (.inl (by simp [allFresh, ints_fresh, bools_fresh])) ?_
    simp (disch := first | assumption | omega | rfl | simp only [RH]) only [↓RP, RG, FX, RQ, ↓reduceIte, Nat.reduceEqDiff, reduceCtorEq, Nat.reduceBEq, Nat.reduceAdd, Nat.reduceLeDiff, hz]
    rw [resVal_2 rfl]; simp (disch := first | assumption | omega | rfl | simp only [RH]) only [↓RP, RG, FX, RQ, ↓reduceIte, Nat.reduceEqDiff, reduceCtorEq, Nat.reduceBEq, Nat.reduceAdd, Nat.reduceLeDiff, RS]
  obtain ⟨x, rfl⟩ : ∃ x : Nat, a = x := ⟨a.toNat, by omega⟩
  obtain ⟨y, rfl⟩ : ∃ y : Nat, c = y := ⟨c.toNat, by omega⟩
  have e : hldV W n l x y = (hdB W n l x y, 0) := by unfold hldV; rw [if_pos (by omega)]; rfl
  rw [e]
  have hxn : x < n := by omega
  have hyn : y < n := by omega
  have hdd : hdB W n l x y = true ↔ Wy (adjT W n l) x y := hdB_iff hxn hyn
  have hab := aboveP_c hN hW0 hH0 (by omega) (by omega) b hn
  have hrl := abv_len W n l
  have hrow : ∀ a, a < n → (abv W n l).getD a [] = nI (adjT W n l a) := fun a ha => abv_adj ha
  generalize hdB W n l x y = R at *
  have hmin : ¬ min (x : Int) y < 0 := by omega
  have hmax : ¬ (W : Int) + H ≤ max (x : Int) y := by omega
  have hnn : (n : Int).toNat = n := Int.toNat_natCast n
  have e0 : (List.replicate n false).set x true = fB n fun z => decide (z ∈ [x]) := by
    rw [← fB_none, fB_set]
    unfold fB
    refine List.map_congr_left fun z _ => ?_
    by_cases hzx : z = x
    · subst hzx; rw [updN_same]; simp
    · rw [updN_other _ _ hzx]; simp [hzx]
  refine Contract.intro (effS [] false) 6 follows Try.func8 rfl rfl (by kernel_rfl) (Nat.le_of_ble_eq_true rfl) ?_
  simp (disch := first | assumption | omega | rfl | simp only [RH]) only [↓RP, RG, FX, RQ, ↓reduceIte, Nat.reduceEqDiff, reduceCtorEq, Nat.reduceBEq, Nat.reduceAdd, Nat.reduceLeDiff, args0_3]
  refine callK_F 6 (gcheckP_c W H b l) (by simp (disch := first | assumption | omega | rfl | simp only [RH]) only [↓RP, RG, FX, RQ, ↓reduceIte, Nat.reduceEqDiff, reduceCtorEq, Nat.reduceBEq, Nat.reduceAdd, Nat.reduceLeDiff, RA] <;> rfl) (.inl (by simp [allFresh, ints_fresh, bools_fresh])) ?_
  simp (disch := first | assumption | omega | rfl | simp only [RH]) only [↓RP, RG, FX, RQ, ↓reduceIte, Nat.reduceEqDiff, reduceCtorEq, Nat.reduceBEq, Nat.reduceAdd, Nat.reduceLeDiff, hz]
  refine callK_F 6 hab (by simp (disch := first | assumption | omega | rfl | simp only [RH]) only [↓RP, RG, FX, RQ, ↓reduceIte, Nat.reduceEqDiff, reduceCtorEq, Nat.reduceBEq, Nat.reduceAdd, Nat.reduceLeDiff, RA] <;> rfl) (.inl (by simp [allFresh]; exact LL_fr 3 _)) ?_
  have hrp : (List.replicate n false).length = n := by simp
  simp (disch := first | assumption | omega | rfl | simp only [RH]) only [↓RP, RG, FX, RQ, ↓reduceIte, Nat.reduceEqDiff, reduceCtorEq, Nat.reduceBEq, Nat.reduceAdd, Nat.reduceLeDiff, make_bool, hnn, e0, cA_any, Int.toNat_natCast]
  refine loopK_I [2, 10, 11, 12, 13] (fun s : List Nat × Nat × Bool => Met (adjT W n l) n x s.1 ∧ s.2.1 ≤ s.1.length ∧ (∀ j, j < s.2.1 → ∀ z ∈ adjT W n l (s.1.getD j 0), z ∈ s.1) ∧ (s.2.2 = false → s.1.length = 1))
    (fun s => ⟨[(2, I y), (10, .list true false n (LL (abv W n l))), (11, .ref 1 0 n n), (12, qv s.2.2 s.1), (13, I s.2.1)], ⟨24, 3, [I W, I H, BA b l]⟩ :: ⟨4, 1, bools (fB n fun z => decide (z ∈ s.1))⟩ :: qh s.2.2 s.1⟩) (fun s => n + 1 - s.2.1) ([x], 0, false) ⟨⟨by simp, fun z hz => by rw [List.mem_singleton.1 hz]; exact ⟨hxn, .refl x⟩, by simp⟩, by simp, fun j hj => by simp at hj, fun _ => rfl⟩ (by simp only [↓RP, RG, FX, RQ, ↓reduceIte, Nat.reduceEqDiff, reduceCtorEq, Nat.reduceBEq, Nat.reduceAdd, Nat.reduceLeDiff]; rfl) ?_
  rintro ⟨q, i, p⟩ ⟨i1, i2, i3, i4⟩
  simp only at i1 i2 i3 i4 ⊢
  have hqm := i1.len
  have hql : (ints (nI q)).length = q.length := by rw [ints_length, nI_len]
  have hqn := nI_len q
  have hfl := fB_len n fun z => decide (z ∈ q)
  by_cases hlt : i < q.length
  · have hgi := nI_get q i
    have hcm : q.getD i 0 ∈ q := by
      rw [List.getD_eq_getElem?_getD, List.getElem?_eq_getElem hlt]; exact List.getElem_mem hlt
    obtain ⟨u, hu⟩ : ∃ u, q.getD i 0 = u := ⟨_, rfl⟩
    rw [hu] at hgi hcm
    have hun := (i1.wy u hcm).1
    have hra := LL_at (rs := abv W n l) (a := u) (by omega)
    rw [hrow u hun] at hra
    have hal := adjT_le W n l u
    have hai : (nI (adjT W n l u)).length = (adjT W n l u).length := nI_len _
    cases p
    · simp (disch := first | assumption | omega | rfl | simp only [RH]) only [↓RP, RG, FX, RQ, ↓reduceIte, Nat.reduceEqDiff, reduceCtorEq, Nat.reduceBEq, Nat.reduceAdd, Nat.reduceLeDiff, qv, qh, hql, hgi, hra, Int.toNat_natCast]
      refine loopK_I [2, 10, 11, 12, 13, 59, 60, 61] (fun s : Nat × List Nat × Bool => s.1 ≤ (adjT W n l u).length ∧ Met (adjT W n l) n x s.2.1 ∧ (∃ t, s.2.1 = q ++ t) ∧ (∀ z ∈ (adjT W n l u).take s.1, z ∈ s.2.1) ∧ (s.2.2 = false → s.2.1.length = 1))
        (fun s => ⟨[(2, I y), (10, .list true false n (LL (abv W n l))), (11, .ref 1 0 n n), (12, qv s.2.2 s.2.1), (13, I i), (59, LR (nI (adjT W n l u)).isEmpty (nI (adjT W n l u))), (60, I (adjT W n l u).length), (61, I s.1)], ⟨24, 3, [I W, I H, BA b l]⟩ :: ⟨4, 1, bools (fB n fun z => decide (z ∈ s.2.1))⟩ :: qh s.2.2 s.2.1⟩) (fun s => (adjT W n l u).length - s.1) (0, q, false) ⟨by omega, i1, ⟨[], by simp⟩, by simp, i4⟩ (by simp only [↓RP, RG, FX, RQ, ↓reduceIte, Nat.reduceEqDiff, reduceCtorEq, Nat.reduceBEq, Nat.reduceAdd, Nat.reduceLeDiff, hai]; rfl) ?_
      rintro ⟨j, q', p'⟩ ⟨j1, j2, j3, j4, j5⟩
      simp only at j1 j2 j3 j4 j5 ⊢
      have hqm' := j2.len
      have hql' : (ints (nI q')).length = q'.length := by rw [ints_length, nI_len]
      have hqn' := nI_len q'
      have hfl' := fB_len n fun z => decide (z ∈ q')
      by_cases hlt2 : j < (adjT W n l u).length
      · obtain ⟨v, hv⟩ : ∃ v, (adjT W n l u)[j]? = some v := ⟨_, List.getElem?_eq_getElem hlt2⟩
        have hvn : v < n := adjT_lt (List.mem_of_getElem? hv)
        have hgv : (nI (adjT W n l u)).getD j 0 = (v : Int) := by simp [nI, List.getD_eq_getElem?_getD, hv]
        have htk : (adjT W n l u).take (j + 1) = (adjT W n l u).take j ++ [v] := by rw [List.take_add_one, hv]; rfl
        have gv : (fB n fun z => decide (z ∈ q')).getD v false = decide (v ∈ q') := fB_get hvn
        have hcm' : u ∈ q' := by
          obtain ⟨t, ht⟩ := j3
          rw [ht]; exact List.mem_append_left _ hcm
        by_cases hin : v ∈ q'
        · rw [decide_eq_true hin] at gv
          simp (disch := first | assumption | omega | rfl | simp only [RH]) only [↓RP, RG, FX, RQ, ↓reduceIte, Nat.reduceEqDiff, reduceCtorEq, Nat.reduceBEq, Nat.reduceAdd, Nat.reduceLeDiff, hgv, gv, Int.toNat_natCast]
          refine ⟨(j + 1, q', p'), ⟨hlt2, j2, j3, fun z hz => ?_, j5⟩, rfl, by simp only; omega⟩
          simp only [htk, List.mem_append, List.mem_singleton] at hz
          rcases hz with h | h
          · exact j4 z h
          · rw [h]; exact hin
        · rw [decide_eq_false hin] at gv
          have hnew : (j + 1 ≤ (adjT W n l u).length) ∧ Met (adjT W n l) n x (q' ++ [v]) ∧ (∃ t, q' ++ [v] = q ++ t) ∧ (∀ z ∈ (adjT W n l u).take (j + 1), z ∈ q' ++ [v]) ∧ (true = false → (q' ++ [v]).length = 1) := by
            refine ⟨hlt2, j2.push hcm' (List.mem_of_getElem? hv) hvn hin, ?_, fun z hz => ?_, fun h => by cases h⟩
            · obtain ⟨t, ht⟩ := j3
              exact ⟨t ++ [v], by rw [ht, List.append_assoc]⟩
            · rw [htk] at hz
              rcases List.mem_append.1 hz with h | h
              · exact List.mem_append_left _ (j4 z h)
              · exact List.mem_append_right _ h
          have e1 : (fB n fun z => decide (z ∈ q')).set v true = fB n fun z => decide (z ∈ q' ++ [v]) := by
            rw [fB_set]
            unfold fB
            refine List.map_congr_left fun z _ => ?_
            by_cases hzv : z = v
            · subst hzv; rw [updN_same]; simp
            · rw [updN_other _ _ hzv]; simp [hzv]
          have e2 : nI q' ++ [(v : Int)] = nI (q' ++ [v]) := (nI_app _ _).symm
          have e3 : (q' ++ [v]).length = q'.length + 1 := by simp
          cases p'
          · obtain ⟨z, hz0⟩ := List.length_eq_one_iff.1 (j5 rfl)
            have hap1 : AVal.lit q'.length (ints (nI q')) = .lit 1 [.val (.int .i64 (z : Int))] := by rw [hz0]; rfl
            simp (disch := first | assumption | omega | rfl | simp only [RH]) only [↓RP, RG, FX, RQ, ↓reduceIte, Nat.reduceEqDiff, reduceCtorEq, Nat.reduceBEq, Nat.reduceAdd, Nat.reduceLeDiff, qv, qh, hgv, gv, hql', e1, Int.toNat_natCast]
            rw [hap1]
            simp (disch := first | assumption | omega | rfl | simp only [RH]) only [↓RP, RG, FX, RQ, ↓reduceIte, Nat.reduceEqDiff, reduceCtorEq, Nat.reduceBEq, Nat.reduceAdd, Nat.reduceLeDiff, append_litI]
            exact ⟨(j + 1, q' ++ [v], true), hnew, by rw [hz0]; rfl, by simp only; omega⟩
          · simp (disch := first | assumption | omega | rfl | simp only [RH]) only [↓RP, RG, FX, RQ, ↓reduceIte, Nat.reduceEqDiff, reduceCtorEq, Nat.reduceBEq, Nat.reduceAdd, Nat.reduceLeDiff, qv, qh, hgv, gv, hql', e1, append_ref1, apRI_ints, Int.toNat_natCast]
            exact ⟨(j + 1, q' ++ [v], true), hnew, by simp only [qv, qh, nI_app, List.length_append, List.length_singleton]; rfl, by simp only; omega⟩
      · obtain rfl : (adjT W n l u).length = j := by omega
        simp (disch := first | assumption | omega | rfl | simp only [RH]) only [↓RP, RG, FX, RQ, ↓reduceIte, Nat.reduceEqDiff, reduceCtorEq, Nat.reduceBEq, Nat.reduceAdd, Nat.reduceLeDiff]
        obtain ⟨t, ht⟩ := j3
        have hqt : q'.length = q.length + t.length := by rw [ht, List.length_append]
        refine ⟨(q', i + 1, p'), ⟨j2, by simp only; omega, fun j hj z hz => ?_, j5⟩, rfl, by simp only; omega⟩
        simp only at hj hz ⊢
        have hgj : q'.getD j 0 = q.getD j 0 := by
          rw [ht, List.getD_eq_getElem?_getD, List.getD_eq_getElem?_getD, List.getElem?_append_left (by omega)]
        rw [hgj] at hz
        by_cases hji : j = i
        · subst hji
          rw [hu] at hz
          exact j4 z (by rw [List.take_length]; exact hz)
        · rw [ht]
          exact List.mem_append_left _ (i3 j (by omega) z hz)
    · simp (disch := first | assumption | omega | rfl | simp only [RH]) only [↓RP, RG, FX, RQ, ↓reduceIte, Nat.reduceEqDiff, reduceCtorEq, Nat.reduceBEq, Nat.reduceAdd, Nat.reduceLeDiff, qv, qh, hql, hgi, hra, Int.toNat_natCast]
      refine loopK_I [2, 10, 11, 12, 13, 59, 60, 61] (fun s : Nat × List Nat × Bool => s.1 ≤ (adjT W n l u).length ∧ Met (adjT W n l) n x s.2.1 ∧ (∃ t, s.2.1 = q ++ t) ∧ (∀ z ∈ (adjT W n l u).take s.1, z ∈ s.2.1) ∧ (s.2.2 = false → s.2.1.length = 1))
        (fun s => ⟨[(2, I y), (10, .list true false n (LL (abv W n l))), (11, .ref 1 0 n n), (12, qv s.2.2 s.2.1), (13, I i), (59, LR (nI (adjT W n l u)).isEmpty (nI (adjT W n l u))), (60, I (adjT W n l u).length), (61, I s.1)], ⟨24, 3, [I W, I H, BA b l]⟩ :: ⟨4, 1, bools (fB n fun z => decide (z ∈ s.2.1))⟩ :: qh s.2.2 s.2.1⟩) (fun s => (adjT W n l u).length - s.1) (0, q, true) ⟨by omega, i1, ⟨[], by simp⟩, by simp, i4⟩ (by simp only [↓RP, RG, FX, RQ, ↓reduceIte, Nat.reduceEqDiff, reduceCtorEq, Nat.reduceBEq, Nat.reduceAdd, Nat.reduceLeDiff, hai]; rfl) ?_
      rintro ⟨j, q', p'⟩ ⟨j1, j2, j3, j4, j5⟩
      simp only at j1 j2 j3 j4 j5 ⊢
      have hqm' := j2.len
      have hql' : (ints (nI q')).length = q'.length := by rw [ints_length, nI_len]
      have hqn' := nI_len q'
      have hfl' := fB_len n fun z => decide (z ∈ q')
      by_cases hlt2 : j < (adjT W n l u).length
      · obtain ⟨v, hv⟩ : ∃ v, (adjT W n l u)[j]? = some v := ⟨_, List.getElem?_eq_getElem hlt2⟩
        have hvn : v < n := adjT_lt (List.mem_of_getElem? hv)
        have hgv : (nI (adjT W n l u)).getD j 0 = (v : Int) := by simp [nI, List.getD_eq_getElem?_getD, hv]
        have htk : (adjT W n l u).take (j + 1) = (adjT W n l u).take j ++ [v] := by rw [List.take_add_one, hv]; rfl
        have gv : (fB n fun z => decide (z ∈ q')).getD v false = decide (v ∈ q') := fB_get hvn
        have hcm' : u ∈ q' := by
          obtain ⟨t, ht⟩ := j3
          rw [ht]; exact List.mem_append_left _ hcm
        by_cases hin : v ∈ q'
        · rw [decide_eq_true hin] at gv
          simp (disch := first | assumption | omega | rfl | simp only [RH]) only [↓RP, RG, FX, RQ, ↓reduceIte, Nat.reduceEqDiff, reduceCtorEq, Nat.reduceBEq, Nat.reduceAdd, Nat.reduceLeDiff, hgv, gv, Int.toNat_natCast]
          refine ⟨(j + 1, q', p'), ⟨hlt2, j2, j3, fun z hz => ?_, j5⟩, rfl, by simp only; omega⟩
          simp only [htk, List.mem_append, List.mem_singleton] at hz
          rcases hz with h | h
          · exact j4 z h
          · rw [h]; exact hin
        · rw [decide_eq_false hin] at gv
          have hnew : (j + 1 ≤ (adjT W n l u).length) ∧ Met (adjT W n l) n x (q' ++ [v]) ∧ (∃ t, q' ++ [v] = q ++ t) ∧ (∀ z ∈ (adjT W n l u).take (j + 1), z ∈ q' ++ [v]) ∧ (true = false → (q' ++ [v]).length = 1) := by
            refine ⟨hlt2, j2.push hcm' (List.mem_of_getElem? hv) hvn hin, ?_, fun z hz => ?_, fun h => by cases h⟩
            · obtain ⟨t, ht⟩ := j3
              exact ⟨t ++ [v], by rw [ht, List.append_assoc]⟩
            · rw [htk] at hz
              rcases List.mem_append.1 hz with h | h
              · exact List.mem_append_left _ (j4 z h)
              · exact List.mem_append_right _ h
          have e1 : (fB n fun z => decide (z ∈ q')).set v true = fB n fun z => decide (z ∈ q' ++ [v]) := by
            rw [fB_set]
            unfold fB
            refine List.map_congr_left fun z _ => ?_
            by_cases hzv : z = v
            · subst hzv; rw [updN_same]; simp
            · rw [updN_other _ _ hzv]; simp [hzv]
          have e2 : nI q' ++ [(v : Int)] = nI (q' ++ [v]) := (nI_app _ _).symm
          have e3 : (q' ++ [v]).length = q'.length + 1 := by simp
          cases p'
          · obtain ⟨z, hz0⟩ := List.length_eq_one_iff.1 (j5 rfl)
            have hap1 : AVal.lit q'.length (ints (nI q')) = .lit 1 [.val (.int .i64 (z : Int))] := by rw [hz0]; rfl
            simp (disch := first | assumption | omega | rfl | simp only [RH]) only [↓RP, RG, FX, RQ, ↓reduceIte, Nat.reduceEqDiff, reduceCtorEq, Nat.reduceBEq, Nat.reduceAdd, Nat.reduceLeDiff, qv, qh, hgv, gv, hql', e1, Int.toNat_natCast]
            rw [hap1]
            simp (disch := first | assumption | omega | rfl | simp only [RH]) only [↓RP, RG, FX, RQ, ↓reduceIte, Nat.reduceEqDiff, reduceCtorEq, Nat.reduceBEq, Nat.reduceAdd, Nat.reduceLeDiff, append_litI]
            exact ⟨(j + 1, q' ++ [v], true), hnew, by rw [hz0]; rfl, by simp only; omega⟩
          · simp (disch := first | assumption | omega | rfl | simp only [RH]) only [↓RP, RG, FX, RQ, ↓reduceIte, Nat.reduceEqDiff, reduceCtorEq, Nat.reduceBEq, Nat.reduceAdd, Nat.reduceLeDiff, qv, qh, hgv, gv, hql', e1, append_ref1, apRI_ints, Int.toNat_natCast]
            exact ⟨(j + 1, q' ++ [v], true), hnew, by simp only [qv, qh, nI_app, List.length_append, List.length_singleton]; rfl, by simp only; omega⟩
      · obtain rfl : (adjT W n l u).length = j := by omega
        simp (disch := first | assumption | omega | rfl | simp only [RH]) only [↓RP, RG, FX, RQ, ↓reduceIte, Nat.reduceEqDiff, reduceCtorEq, Nat.reduceBEq, Nat.reduceAdd, Nat.reduceLeDiff]
        obtain ⟨t, ht⟩ := j3
        have hqt : q'.length = q.length + t.length := by rw [ht, List.length_append]
        refine ⟨(q', i + 1, p'), ⟨j2, by simp only; omega, fun j hj z hz => ?_, j5⟩, rfl, by simp only; omega⟩
        simp only at hj hz ⊢
        have hgj : q'.getD j 0 = q.getD j 0 := by
          rw [ht, List.getD_eq_getElem?_getD, List.getD_eq_getElem?_getD, List.getElem?_append_left (by omega)]
        rw [hgj] at hz
        by_cases hji : j = i
        · subst hji
          rw [hu] at hz
          exact j4 z (by rw [List.take_length]; exact hz)
        · rw [ht]
          exact List.mem_append_left _ (i3 j (by omega) z hz)
  · obtain rfl : q.length = i := by omega
    have hcl : ∀ z, z ∈ q ↔ Wy (adjT W n l) x z := fun z => ⟨fun h => (i1.wy z h).2, fun h => h.closed (p := fun z => z ∈ q) (fun v w hv hw => by
      obtain ⟨j, hj, rfl⟩ := List.mem_iff_getElem.1 hv
      refine i3 j hj w ?_
      rw [List.getD_eq_getElem?_getD, List.getElem?_eq_getElem hj]; exact hw) i1.me⟩
    have gy : (fB n fun z => decide (z ∈ q)).getD y false = decide (y ∈ q) := fB_get hyn
    have hR : decide (y ∈ q) = R := by
      cases R with
      | true => exact decide_eq_true ((hcl y).2 (hdd.1 rfl))
      | false => exact decide_eq_false fun h => by have := hdd.2 ((hcl y).1 h); cases this
    rw [hR] at gy
    cases p
    · simp (disch := first | assumption | omega | rfl | simp only [RH]) only [↓RP, RG, FX, RQ, ↓reduceIte, Nat.reduceEqDiff, reduceCtorEq, Nat.reduceBEq, Nat.reduceAdd, Nat.reduceLeDiff, qv, qh, hql, gy, Int.toNat_natCast]
      rw [resVal_2 rfl]; simp (disch := first | assumption | omega | rfl | simp only [RH]) only [↓RP, RG, FX, RQ, ↓reduceIte, Nat.reduceEqDiff, reduceCtorEq, Nat.reduceBEq, Nat.reduceAdd, Nat.reduceLeDiff, RS]
    · simp (disch := first | assumption | omega | rfl | simp only [RH]) only [↓RP, RG, FX, RQ, ↓reduceIte, Nat.reduceEqDiff, reduceCtorEq, Nat.reduceBEq, Nat.reduceAdd, Nat.reduceLeDiff, qv, qh, hql, gy, Int.toNat_natCast]
      rw [resVal_2 rfl]; simp (disch := first | assumption | omega | rfl | simp only [RH]) only [↓RP, RG, FX, RQ, ↓reduceIte, Nat.reduceEqDiff, reduceCtorEq, Nat.reduceBEq, Nat.reduceAdd, Nat.reduceLeDiff, RS]
end Go.Proofs.Ytakeaicfhllmkaa

/- Chapter 11: the parts, by both. -/
set_option linter.unusedSimpArgs false
set_option linter.unusedVariables false
set_option maxRecDepth 100000
namespace Go.Proofs.Ytakeaicfhllmkaa
open Go Go.Proofs Go.AW

theorem rowsC_fr (k : Nat) (ps : List (List Nat)) : ∀ x, x ∈ rowsC ps → allFresh (k + 2) x = true := by
  intro x hx
  obtain ⟨r, _, rfl⟩ := List.mem_map.1 hx
  simp [allFresh, ints_fresh]
theorem PV_fr (k : Nat) (ps : List (List Nat)) : allFresh (k + 3) (PV ps) = true := by
  show ((true || (rowsC ps).isEmpty) && (rowsC ps).all (allFresh (k + 2))) = true
  rw [Bool.true_or, Bool.true_and, List.all_eq_true]
  exact rowsC_fr k ps
theorem PV_res (h : List AObj) (k : Nat) (ps : List (List Nat)) : resOf h (k + 3) (PV ps) = PV ps := by
  show resOf h (k + 2 + 1) (.list true _ _ (rowsC ps)) = _
  rw [resOf_list, rowsC_res]; rfl
theorem parts_len {W n : Nat} {l : List Bool} : (PL W n l).length ≤ n := by
  obtain ⟨m, hmn, hst, hcm, hfin⟩ := lists_run W n l
  rw [← hfin, lSt_len (m := m) (fun k hk => (hst k hk).2.imp fun a h => h.2.1) m (Nat.le_refl _)]
  exact hmn
theorem partsPP_bad (w h : Int) (b : Bool) (l : List Bool) (hz : gchk w h l.length ≠ 0) : Contract Try.prog 6 [GA w h b l] (.tuple [PV [], I (gchk w h l.length)]) := by
  refine Contract.intro (effS [] false) 6 follows Try.func6 rfl rfl (by kernel_rfl) (Nat.le_of_ble_eq_true rfl) ?_
  simp (disch := first | assumption | omega | rfl | simp only [RH]) only [↓RP, RG, FX, RQ, ↓reduceIte, Nat.reduceEqDiff, reduceCtorEq, Nat.reduceBEq, Nat.reduceAdd, Nat.reduceLeDiff, args0_1]
  refine callK_F 6 (gcheckP_c w h b l) (by simp (disch := first | assumption | omega | rfl | simp only [RH]) only [↓RP, RG, FX, RQ, ↓reduceIte, Nat.reduceEqDiff, reduceCtorEq, Nat.reduceBEq, Nat.reduceAdd, Nat.reduceLeDiff, RA] <;> rfl) (.inl (by simp [allFresh, ints_fresh, bools_fresh])) ?_
  simp (disch := first | assumption | omega | rfl | simp only [RH]) only [↓RP, RG, FX, RQ, ↓reduceIte, Nat.reduceEqDiff, reduceCtorEq, Nat.reduceBEq, Nat.reduceAdd, Nat.reduceLeDiff]
  rw [resVal_2 rfl]; simp (disch := first | assumption | omega | rfl | simp only [RH]) only [↓RP, RG, FX, RQ, ↓reduceIte, Nat.reduceEqDiff, reduceCtorEq, Nat.reduceBEq, Nat.reduceAdd, Nat.reduceLeDiff, RS]
  first | done | rfl
theorem partsPP_c {W H n : Nat} (hN : W + H = n) (hW0 : 0 < W) (hH0 : 0 < H) (hn64 : n ≤ 64) (b : Bool) {l : List Bool} (hn : l.length = W * H) : Contract Try.prog 6 [GA W H b l] (.tuple [PV (PL W n l), I 0]) := by
  have hz : gchk W H l.length = 0 := gchk_ok ⟨by omega, by omega, by omega, by omega, by rw [hn, Int.natCast_mul]⟩
  refine Contract.intro (effS [] false) 6 follows Try.func6 rfl rfl (by kernel_rfl) (Nat.le_of_ble_eq_true rfl) ?_
  simp (disch := first | assumption | omega | rfl | simp only [RH]) only [↓RP, RG, FX, RQ, ↓reduceIte, Nat.reduceEqDiff, reduceCtorEq, Nat.reduceBEq, Nat.reduceAdd, Nat.reduceLeDiff, args0_1]
  refine callK_F 6 (gcheckP_c W H b l) (by simp (disch := first | assumption | omega | rfl | simp only [RH]) only [↓RP, RG, FX, RQ, ↓reduceIte, Nat.reduceEqDiff, reduceCtorEq, Nat.reduceBEq, Nat.reduceAdd, Nat.reduceLeDiff, RA] <;> rfl) (.inl (by simp [allFresh, ints_fresh, bools_fresh])) ?_
  simp (disch := first | assumption | omega | rfl | simp only [RH]) only [↓RP, RG, FX, RQ, ↓reduceIte, Nat.reduceEqDiff, reduceCtorEq, Nat.reduceBEq, Nat.reduceAdd, Nat.reduceLeDiff, hz]
  refine callK_F 6 (partsP_c hN hW0 hH0 hn64 b hn) (by simp (disch := first | assumption | omega | rfl | simp only [RH]) only [↓RP, RG, FX, RQ, ↓reduceIte, Nat.reduceEqDiff, reduceCtorEq, Nat.reduceBEq, Nat.reduceAdd, Nat.reduceLeDiff, RA] <;> rfl) (.inl (PV_fr 3 _)) ?_
  simp (disch := first | assumption | omega | rfl | simp only [RH]) only [↓RP, RG, FX, RQ, ↓reduceIte, Nat.reduceEqDiff, reduceCtorEq, Nat.reduceBEq, Nat.reduceAdd, Nat.reduceLeDiff]
  rw [resVal_2 rfl]; simp (disch := first | assumption | omega | rfl | simp only [RH]) only [↓RP, RG, FX, RQ, ↓reduceIte, Nat.reduceEqDiff, reduceCtorEq, Nat.reduceBEq, Nat.reduceAdd, Nat.reduceLeDiff, RS]
  first | done | (simp only [PV_res])
theorem partsRR_bad (w h : Int) (b : Bool) (l : List Bool) (hz : gchk w h l.length ≠ 0) : Contract Try.prog 7 [GA w h b l] (.tuple [PV [], I (gchk w h l.length)]) := by
  refine Contract.intro (effS [] false) 6 follows Try.func7 rfl rfl (by kernel_rfl) (Nat.le_of_ble_eq_true rfl) ?_
  simp (disch := first | assumption | omega | rfl | simp only [RH]) only [↓RP, RG, FX, RQ, ↓reduceIte, Nat.reduceEqDiff, reduceCtorEq, Nat.reduceBEq, Nat.reduceAdd, Nat.reduceLeDiff, args0_1]
  refine callK_F 6 (gcheckR_c w h b l) (by simp (disch := first | assumption | omega | rfl | simp only [RH]) only [↓RP, RG, FX, RQ, ↓reduceIte, Nat.reduceEqDiff, reduceCtorEq, Nat.reduceBEq, Nat.reduceAdd, Nat.reduceLeDiff, RA] <;> rfl) (.inl (by simp [allFresh, ints_fresh, bools_fresh])) ?_
  simp (disch := first | assumption | omega | rfl | simp only [RH]) only [↓RP, RG, FX, RQ, ↓reduceIte, Nat.reduceEqDiff, reduceCtorEq, Nat.reduceBEq, Nat.reduceAdd, Nat.reduceLeDiff]
  refine callK_F 6 (gcheckR_c w h b l) (by simp (disch := first | assumption | omega | rfl | simp only [RH]) only [↓RP, RG, FX, RQ, ↓reduceIte, Nat.reduceEqDiff, reduceCtorEq, Nat.reduceBEq, Nat.reduceAdd, Nat.reduceLeDiff, RA] <;> rfl) (.inl (by simp [allFresh, ints_fresh, bools_fresh])) ?_
  simp (disch := first | assumption | omega | rfl | simp only [RH]) only [↓RP, RG, FX, RQ, ↓reduceIte, Nat.reduceEqDiff, reduceCtorEq, Nat.reduceBEq, Nat.reduceAdd, Nat.reduceLeDiff]
  rw [resVal_2 rfl]; simp (disch := first | assumption | omega | rfl | simp only [RH]) only [↓RP, RG, FX, RQ, ↓reduceIte, Nat.reduceEqDiff, reduceCtorEq, Nat.reduceBEq, Nat.reduceAdd, Nat.reduceLeDiff, RS]
  first | done | rfl
theorem partsRR_c {W H n : Nat} (hN : W + H = n) (hW0 : 0 < W) (hH0 : 0 < H) (hn64 : n ≤ 64) (b : Bool) {l : List Bool} (hn : l.length = W * H) : Contract Try.prog 7 [GA W H b l] (.tuple [PV (PL W n l), I 0]) := by
  have hz : gchk W H l.length = 0 := gchk_ok ⟨by omega, by omega, by omega, by omega, by rw [hn, Int.natCast_mul]⟩
  refine Contract.intro (effS [] false) 6 follows Try.func7 rfl rfl (by kernel_rfl) (Nat.le_of_ble_eq_true rfl) ?_
  simp (disch := first | assumption | omega | rfl | simp only [RH]) only [↓RP, RG, FX, RQ, ↓reduceIte, Nat.reduceEqDiff, reduceCtorEq, Nat.reduceBEq, Nat.reduceAdd, Nat.reduceLeDiff, args0_1]
  refine callK_F 6 (gcheckR_c W H b l) (by simp (disch := first | assumption | omega | rfl | simp only [RH]) only [↓RP, RG, FX, RQ, ↓reduceIte, Nat.reduceEqDiff, reduceCtorEq, Nat.reduceBEq, Nat.reduceAdd, Nat.reduceLeDiff, RA] <;> rfl) (.inl (by simp [allFresh, ints_fresh, bools_fresh])) ?_
  simp (disch := first | assumption | omega | rfl | simp only [RH]) only [↓RP, RG, FX, RQ, ↓reduceIte, Nat.reduceEqDiff, reduceCtorEq, Nat.reduceBEq, Nat.reduceAdd, Nat.reduceLeDiff, hz]
  refine callK_F 6 (listed_c hN hW0 hn64 b hn) (by simp (disch := first | assumption | omega | rfl | simp only [RH]) only [↓RP, RG, FX, RQ, ↓reduceIte, Nat.reduceEqDiff, reduceCtorEq, Nat.reduceBEq, Nat.reduceAdd, Nat.reduceLeDiff, RA] <;> rfl) (.inl (PV_fr 3 _)) ?_
  simp (disch := first | assumption | omega | rfl | simp only [RH]) only [↓RP, RG, FX, RQ, ↓reduceIte, Nat.reduceEqDiff, reduceCtorEq, Nat.reduceBEq, Nat.reduceAdd, Nat.reduceLeDiff]
  rw [resVal_2 rfl]; simp (disch := first | assumption | omega | rfl | simp only [RH]) only [↓RP, RG, FX, RQ, ↓reduceIte, Nat.reduceEqDiff, reduceCtorEq, Nat.reduceBEq, Nat.reduceAdd, Nat.reduceLeDiff, RS]
  first | done | (simp only [PV_res])

/-- Lists compared. -/
theorem same11_c (b1 b2 : Bool) (l m : List Int) (hl : l.length ≤ 9223372036854775807) : Contract Try.prog 30 [LA b1 l, LA b2 m] (B (decide (l = m))) := by
  refine Contract.intro (effS [] false) 6 follows Try.func30 rfl rfl (by kernel_rfl) (Nat.le_of_ble_eq_true rfl) ?_
  by_cases hlen : l.length = m.length
  · simp (disch := first | assumption | omega | rfl | simp only [RH]) only [↓RP, RG, FX, RQ, ↓reduceIte, Nat.reduceEqDiff, reduceCtorEq, Nat.reduceBEq, Nat.reduceAdd, Nat.reduceLeDiff, args0_2]
    refine loopK_I [0, 1, 5] (fun k : Nat => k ≤ l.length ∧ l.take k = m.take k) (fun k : Nat => ⟨[(0, LA b1 l), (1, LA b2 m), (5, I k)], []⟩) (fun k => l.length - k) 0 (by simp) (by simp only [↓RP, RG, FX, RQ, ↓reduceIte, Nat.reduceEqDiff, reduceCtorEq, Nat.reduceBEq, Nat.reduceAdd, Nat.reduceLeDiff]; rfl) ?_
    rintro k ⟨hk, htk⟩
    by_cases hlt : k < l.length
    · by_cases he : l.getD k 0 = m.getD k 0
      · simp (disch := first | assumption | omega | rfl | simp only [RH]) only [↓RP, RG, FX, RQ, ↓reduceIte, Nat.reduceEqDiff, reduceCtorEq, Nat.reduceBEq, Nat.reduceAdd, Nat.reduceLeDiff]
        refine ⟨k + 1, ⟨by omega, ?_⟩, rfl, by omega⟩
        rw [List.take_add_one, List.take_add_one, htk]
        simp [hlt, show k < m.length by omega] at he
        rw [List.getElem?_eq_getElem hlt, List.getElem?_eq_getElem (show k < m.length by omega), he]
      · simp (disch := first | assumption | omega | rfl | simp only [RH]) only [↓RP, RG, FX, RQ, ↓reduceIte, Nat.reduceEqDiff, reduceCtorEq, Nat.reduceBEq, Nat.reduceAdd, Nat.reduceLeDiff]
        rw [resVal_1 rfl]; simp (disch := first | assumption | omega | rfl | simp only [RH]) only [↓RP, RG, FX, RQ, ↓reduceIte, Nat.reduceEqDiff, reduceCtorEq, Nat.reduceBEq, Nat.reduceAdd, Nat.reduceLeDiff, RS]
        refine okF ?_
        rintro rfl; exact he rfl
    · simp (disch := first | assumption | omega | rfl | simp only [RH]) only [↓RP, RG, FX, RQ, ↓reduceIte, Nat.reduceEqDiff, reduceCtorEq, Nat.reduceBEq, Nat.reduceAdd, Nat.reduceLeDiff]
      rw [resVal_1 rfl]; simp (disch := first | assumption | omega | rfl | simp only [RH]) only [↓RP, RG, FX, RQ, ↓reduceIte, Nat.reduceEqDiff, reduceCtorEq, Nat.reduceBEq, Nat.reduceAdd, Nat.reduceLeDiff, RS]
      refine okT ?_
      have hk' : k = l.length := by omega
      rw [hk', List.take_length] at htk
      rw [htk, hlen, List.take_length]
  · simp (disch := first | assumption | omega | rfl | simp only [RH]) only [↓RP, RG, FX, RQ, ↓reduceIte, Nat.reduceEqDiff, reduceCtorEq, Nat.reduceBEq, Nat.reduceAdd, Nat.reduceLeDiff, args0_2]
    rw [resVal_1 rfl]; simp (disch := first | assumption | omega | rfl | simp only [RH]) only [↓RP, RG, FX, RQ, ↓reduceIte, Nat.reduceEqDiff, reduceCtorEq, Nat.reduceBEq, Nat.reduceAdd, Nat.reduceLeDiff, RS]
    refine okF ?_
    rintro rfl; exact hlen rfl
/-- Rows that come in. -/
def rowsA (ps : List (List Nat)) : List AVal := ps.map fun l => LA false (nI l)
def PA (ps : List (List Nat)) : AVal := .list false ps.isEmpty ps.length (rowsA ps)
theorem rowsA_at {ps : List (List Nat)} {i : Nat} (h : i < ps.length) : ((rowsA ps).drop i)[0]? = some (LA false (nI (ps.getD i []))) := by
  rw [List.getElem?_drop, Nat.add_zero, rowsA, List.getElem?_map, List.getElem?_eq_getElem h, List.getD_eq_getElem?_getD, List.getElem?_eq_getElem h]; rfl
theorem rowsC_arg (h : List AObj) (k : Nat) (ps : List (List Nat)) : (rowsC ps).map (argOf h (k + 2)) = rowsA ps := by
  unfold rowsC rowsA
  rw [List.map_map]
  refine List.map_congr_left fun l _ => ?_
  simp [argOf_list, ints_arg]
theorem PV_arg (h : List AObj) (k : Nat) (ps : List (List Nat)) : argOf h (k + 3) (PV ps) = PA ps := by
  show argOf h (k + 2 + 1) (.list true _ _ (rowsC ps)) = _
  rw [argOf_list, rowsC_arg]; rfl
theorem sameParts_c {ps : List (List Nat)} (hl : ps.length ≤ 1000000) (hr : ∀ r ∈ ps, r.length ≤ 1000000) : Contract Try.prog 14 [PA ps, PA ps] (B true) := by
  refine Contract.intro (effS [] false) 6 follows Try.func14 rfl rfl (by kernel_rfl) (Nat.le_of_ble_eq_true rfl) ?_
  simp only [PA]
  simp (disch := first | assumption | omega | rfl | simp only [RH]) only [↓RP, RG, FX, RQ, ↓reduceIte, Nat.reduceEqDiff, reduceCtorEq, Nat.reduceBEq, Nat.reduceAdd, Nat.reduceLeDiff, args0_2]
  refine loopK_I [0, 1, 5] (fun k : Nat => k ≤ ps.length) (fun k : Nat => ⟨[(0, .list false ps.isEmpty ps.length (rowsA ps)), (1, .list false ps.isEmpty ps.length (rowsA ps)), (5, I k)], []⟩) (fun k => ps.length - k) 0 (by simp) (by simp only [↓RP, RG, FX, RQ, ↓reduceIte, Nat.reduceEqDiff, reduceCtorEq, Nat.reduceBEq, Nat.reduceAdd, Nat.reduceLeDiff]; rfl) ?_
  intro k hk
  by_cases hlt : k < ps.length
  · have hrk := rowsA_at hlt
    have hlk : (ps.getD k []).length ≤ 1000000 := hr _ (by rw [List.getD_eq_getElem?_getD, List.getElem?_eq_getElem hlt]; exact List.getElem_mem hlt)
    generalize ps.getD k [] = r at *
    have hs := same11_c false false (nI r) (nI r) (by rw [nI_len]; omega)
    rw [decide_eq_true rfl] at hs
    simp (disch := first | assumption | omega | rfl | simp only [RH]) only [↓RP, RG, FX, RQ, ↓reduceIte, Nat.reduceEqDiff, reduceCtorEq, Nat.reduceBEq, Nat.reduceAdd, Nat.reduceLeDiff, hrk, Int.toNat_natCast]
    refine callK_F 6 (hs) (by simp (disch := first | assumption | omega | rfl | simp only [RH]) only [↓RP, RG, FX, RQ, ↓reduceIte, Nat.reduceEqDiff, reduceCtorEq, Nat.reduceBEq, Nat.reduceAdd, Nat.reduceLeDiff, RA] <;> rfl) (.inl (by simp [allFresh, ints_fresh, bools_fresh])) ?_
    simp (disch := first | assumption | omega | rfl | simp only [RH]) only [↓RP, RG, FX, RQ, ↓reduceIte, Nat.reduceEqDiff, reduceCtorEq, Nat.reduceBEq, Nat.reduceAdd, Nat.reduceLeDiff]
    exact ⟨k + 1, hlt, rfl, by omega⟩
  · simp (disch := first | assumption | omega | rfl | simp only [RH]) only [↓RP, RG, FX, RQ, ↓reduceIte, Nat.reduceEqDiff, reduceCtorEq, Nat.reduceBEq, Nat.reduceAdd, Nat.reduceLeDiff]
    rw [resVal_1 rfl]; simp (disch := first | assumption | omega | rfl | simp only [RH]) only [↓RP, RG, FX, RQ, ↓reduceIte, Nat.reduceEqDiff, reduceCtorEq, Nat.reduceBEq, Nat.reduceAdd, Nat.reduceLeDiff, RS]
end Go.Proofs.Ytakeaicfhllmkaa

/- Chapter 11: a layer of a part, by both. -/
set_option linter.unusedSimpArgs false
set_option linter.unusedVariables false
set_option maxRecDepth 100000
namespace Go.Proofs.Ytakeaicfhllmkaa
open Go Go.Proofs Go.AW

def layE (W : Nat) (r : List Nat) : List Nat := r.filter fun x => decide (x < W)
def layP (W : Nat) (r : List Nat) : List Nat := (r.filter fun x => !decide (x < W)).map fun x => x - W
theorem layE_snoc (W : Nat) (r : List Nat) (x : Nat) : layE W (r ++ [x]) = layE W r ++ if x < W then [x] else [] := by
  unfold layE; rw [List.filter_append]; by_cases h : x < W <;> simp [h]
theorem layP_snoc (W : Nat) (r : List Nat) (x : Nat) : layP W (r ++ [x]) = layP W r ++ if x < W then [] else [x - W] := by
  unfold layP; rw [List.filter_append, List.map_append]; by_cases h : x < W <;> simp [h]
theorem layE_len (W : Nat) (r : List Nat) : (layE W r).length ≤ r.length := List.length_filter_le _ _
theorem layP_len (W : Nat) (r : List Nat) : (layP W r).length ≤ r.length := by
  unfold layP; rw [List.length_map]; exact List.length_filter_le _ _
/-- The cells of a layer. -/
def lyC (W : Nat) (r : List Nat) : List AVal := [LR (layE W r).isEmpty (nI (layE W r)), LR (layP W r).isEmpty (nI (layP W r))]
theorem nI_isEmpty (r : List Nat) : (nI r).isEmpty = r.isEmpty := by cases r <;> rfl
theorem layerP_c {W H n : Nat} (hN : W + H = n) (hn64 : n ≤ 64) (b : Bool) {l : List Bool} (br : Bool) {r : List Nat} (hr : ∀ x ∈ r, x < n) (hrl : r.length ≤ 1000) : Contract Try.prog 26 [GA W H b l, LA br (nI r)] (.agg (lyC W r)) := by
  have hlen := nI_len r
  refine Contract.intro (effS [] false) 6 follows Try.func26 rfl rfl (by kernel_rfl) (Nat.le_of_ble_eq_true rfl) ?_
  simp (disch := first | assumption | omega | rfl | simp only [RH]) only [↓RP, RG, FX, RQ, ↓reduceIte, Nat.reduceEqDiff, reduceCtorEq, Nat.reduceBEq, Nat.reduceAdd, Nat.reduceLeDiff, args0_2]
  refine loopK_WW [2, 5, 4, 8, 9, 10] (fun i : Nat => i ≤ r.length) (fun i => ⟨[(2, .ptr 0 0 3), (5, .ptr 2 0 2), (4, .ptr 1 0 2), (8, LA br (nI r)), (9, I r.length), (10, I i)], [⟨24, 3, [I W, I H, BA b l]⟩, ⟨58, 2, [.cap0 true, .cap0 true]⟩, ⟨58, 2, [gw true 3 (ints (nI (layE W (r.take i)))), gw true 4 (ints (nI (layP W (r.take i))))]⟩, go 3 (ints (nI (layE W (r.take i)))), go 3 (ints (nI (layP W (r.take i))))]⟩) (fun i => r.length - i) 0 (by omega) ?_ ?_
  · simp only [↓RP, RG, FX, RQ, ↓reduceIte, Nat.reduceEqDiff, reduceCtorEq, Nat.reduceBEq, Nat.reduceAdd, Nat.reduceLeDiff, hlen]
    exact Wk.weak (fun t => .refl _) (.cons _ _ _ _ (WL.refl _) (.cons _ _ _ _ (WL.refl _) (.cons _ _ _ _ (.cons (.nil _) (.cons (.nil _) .nil)) (.nil _ (by simp [go, ints, nI, layE, layP])))))
  intro i hi
  have hE := layE_len W (r.take i)
  have hP := layP_len W (r.take i)
  rw [List.length_take] at hE hP
  have hEn := nI_len (layE W (r.take i))
  have hPn := nI_len (layP W (r.take i))
  have hEl : (nI (layE W (r.take i))).length ≤ 1000000000 := by omega
  have hPl : (nI (layP W (r.take i))).length ≤ 1000000000 := by omega
  by_cases hlt : i < r.length
  · obtain ⟨x, hx⟩ : ∃ x, r[i]? = some x := ⟨_, List.getElem?_eq_getElem hlt⟩
    have hxn := hr x (List.mem_of_getElem? hx)
    have hgx : (nI r).getD i 0 = (x : Int) := by simp [nI, List.getD_eq_getElem?_getD, hx]
    have htk : r.take (i + 1) = r.take i ++ [x] := by rw [List.take_add_one, hx]; rfl
    have s1 := layE_snoc W (r.take i) x
    have s2 := layP_snoc W (r.take i) x
    rw [← htk] at s1 s2
    by_cases hxW : x < W
    · rw [if_pos hxW] at s1 s2
      rw [List.append_nil] at s2
      have e1 : nI (layE W (r.take i)) ++ [(x : Int)] = nI (layE W (r.take (i + 1))) := by rw [s1, nI_app]
      simp (disch := first | assumption | omega | rfl | simp only [RH]) only [↓RP, RG, FX, RQ, ↓reduceIte, Nat.reduceEqDiff, reduceCtorEq, Nat.reduceBEq, Nat.reduceAdd, Nat.reduceLeDiff, hgx, append_int, e1, Int.toNat_natCast]
      exact ⟨i + 1, hlt, Wk.of_eq (by rw [s2]; rfl), by omega⟩
    · rw [if_neg hxW] at s1 s2
      rw [List.append_nil] at s1
      have hsub : (x : Int) - (W : Int) = ((x - W : Nat) : Int) := by omega
      have e1 : nI (layP W (r.take i)) ++ [((x - W : Nat) : Int)] = nI (layP W (r.take (i + 1))) := by rw [s2, nI_app]
      simp (disch := first | assumption | omega | rfl | simp only [RH]) only [↓RP, RG, FX, RQ, ↓reduceIte, Nat.reduceEqDiff, reduceCtorEq, Nat.reduceBEq, Nat.reduceAdd, Nat.reduceLeDiff, hgx, hsub, append_int, e1, Int.toNat_natCast]
      exact ⟨i + 1, hlt, Wk.of_eq (by rw [s1]; rfl), by omega⟩
  · obtain rfl : r.length = i := by omega
    rw [List.take_length] at *
    simp (disch := first | assumption | omega | rfl | simp only [RH]) only [↓RP, RG, FX, RQ, ↓reduceIte, Nat.reduceEqDiff, reduceCtorEq, Nat.reduceBEq, Nat.reduceAdd, Nat.reduceLeDiff]
    rw [resVal_1 rfl]; simp (disch := first | assumption | omega | rfl | simp only [RH]) only [↓RP, RG, FX, RQ, ↓reduceIte, Nat.reduceEqDiff, reduceCtorEq, Nat.reduceBEq, Nat.reduceAdd, Nat.reduceLeDiff, RS]
    simp only [lyC, Bool.true_and, ints_isEmpty, nI_isEmpty]
theorem layerR_c {W H n : Nat} (hN : W + H = n) (hn64 : n ≤ 64) (b : Bool) {l : List Bool} (br : Bool) {r : List Nat} (hr : ∀ x ∈ r, x < n) (hrl : r.length ≤ 1000) : Contract Try.prog 27 [GA W H b l, LA br (nI r)] (.agg (lyC W r)) := by
  have hlen := nI_len r
  refine Contract.intro (effS [] false) 6 follows Try.func27 rfl rfl (by kernel_rfl) (Nat.le_of_ble_eq_true rfl) ?_
  simp (disch := first | assumption | omega | rfl | simp only [RH]) only [↓RP, RG, FX, RQ, ↓reduceIte, Nat.reduceEqDiff, reduceCtorEq, Nat.reduceBEq, Nat.reduceAdd, Nat.reduceLeDiff, args0_2]
  refine loopK_WW [1, 2, 5, 4, 6] (fun i : Nat => i ≤ r.length) (fun i => ⟨[(1, LA br (nI r)), (2, .ptr 0 0 3), (5, .ptr 2 0 2), (4, .ptr 1 0 2), (6, I i)], [⟨24, 3, [I W, I H, BA b l]⟩, ⟨58, 2, [.cap0 true, .cap0 true]⟩, ⟨58, 2, [gw true 3 (ints (nI (layE W (r.take i)))), gw true 4 (ints (nI (layP W (r.take i))))]⟩, go 3 (ints (nI (layE W (r.take i)))), go 3 (ints (nI (layP W (r.take i))))]⟩) (fun i => r.length - i) 0 (by omega) ?_ ?_
  · simp only [↓RP, RG, FX, RQ, ↓reduceIte, Nat.reduceEqDiff, reduceCtorEq, Nat.reduceBEq, Nat.reduceAdd, Nat.reduceLeDiff, hlen]
    exact Wk.weak (fun t => .refl _) (.cons _ _ _ _ (WL.refl _) (.cons _ _ _ _ (WL.refl _) (.cons _ _ _ _ (.cons (.nil _) (.cons (.nil _) .nil)) (.nil _ (by simp [go, ints, nI, layE, layP])))))
  intro i hi
  have hE := layE_len W (r.take i)
  have hP := layP_len W (r.take i)
  rw [List.length_take] at hE hP
  have hEn := nI_len (layE W (r.take i))
  have hPn := nI_len (layP W (r.take i))
  have hEl : (nI (layE W (r.take i))).length ≤ 1000000000 := by omega
  have hPl : (nI (layP W (r.take i))).length ≤ 1000000000 := by omega
  by_cases hlt : i < r.length
  · obtain ⟨x, hx⟩ : ∃ x, r[i]? = some x := ⟨_, List.getElem?_eq_getElem hlt⟩
    have hxn := hr x (List.mem_of_getElem? hx)
    have hgx : (nI r).getD i 0 = (x : Int) := by simp [nI, List.getD_eq_getElem?_getD, hx]
    have htk : r.take (i + 1) = r.take i ++ [x] := by rw [List.take_add_one, hx]; rfl
    have s1 := layE_snoc W (r.take i) x
    have s2 := layP_snoc W (r.take i) x
    rw [← htk] at s1 s2
    by_cases hxW : x < W
    · rw [if_pos hxW] at s1 s2
      rw [List.append_nil] at s2
      have e1 : nI (layE W (r.take i)) ++ [(x : Int)] = nI (layE W (r.take (i + 1))) := by rw [s1, nI_app]
      simp (disch := first | assumption | omega | rfl | simp only [RH]) only [↓RP, RG, FX, RQ, ↓reduceIte, Nat.reduceEqDiff, reduceCtorEq, Nat.reduceBEq, Nat.reduceAdd, Nat.reduceLeDiff, hgx, append_int, e1, Int.toNat_natCast]
      exact ⟨i + 1, hlt, Wk.of_eq (by rw [s2]; rfl), by omega⟩
    · rw [if_neg hxW] at s1 s2
      rw [List.append_nil] at s1
      have hsub : (x : Int) - (W : Int) = ((x - W : Nat) : Int) := by omega
      have e1 : nI (layP W (r.take i)) ++ [((x - W : Nat) : Int)] = nI (layP W (r.take (i + 1))) := by rw [s2, nI_app]
      simp (disch := first | assumption | omega | rfl | simp only [RH]) only [↓RP, RG, FX, RQ, ↓reduceIte, Nat.reduceEqDiff, reduceCtorEq, Nat.reduceBEq, Nat.reduceAdd, Nat.reduceLeDiff, hgx, hsub, append_int, e1, Int.toNat_natCast]
      exact ⟨i + 1, hlt, Wk.of_eq (by rw [s1]; rfl), by omega⟩
  · obtain rfl : r.length = i := by omega
    rw [List.take_length] at *
    simp (disch := first | assumption | omega | rfl | simp only [RH]) only [↓RP, RG, FX, RQ, ↓reduceIte, Nat.reduceEqDiff, reduceCtorEq, Nat.reduceBEq, Nat.reduceAdd, Nat.reduceLeDiff]
    rw [resVal_1 rfl]; simp (disch := first | assumption | omega | rfl | simp only [RH]) only [↓RP, RG, FX, RQ, ↓reduceIte, Nat.reduceEqDiff, reduceCtorEq, Nat.reduceBEq, Nat.reduceAdd, Nat.reduceLeDiff, RS]
    simp only [lyC, Bool.true_and, ints_isEmpty, nI_isEmpty]
end Go.Proofs.Ytakeaicfhllmkaa

/- Chapter 11: the parts hold each thread once. -/
set_option linter.unusedSimpArgs false
set_option linter.unusedVariables false
set_option maxRecDepth 100000
namespace Go.Proofs.Ytakeaicfhllmkaa
open Go Go.Proofs Go.AW

theorem lSt_flat {hd : Nat → Nat → Bool} {n m : Nat} (h : ∀ k, k < m → ∃ a, a < n ∧ (List.range n).find? (cnd hd n (lSt hd n k).2) = some a ∧ (∀ b, b < n → hd a b = true → hd b a = true → (lSt hd n k).2 b = false)) : ∀ k, k ≤ m → (lSt hd n k).1.flatten.Nodup ∧ ∀ x, x ∈ (lSt hd n k).1.flatten ↔ x < n ∧ (lSt hd n k).2 x = true
  | 0, _ => ⟨List.nodup_nil, fun x => ⟨(fun h => by cases h), fun h => by cases h.2⟩⟩
  | k + 1, hk => by
    obtain ⟨i1, i2⟩ := lSt_flat h k (by omega)
    obtain ⟨a, ha, hf, hz⟩ := h k (by omega)
    have hs : lSt hd n (k + 1) = ((lSt hd n k).1 ++ [mtl hd n a], fun b => (lSt hd n k).2 b || (hd a b && hd b a)) := by
      rw [lSt, hf]
    rw [hs]
    have hm : ∀ x, x ∈ mtl hd n a ↔ x < n ∧ hd a x = true ∧ hd x a = true := fun x => by
      rw [mtl, List.mem_filter, List.mem_range, Bool.and_eq_true]
    have he : ((lSt hd n k).1 ++ [mtl hd n a]).flatten = (lSt hd n k).1.flatten ++ mtl hd n a := by simp
    show ((lSt hd n k).1 ++ [mtl hd n a]).flatten.Nodup ∧ ∀ x, x ∈ ((lSt hd n k).1 ++ [mtl hd n a]).flatten ↔ x < n ∧ ((lSt hd n k).2 x || (hd a x && hd x a)) = true
    rw [he]
    refine ⟨List.nodup_append.2 ⟨i1, List.Pairwise.filter _ List.nodup_range, fun x hx y hy e => ?_⟩, fun x => ?_⟩
    · subst e
      have h1 := (i2 x).1 hx
      have h2 := (hm x).1 hy
      rw [hz x h2.1 h2.2.1 h2.2.2] at h1
      cases h1.2
    · rw [List.mem_append, i2, hm, Bool.or_eq_true, Bool.and_eq_true]
      constructor
      · rintro (⟨h1, h2⟩ | ⟨h1, h2⟩)
        · exact ⟨h1, .inl h2⟩
        · exact ⟨h1, .inr h2⟩
      · rintro ⟨h1, h2 | h2⟩
        · exact .inl ⟨h1, h2⟩
        · exact .inr ⟨h1, h2⟩
theorem PL_flat (W n : Nat) (l : List Bool) : (PL W n l).flatten.Nodup ∧ ∀ x, x ∈ (PL W n l).flatten ↔ x < n := by
  obtain ⟨m, hmn, hst, hcm, hfin⟩ := lists_run W n l
  obtain ⟨h1, h2⟩ := lSt_flat (m := m) (fun k hk => (hst k hk).2.imp fun a h => ⟨h.1, h.2.1, h.2.2.2.2⟩) m (Nat.le_refl _)
  rw [hfin] at h1 h2
  refine ⟨h1, fun x => ⟨fun h => ((h2 x).1 h).1, fun h => (h2 x).2 ⟨h, ?_⟩⟩⟩
  unfold lCt at hcm
  have : (List.range n).countP (lSt (hdB W n l) n m).2 = (List.range n).length := by rw [hcm]; simp
  exact List.countP_eq_length.1 this x (List.mem_range.2 h)
theorem PL_ne (W n : Nat) (l : List Bool) : ∀ r ∈ PL W n l, r ≠ [] := by
  obtain ⟨m, hmn, hst, hcm, hfin⟩ := lists_run W n l
  rw [← hfin]
  exact lSt_ne (m := m) (fun k hk => (hst k hk).2.imp fun a h => ⟨h.1, h.2.1, h.2.2.1⟩) m (Nat.le_refl _)
theorem PL_row {W n : Nat} {l : List Bool} {r : List Nat} (hr : r ∈ PL W n l) : r.length ≤ n ∧ ∀ x ∈ r, x < n := by
  obtain ⟨h1, h2⟩ := PL_flat W n l
  have hs : ∀ x ∈ r, x < n := fun x hx => (h2 x).1 (List.mem_flatten.2 ⟨r, hr, hx⟩)
  exact ⟨nodup_lt n r ((List.sublist_flatten_of_mem hr).nodup h1) hs, hs⟩
/-- Threads of the first parts, and the rest. -/
def spI (W n : Nat) (l : List Bool) (k : Nat) : List Nat := (List.range n).filter fun x => decide (x ∈ ((PL W n l).take k).flatten)
def spO (W n : Nat) (l : List Bool) (k : Nat) : List Nat := (List.range n).filter fun x => !decide (x ∈ ((PL W n l).take k).flatten)
theorem sp_mem {W n : Nat} {l : List Bool} (k : Nat) : (((PL W n l).take k).flatten.Nodup ∧ ((PL W n l).drop k).flatten.Nodup) ∧ (∀ x, x ∈ ((PL W n l).take k).flatten → x < n) ∧ ∀ x, x ∈ ((PL W n l).drop k).flatten ↔ x < n ∧ ¬ x ∈ ((PL W n l).take k).flatten := by
  obtain ⟨h1, h2⟩ := PL_flat W n l
  have he : (PL W n l).flatten = ((PL W n l).take k).flatten ++ ((PL W n l).drop k).flatten := by rw [← List.flatten_append, List.take_append_drop]
  rw [he] at h1 h2
  obtain ⟨n1, n2, n3⟩ := List.nodup_append.1 h1
  refine ⟨⟨n1, n2⟩, fun x hx => (h2 x).1 (List.mem_append_left _ hx), fun x => ⟨fun hx => ⟨(h2 x).1 (List.mem_append_right _ hx), fun hy => n3 x hy x hx rfl⟩, fun ⟨hx, hy⟩ => ?_⟩⟩
  rcases List.mem_append.1 ((h2 x).2 hx) with h | h
  · exact absurd h hy
  · exact h
theorem nI_flat (ps : List (List Nat)) : (rwI ps).flatten = nI ps.flatten := by
  unfold rwI nI
  rw [List.map_flatten]
theorem srt_set {J K : List Nat} (hJ : J.Nodup) (hK : K.Pairwise (· < ·)) (h : ∀ x, x ∈ J ↔ x ∈ K) : srt (nI J) = nI K := by
  rw [srt_nI]
  exact congrArg nI (incN_ext _ _ (srtN_strict hJ) hK fun x => by rw [srtN_mem]; exact h x)
theorem srt_spI {W n : Nat} {l : List Bool} (k : Nat) : srt (rwI ((PL W n l).take k)).flatten = nI (spI W n l k) := by
  obtain ⟨⟨n1, n2⟩, h1, h2⟩ := sp_mem (W := W) (n := n) (l := l) k
  rw [nI_flat]
  refine srt_set n1 (List.Pairwise.filter _ List.pairwise_lt_range) fun x => ?_
  rw [spI, List.mem_filter, List.mem_range, decide_eq_true_eq]
  exact ⟨fun h => ⟨h1 x h, h⟩, fun h => h.2⟩
theorem srt_spO {W n : Nat} {l : List Bool} (k : Nat) : srt (rwI ((PL W n l).drop k)).flatten = nI (spO W n l k) := by
  obtain ⟨⟨n1, n2⟩, h1, h2⟩ := sp_mem (W := W) (n := n) (l := l) k
  rw [nI_flat]
  refine srt_set n2 (List.Pairwise.filter _ List.pairwise_lt_range) fun x => ?_
  rw [spO, List.mem_filter, List.mem_range, Bool.not_eq_true', decide_eq_false_iff_not]
  exact h2 x
theorem spI_len {W n : Nat} {l : List Bool} (k : Nat) : (spI W n l k).length = (rwI ((PL W n l).take k)).flatten.length := by
  have := congrArg List.length (srt_spI (W := W) (n := n) (l := l) k)
  rw [List.length_mergeSort, nI_len] at this; exact this.symm
theorem spO_len {W n : Nat} {l : List Bool} (k : Nat) : (spO W n l k).length = (rwI ((PL W n l).drop k)).flatten.length := by
  have := congrArg List.length (srt_spO (W := W) (n := n) (l := l) k)
  rw [List.length_mergeSort, nI_len] at this; exact this.symm
end Go.Proofs.Ytakeaicfhllmkaa

/- Chapter 11: the layers, by both. -/
set_option linter.unusedSimpArgs false
set_option linter.unusedVariables false
set_option maxRecDepth 100000
namespace Go.Proofs.Ytakeaicfhllmkaa
open Go Go.Proofs Go.AW

def big (ps : List (List Nat)) : List (List Nat) := ps.filter fun r => decide (1 < r.length)
def lyS (W : Nat) (rs : List (List Nat)) : List AVal := rs.flatMap (lyC W)
theorem lyS_len (W : Nat) : ∀ rs : List (List Nat), (lyS W rs).length = rs.length * 2
  | [] => rfl
  | r :: rs => by
    show (lyC W r ++ lyS W rs).length = _
    rw [List.length_append, lyS_len W rs]; simp [lyC]; omega
theorem lyS_snoc (W : Nat) (rs : List (List Nat)) (r : List Nat) : lyS W (rs ++ [r]) = lyS W rs ++ lyC W r := by simp [lyS]
theorem big_snoc (ps : List (List Nat)) (r : List Nat) : big (ps ++ [r]) = big ps ++ if 1 < r.length then [r] else [] := by
  unfold big; rw [List.filter_append]; by_cases h : 1 < r.length <;> simp [h]
theorem big_len (ps : List (List Nat)) : (big ps).length ≤ ps.length := List.length_filter_le _ _
theorem lyC_res (h : List AObj) (n W : Nat) (r : List Nat) : (lyC W r).map (resOf h (n + 2)) = lyC W r := by
  simp [lyC, resOf_list, ints_res]
theorem lyS_res (h : List AObj) (n W : Nat) : ∀ rs : List (List Nat), (lyS W rs).map (resOf h (n + 2)) = lyS W rs
  | [] => rfl
  | r :: rs => by
    show (lyC W r ++ lyS W rs).map _ = lyC W r ++ lyS W rs
    rw [List.map_append, lyC_res, lyS_res]
theorem lyC_fr (k W : Nat) (r : List Nat) : ∀ x ∈ lyC W r, allFresh (k + 2) x = true := by
  intro x hx
  simp only [lyC, List.mem_cons, List.not_mem_nil, or_false] at hx
  rcases hx with rfl | rfl <;> simp [allFresh, ints_fresh]
theorem lyS_fr (k W : Nat) (rs : List (List Nat)) : ∀ x ∈ lyS W rs, allFresh (k + 2) x = true := by
  intro x hx
  obtain ⟨r, _, h⟩ := List.mem_flatMap.1 hx
  exact lyC_fr k W r x h
theorem resOf_gwL {h : List AObj} {n k : Nat} {W : Nat} {rs : List (List Nat)} (ho : h[k]? = some (goW 58 2 (lyS W rs))) : resOf h (n + 3) (gwW 2 k rs.length) = .list true rs.isEmpty rs.length (lyS W rs) := by
  cases rs with
  | nil => rfl
  | cons r t =>
    have hl := lyS_len W (r :: t)
    unfold gwW
    rw [if_neg (by simp)]
    rw [resOf_ref, ho]
    have hg : goW 58 2 (lyS W (r :: t)) = ⟨58, 2, lyS W (r :: t)⟩ := rfl
    rw [hg]
    simp only [rX]
    rw [if_pos hl, List.drop_zero, List.take_of_length_le (by omega), lyS_res]; rfl
/-- Layers. -/
def YV (W : Nat) (ps : List (List Nat)) : AVal := .list true (big ps).isEmpty (big ps).length (lyS W (big ps))
theorem layersP_c {W H n : Nat} (hN : W + H = n) (hW0 : 0 < W) (hH0 : 0 < H) (hn64 : n ≤ 64) (b : Bool) {l : List Bool} (hn : l.length = W * H) : Contract Try.prog 10 [GA W H b l] (.tuple [YV W (PL W n l), I 0]) := by
  have hrn : ∀ r ∈ PL W n l, r.length ≤ 1000 ∧ ∀ x ∈ r, x < n := fun r hr => by
    obtain ⟨h1, h2⟩ := PL_row hr
    exact ⟨by omega, h2⟩
  have hps := parts_len (W := W) (n := n) (l := l)
  have hpp := partsPP_c hN hW0 hH0 hn64 b hn
  generalize PL W n l = ps at *
  refine Contract.intro (effS [] false) 6 follows Try.func10 rfl rfl (by kernel_rfl) (Nat.le_of_ble_eq_true rfl) ?_
  simp (disch := first | assumption | omega | rfl | simp only [RH]) only [↓RP, RG, FX, RQ, ↓reduceIte, Nat.reduceEqDiff, reduceCtorEq, Nat.reduceBEq, Nat.reduceAdd, Nat.reduceLeDiff, args0_1]
  refine callK_F 6 hpp (by simp (disch := first | assumption | omega | rfl | simp only [RH]) only [↓RP, RG, FX, RQ, ↓reduceIte, Nat.reduceEqDiff, reduceCtorEq, Nat.reduceBEq, Nat.reduceAdd, Nat.reduceLeDiff, RA] <;> rfl) (.inl (by simp [allFresh]; exact PV_fr 2 _)) ?_
  simp only [PV]
  simp (disch := first | assumption | omega | rfl | simp only [RH]) only [↓RP, RG, FX, RQ, ↓reduceIte, Nat.reduceEqDiff, reduceCtorEq, Nat.reduceBEq, Nat.reduceAdd, Nat.reduceLeDiff]
  refine loopK_WW [1, 5, 6, 14, 15, 16] (fun i : Nat => i ≤ ps.length) (fun i => ⟨[(1, .ptr 0 0 3), (5, I 0), (6, gwW 2 1 (big (ps.take i)).length), (14, .list true ps.isEmpty ps.length (rowsC ps)), (15, I ps.length), (16, I i)], [⟨24, 3, [I W, I H, BA b l]⟩, goW 58 2 (lyS W (big (ps.take i)))]⟩) (fun i => ps.length - i) 0 (by omega) ?_ ?_
  · simp only [↓RP, RG, FX, RQ, ↓reduceIte, Nat.reduceEqDiff, reduceCtorEq, Nat.reduceBEq, Nat.reduceAdd, Nat.reduceLeDiff]
    exact Wk.weak (WE.cons _ (.refl _) (WE.cons _ (.refl _) (WE.cons _ (.nil _) (WE.cons _ (.refl _) (WE.cons _ (.refl _) (WE.cons _ (.refl _) WE.nil)))))) (.cons _ _ _ _ (WL.refl _) (.nil _ (by simp [goW, lyS, big])))
  intro i hi
  have hb := big_len (ps.take i)
  rw [List.length_take] at hb
  have hlS := lyS_len W (big (ps.take i))
  by_cases hlt : i < ps.length
  · have hrk := rowsC_at hlt
    have hmem : ps.getD i [] ∈ ps := by rw [List.getD_eq_getElem?_getD, List.getElem?_eq_getElem hlt]; exact List.getElem_mem hlt
    obtain ⟨hr1, hr2⟩ := hrn _ hmem
    have htk : ps.take (i + 1) = ps.take i ++ [ps.getD i []] := by rw [List.take_add_one, List.getElem?_eq_getElem hlt, List.getD_eq_getElem?_getD, List.getElem?_eq_getElem hlt]; rfl
    have hbs := big_snoc (ps.take i) (ps.getD i [])
    rw [← htk] at hbs
    generalize ps.getD i [] = r at *
    have hrl := nI_len r
    by_cases h1 : 1 < r.length
    · rw [if_pos h1] at hbs
      have hly := layerP_c hN hn64 b (l := l) false hr2 hr1
      generalize big (ps.take i) = R at *
      have hap : ∀ p0 : AObj, aAppend Try.prog 37 [p0, goW 58 2 (lyS W R)] (gwW 2 1 R.length) (.lit 1 (lyC W r)) = some (gwW 2 1 (R.length + 1), [p0, goW 58 2 (lyS W (R ++ [r]))]) := fun p0 => by
        rw [append_W (e := 58) (xs := lyS W R) rfl hlS rfl rfl (by omega) (by omega), lyS_snoc]; rfl
      have hRl : (R ++ [r]).length = R.length + 1 := by simp
      simp (disch := first | assumption | omega | rfl | simp only [RH]) only [↓RP, RG, FX, RQ, ↓reduceIte, Nat.reduceEqDiff, reduceCtorEq, Nat.reduceBEq, Nat.reduceAdd, Nat.reduceLeDiff, hrk, Int.toNat_natCast]
      refine callK_F 6 hly (by simp (disch := first | assumption | omega | rfl | simp only [RH]) only [↓RP, RG, FX, RQ, ↓reduceIte, Nat.reduceEqDiff, reduceCtorEq, Nat.reduceBEq, Nat.reduceAdd, Nat.reduceLeDiff, RA] <;> rfl) (.inl (by simp [allFresh]; exact lyC_fr 3 W r)) ?_
      simp only [lyC] at hap
      simp (disch := first | assumption | omega | rfl | simp only [RH]) only [↓RP, RG, FX, RQ, ↓reduceIte, Nat.reduceEqDiff, reduceCtorEq, Nat.reduceBEq, Nat.reduceAdd, Nat.reduceLeDiff, hap, lyC]
      exact ⟨i + 1, hlt, Wk.of_eq (by rw [hbs, hRl]; rfl), by omega⟩
    · rw [if_neg h1, List.append_nil] at hbs
      simp (disch := first | assumption | omega | rfl | simp only [RH]) only [↓RP, RG, FX, RQ, ↓reduceIte, Nat.reduceEqDiff, reduceCtorEq, Nat.reduceBEq, Nat.reduceAdd, Nat.reduceLeDiff, hrk, Int.toNat_natCast]
      exact ⟨i + 1, hlt, Wk.of_eq (by rw [hbs]; rfl), by omega⟩
  · obtain rfl : ps.length = i := by omega
    rw [List.take_length]
    simp (disch := first | assumption | omega | rfl | simp only [RH]) only [↓RP, RG, FX, RQ, ↓reduceIte, Nat.reduceEqDiff, reduceCtorEq, Nat.reduceBEq, Nat.reduceAdd, Nat.reduceLeDiff]
    rw [resVal_2 rfl]; simp (disch := first | assumption | omega | rfl | simp only [RH]) only [↓RP, RG, FX, RQ, ↓reduceIte, Nat.reduceEqDiff, reduceCtorEq, Nat.reduceBEq, Nat.reduceAdd, Nat.reduceLeDiff, RS]
    rw [resOf_gwL rfl]; rfl
theorem layersR_c {W H n : Nat} (hN : W + H = n) (hW0 : 0 < W) (hH0 : 0 < H) (hn64 : n ≤ 64) (b : Bool) {l : List Bool} (hn : l.length = W * H) : Contract Try.prog 11 [GA W H b l] (.tuple [YV W (PL W n l), I 0]) := by
  have hz : gchk W H l.length = 0 := gchk_ok ⟨by omega, by omega, by omega, by omega, by rw [hn, Int.natCast_mul]⟩
  have hrn : ∀ r ∈ PL W n l, r.length ≤ 1000 ∧ ∀ x ∈ r, x < n := fun r hr => by
    obtain ⟨h1, h2⟩ := PL_row hr
    exact ⟨by omega, h2⟩
  have hps := parts_len (W := W) (n := n) (l := l)
  have hpp := listed_c hN hW0 hn64 b hn
  generalize PL W n l = ps at *
  refine Contract.intro (effS [] false) 6 follows Try.func11 rfl rfl (by kernel_rfl) (Nat.le_of_ble_eq_true rfl) ?_
  simp (disch := first | assumption | omega | rfl | simp only [RH]) only [↓RP, RG, FX, RQ, ↓reduceIte, Nat.reduceEqDiff, reduceCtorEq, Nat.reduceBEq, Nat.reduceAdd, Nat.reduceLeDiff, args0_1]
  refine callK_F 6 (gcheckR_c W H b l) (by simp (disch := first | assumption | omega | rfl | simp only [RH]) only [↓RP, RG, FX, RQ, ↓reduceIte, Nat.reduceEqDiff, reduceCtorEq, Nat.reduceBEq, Nat.reduceAdd, Nat.reduceLeDiff, RA] <;> rfl) (.inl (by simp [allFresh, ints_fresh, bools_fresh])) ?_
  simp (disch := first | assumption | omega | rfl | simp only [RH]) only [↓RP, RG, FX, RQ, ↓reduceIte, Nat.reduceEqDiff, reduceCtorEq, Nat.reduceBEq, Nat.reduceAdd, Nat.reduceLeDiff, hz]
  refine callK_F 6 hpp (by simp (disch := first | assumption | omega | rfl | simp only [RH]) only [↓RP, RG, FX, RQ, ↓reduceIte, Nat.reduceEqDiff, reduceCtorEq, Nat.reduceBEq, Nat.reduceAdd, Nat.reduceLeDiff, RA] <;> rfl) (.inl (PV_fr 3 _)) ?_
  simp only [PV]
  simp (disch := first | assumption | omega | rfl | simp only [RH]) only [↓RP, RG, FX, RQ, ↓reduceIte, Nat.reduceEqDiff, reduceCtorEq, Nat.reduceBEq, Nat.reduceAdd, Nat.reduceLeDiff]
  refine loopK_WW [1, 4, 5, 6] (fun i : Nat => i ≤ ps.length) (fun i => ⟨[(1, .ptr 0 0 3), (4, .list true ps.isEmpty ps.length (rowsC ps)), (5, gwW 2 1 (big (ps.take i)).length), (6, I i)], [⟨24, 3, [I W, I H, BA b l]⟩, goW 58 2 (lyS W (big (ps.take i)))]⟩) (fun i => ps.length - i) 0 (by omega) ?_ ?_
  · simp only [↓RP, RG, FX, RQ, ↓reduceIte, Nat.reduceEqDiff, reduceCtorEq, Nat.reduceBEq, Nat.reduceAdd, Nat.reduceLeDiff]
    exact Wk.weak (WE.cons _ (.refl _) (WE.cons _ (.refl _) (WE.cons _ (.nil _) (WE.cons _ (.refl _) WE.nil)))) (.cons _ _ _ _ (WL.refl _) (.nil _ (by simp [goW, lyS, big])))
  intro i hi
  have hb := big_len (ps.take i)
  rw [List.length_take] at hb
  have hlS := lyS_len W (big (ps.take i))
  by_cases hlt : i < ps.length
  · have hrk := rowsC_at hlt
    have hmem : ps.getD i [] ∈ ps := by rw [List.getD_eq_getElem?_getD, List.getElem?_eq_getElem hlt]; exact List.getElem_mem hlt
    obtain ⟨hr1, hr2⟩ := hrn _ hmem
    have htk : ps.take (i + 1) = ps.take i ++ [ps.getD i []] := by rw [List.take_add_one, List.getElem?_eq_getElem hlt, List.getD_eq_getElem?_getD, List.getElem?_eq_getElem hlt]; rfl
    have hbs := big_snoc (ps.take i) (ps.getD i [])
    rw [← htk] at hbs
    generalize ps.getD i [] = r at *
    have hrl := nI_len r
    by_cases h1 : 1 < r.length
    · rw [if_pos h1] at hbs
      have hly := layerR_c hN hn64 b (l := l) false hr2 hr1
      generalize big (ps.take i) = R at *
      have hap : ∀ p0 : AObj, aAppend Try.prog 37 [p0, goW 58 2 (lyS W R)] (gwW 2 1 R.length) (.lit 1 (lyC W r)) = some (gwW 2 1 (R.length + 1), [p0, goW 58 2 (lyS W (R ++ [r]))]) := fun p0 => by
        rw [append_W (e := 58) (xs := lyS W R) rfl hlS rfl rfl (by omega) (by omega), lyS_snoc]; rfl
      have hRl : (R ++ [r]).length = R.length + 1 := by simp
      simp (disch := first | assumption | omega | rfl | simp only [RH]) only [↓RP, RG, FX, RQ, ↓reduceIte, Nat.reduceEqDiff, reduceCtorEq, Nat.reduceBEq, Nat.reduceAdd, Nat.reduceLeDiff, hrk, Int.toNat_natCast]
      refine callK_F 6 hly (by simp (disch := first | assumption | omega | rfl | simp only [RH]) only [↓RP, RG, FX, RQ, ↓reduceIte, Nat.reduceEqDiff, reduceCtorEq, Nat.reduceBEq, Nat.reduceAdd, Nat.reduceLeDiff, RA] <;> rfl) (.inl (by simp [allFresh]; exact lyC_fr 3 W r)) ?_
      simp only [lyC] at hap
      simp (disch := first | assumption | omega | rfl | simp only [RH]) only [↓RP, RG, FX, RQ, ↓reduceIte, Nat.reduceEqDiff, reduceCtorEq, Nat.reduceBEq, Nat.reduceAdd, Nat.reduceLeDiff, hap, lyC]
      exact ⟨i + 1, hlt, Wk.of_eq (by rw [hbs, hRl]; rfl), by omega⟩
    · rw [if_neg h1, List.append_nil] at hbs
      simp (disch := first | assumption | omega | rfl | simp only [RH]) only [↓RP, RG, FX, RQ, ↓reduceIte, Nat.reduceEqDiff, reduceCtorEq, Nat.reduceBEq, Nat.reduceAdd, Nat.reduceLeDiff, hrk, Int.toNat_natCast]
      exact ⟨i + 1, hlt, Wk.of_eq (by rw [hbs]; rfl), by omega⟩
  · obtain rfl : ps.length = i := by omega
    rw [List.take_length]
    simp (disch := first | assumption | omega | rfl | simp only [RH]) only [↓RP, RG, FX, RQ, ↓reduceIte, Nat.reduceEqDiff, reduceCtorEq, Nat.reduceBEq, Nat.reduceAdd, Nat.reduceLeDiff]
    rw [resVal_2 rfl]; simp (disch := first | assumption | omega | rfl | simp only [RH]) only [↓RP, RG, FX, RQ, ↓reduceIte, Nat.reduceEqDiff, reduceCtorEq, Nat.reduceBEq, Nat.reduceAdd, Nat.reduceLeDiff, RS]
    rw [resOf_gwL rfl]; rfl
end Go.Proofs.Ytakeaicfhllmkaa

/- Chapter 11: layers compared. -/
set_option linter.unusedSimpArgs false
set_option linter.unusedVariables false
set_option maxRecDepth 100000
namespace Go.Proofs.Ytakeaicfhllmkaa
open Go Go.Proofs Go.AW

def lyA1 (W : Nat) (r : List Nat) : List AVal := [LA (layE W r).isEmpty (nI (layE W r)), LA (layP W r).isEmpty (nI (layP W r))]
def lyA (W : Nat) (rs : List (List Nat)) : List AVal := rs.flatMap (lyA1 W)
theorem lyA_drop (W : Nat) : ∀ (rs : List (List Nat)) (i : Nat), i < rs.length → ∃ t, (lyA W rs).drop (i * 2) = lyA1 W (rs.getD i []) ++ t
  | [], i, h => by simp at h
  | r :: rs, 0, _ => ⟨lyA W rs, rfl⟩
  | r :: rs, i + 1, h => by
    obtain ⟨t, ht⟩ := lyA_drop W rs i (by simpa using h)
    refine ⟨t, ?_⟩
    show (lyA1 W r ++ lyA W rs).drop ((i + 1) * 2) = _
    rw [show (i + 1) * 2 = (lyA1 W r).length + i * 2 by simp [lyA1]; omega, ← List.drop_drop, List.drop_left]
    exact ht
theorem lyS_arg (h : List AObj) (n W : Nat) : ∀ rs : List (List Nat), (lyS W rs).map (argOf h (n + 2)) = lyA W rs
  | [] => rfl
  | r :: rs => by
    show (lyC W r ++ lyS W rs).map _ = lyA1 W r ++ lyA W rs
    rw [List.map_append, lyS_arg]
    congr 1
    simp [lyC, lyA1, argOf_list, ints_arg]
def YA (W : Nat) (ps : List (List Nat)) : AVal := .list false (big ps).isEmpty (big ps).length (lyA W (big ps))
theorem YV_arg (h : List AObj) (k W : Nat) (ps : List (List Nat)) : argOf h (k + 3) (YV W ps) = YA W ps := by
  show argOf h (k + 2 + 1) (.list true _ _ (lyS W (big ps))) = _
  rw [argOf_list, lyS_arg]; rfl
theorem YV_fr (k W : Nat) (ps : List (List Nat)) : allFresh (k + 3) (YV W ps) = true := by
  show ((true || (lyS W (big ps)).isEmpty) && (lyS W (big ps)).all (allFresh (k + 2))) = true
  rw [Bool.true_or, Bool.true_and, List.all_eq_true]
  exact lyS_fr k W (big ps)
theorem sameLayers_c (W : Nat) {ps : List (List Nat)} (hl : ps.length ≤ 1000000) (hr : ∀ r ∈ ps, r.length ≤ 1000000) : Contract Try.prog 15 [YA W ps, YA W ps] (B true) := by
  have hbl := big_len ps
  have hrb : ∀ r ∈ big ps, r.length ≤ 1000000 := fun r h => hr r (List.mem_filter.1 h).1
  simp only [YA]
  generalize big ps = rs at *
  refine Contract.intro (effS [] false) 6 follows Try.func15 rfl rfl (by kernel_rfl) (Nat.le_of_ble_eq_true rfl) ?_
  simp (disch := first | assumption | omega | rfl | simp only [RH]) only [↓RP, RG, FX, RQ, ↓reduceIte, Nat.reduceEqDiff, reduceCtorEq, Nat.reduceBEq, Nat.reduceAdd, Nat.reduceLeDiff, args0_2]
  refine loopK_I [0, 1, 5] (fun k : Nat => k ≤ rs.length) (fun k : Nat => ⟨[(0, .list false rs.isEmpty rs.length (lyA W rs)), (1, .list false rs.isEmpty rs.length (lyA W rs)), (5, I k)], []⟩) (fun k => rs.length - k) 0 (by simp) (by simp only [↓RP, RG, FX, RQ, ↓reduceIte, Nat.reduceEqDiff, reduceCtorEq, Nat.reduceBEq, Nat.reduceAdd, Nat.reduceLeDiff]; rfl) ?_
  intro k hk
  by_cases hlt : k < rs.length
  · obtain ⟨t, ht⟩ := lyA_drop W rs k hlt
    have hmem : rs.getD k [] ∈ rs := by rw [List.getD_eq_getElem?_getD, List.getElem?_eq_getElem hlt]; exact List.getElem_mem hlt
    have hlk := hrb _ hmem
    generalize rs.getD k [] = r at *
    have hE := layE_len W r
    have hP := layP_len W r
    have hs1 := same11_c (layE W r).isEmpty (layE W r).isEmpty (nI (layE W r)) (nI (layE W r)) (by rw [nI_len]; omega)
    have hs2 := same11_c (layP W r).isEmpty (layP W r).isEmpty (nI (layP W r)) (nI (layP W r)) (by rw [nI_len]; omega)
    rw [decide_eq_true rfl] at hs1 hs2
    simp only [lyA1, List.cons_append, List.nil_append] at ht
    simp (disch := first | assumption | omega | rfl | simp only [RH]) only [↓RP, RG, FX, RQ, ↓reduceIte, Nat.reduceEqDiff, reduceCtorEq, Nat.reduceBEq, Nat.reduceAdd, Nat.reduceLeDiff, ht, Int.toNat_natCast]
    refine callK_F 6 (hs1) (by simp (disch := first | assumption | omega | rfl | simp only [RH]) only [↓RP, RG, FX, RQ, ↓reduceIte, Nat.reduceEqDiff, reduceCtorEq, Nat.reduceBEq, Nat.reduceAdd, Nat.reduceLeDiff, RA] <;> rfl) (.inl (by simp [allFresh, ints_fresh, bools_fresh])) ?_
    simp (disch := first | assumption | omega | rfl | simp only [RH]) only [↓RP, RG, FX, RQ, ↓reduceIte, Nat.reduceEqDiff, reduceCtorEq, Nat.reduceBEq, Nat.reduceAdd, Nat.reduceLeDiff, ht, Int.toNat_natCast]
    refine callK_F 6 (hs2) (by simp (disch := first | assumption | omega | rfl | simp only [RH]) only [↓RP, RG, FX, RQ, ↓reduceIte, Nat.reduceEqDiff, reduceCtorEq, Nat.reduceBEq, Nat.reduceAdd, Nat.reduceLeDiff, RA] <;> rfl) (.inl (by simp [allFresh, ints_fresh, bools_fresh])) ?_
    simp (disch := first | assumption | omega | rfl | simp only [RH]) only [↓RP, RG, FX, RQ, ↓reduceIte, Nat.reduceEqDiff, reduceCtorEq, Nat.reduceBEq, Nat.reduceAdd, Nat.reduceLeDiff]
    exact ⟨k + 1, hlt, rfl, by omega⟩
  · simp (disch := first | assumption | omega | rfl | simp only [RH]) only [↓RP, RG, FX, RQ, ↓reduceIte, Nat.reduceEqDiff, reduceCtorEq, Nat.reduceBEq, Nat.reduceAdd, Nat.reduceLeDiff]
    rw [resVal_1 rfl]; simp (disch := first | assumption | omega | rfl | simp only [RH]) only [↓RP, RG, FX, RQ, ↓reduceIte, Nat.reduceEqDiff, reduceCtorEq, Nat.reduceBEq, Nat.reduceAdd, Nat.reduceLeDiff, RS]
end Go.Proofs.Ytakeaicfhllmkaa

/- Chapter 11: parts split, by the reference. -/
set_option linter.unusedSimpArgs false
set_option linter.unusedVariables false
set_option maxRecDepth 100000
namespace Go.Proofs.Ytakeaicfhllmkaa
open Go Go.Proofs Go.AW

theorem splitR_bad (w h : Int) (b : Bool) (l : List Bool) (k : Int) (hz : gchk w h l.length ≠ 0) : Contract Try.prog 13 [GA w h b l, I k] (.tuple [LR true [], LR true [], I (gchk w h l.length)]) := by
  refine Contract.intro (effS [] false) 6 follows Try.func13 rfl rfl (by kernel_rfl) (Nat.le_of_ble_eq_true rfl) ?_
  simp (disch := first | assumption | omega | rfl | simp only [RH]) only [↓RP, RG, FX, RQ, ↓reduceIte, Nat.reduceEqDiff, reduceCtorEq, Nat.reduceBEq, Nat.reduceAdd, Nat.reduceLeDiff, args0_2]
  refine callK_F 6 (gcheckR_c w h b l) (by simp (disch := first | assumption | omega | rfl | simp only [RH]) only [↓RP, RG, FX, RQ, ↓reduceIte, Nat.reduceEqDiff, reduceCtorEq, Nat.reduceBEq, Nat.reduceAdd, Nat.reduceLeDiff, RA] <;> rfl) (.inl (by simp [allFresh, ints_fresh, bools_fresh])) ?_
  simp (disch := first | assumption | omega | rfl | simp only [RH]) only [↓RP, RG, FX, RQ, ↓reduceIte, Nat.reduceEqDiff, reduceCtorEq, Nat.reduceBEq, Nat.reduceAdd, Nat.reduceLeDiff]
  refine callK_F 6 (gcheckR_c w h b l) (by simp (disch := first | assumption | omega | rfl | simp only [RH]) only [↓RP, RG, FX, RQ, ↓reduceIte, Nat.reduceEqDiff, reduceCtorEq, Nat.reduceBEq, Nat.reduceAdd, Nat.reduceLeDiff, RA] <;> rfl) (.inl (by simp [allFresh, ints_fresh, bools_fresh])) ?_
  simp (disch := first | assumption | omega | rfl | simp only [RH]) only [↓RP, RG, FX, RQ, ↓reduceIte, Nat.reduceEqDiff, reduceCtorEq, Nat.reduceBEq, Nat.reduceAdd, Nat.reduceLeDiff]
  rw [resVal_3 rfl]; simp (disch := first | assumption | omega | rfl | simp only [RH]) only [↓RP, RG, FX, RQ, ↓reduceIte, Nat.reduceEqDiff, reduceCtorEq, Nat.reduceBEq, Nat.reduceAdd, Nat.reduceLeDiff, RS]
  first | done | rfl
theorem splitR_no {W H n : Nat} (hN : W + H = n) (hW0 : 0 < W) (hH0 : 0 < H) (hn64 : n ≤ 64) (b : Bool) {l : List Bool} (hn : l.length = W * H) (k : Int) (hk : ¬ (0 ≤ k ∧ k ≤ (PL W n l).length)) : Contract Try.prog 13 [GA W H b l, I k] (.tuple [LR true [], LR true [], I 2]) := by
  have hz : gchk W H l.length = 0 := gchk_ok ⟨by omega, by omega, by omega, by omega, by rw [hn, Int.natCast_mul]⟩
  have hpp := listed_c hN hW0 hn64 b hn
  generalize PL W n l = ps at *
  by_cases h0 : k < 0
  · refine Contract.intro (effS [] false) 6 follows Try.func13 rfl rfl (by kernel_rfl) (Nat.le_of_ble_eq_true rfl) ?_
    simp (disch := first | assumption | omega | rfl | simp only [RH]) only [↓RP, RG, FX, RQ, ↓reduceIte, Nat.reduceEqDiff, reduceCtorEq, Nat.reduceBEq, Nat.reduceAdd, Nat.reduceLeDiff, args0_2]
    refine callK_F 6 (gcheckR_c W H b l) (by simp (disch := first | assumption | omega | rfl | simp only [RH]) only [↓RP, RG, FX, RQ, ↓reduceIte, Nat.reduceEqDiff, reduceCtorEq, Nat.reduceBEq, Nat.reduceAdd, Nat.reduceLeDiff, RA] <;> rfl) (.inl (by simp [allFresh, ints_fresh, bools_fresh])) ?_
    simp (disch := first | assumption | omega | rfl | simp only [RH]) only [↓RP, RG, FX, RQ, ↓reduceIte, Nat.reduceEqDiff, reduceCtorEq, Nat.reduceBEq, Nat.reduceAdd, Nat.reduceLeDiff, hz]
    refine callK_F 6 hpp (by simp (disch := first | assumption | omega | rfl | simp only [RH]) only [↓RP, RG, FX, RQ, ↓reduceIte, Nat.reduceEqDiff, reduceCtorEq, Nat.reduceBEq, Nat.reduceAdd, Nat.reduceLeDiff, RA] <;> rfl) (.inl (PV_fr 3 _)) ?_
    simp only [PV]
    simp (disch := first | assumption | omega | rfl | simp only [RH]) only [↓RP, RG, FX, RQ, ↓reduceIte, Nat.reduceEqDiff, reduceCtorEq, Nat.reduceBEq, Nat.reduceAdd, Nat.reduceLeDiff]
    rw [resVal_3 rfl]; simp (disch := first | assumption | omega | rfl | simp only [RH]) only [↓RP, RG, FX, RQ, ↓reduceIte, Nat.reduceEqDiff, reduceCtorEq, Nat.reduceBEq, Nat.reduceAdd, Nat.reduceLeDiff, RS]
    first | done | rfl
  · have h1 : (ps.length : Int) < k := by omega
    refine Contract.intro (effS [] false) 6 follows Try.func13 rfl rfl (by kernel_rfl) (Nat.le_of_ble_eq_true rfl) ?_
    simp (disch := first | assumption | omega | rfl | simp only [RH]) only [↓RP, RG, FX, RQ, ↓reduceIte, Nat.reduceEqDiff, reduceCtorEq, Nat.reduceBEq, Nat.reduceAdd, Nat.reduceLeDiff, args0_2]
    refine callK_F 6 (gcheckR_c W H b l) (by simp (disch := first | assumption | omega | rfl | simp only [RH]) only [↓RP, RG, FX, RQ, ↓reduceIte, Nat.reduceEqDiff, reduceCtorEq, Nat.reduceBEq, Nat.reduceAdd, Nat.reduceLeDiff, RA] <;> rfl) (.inl (by simp [allFresh, ints_fresh, bools_fresh])) ?_
    simp (disch := first | assumption | omega | rfl | simp only [RH]) only [↓RP, RG, FX, RQ, ↓reduceIte, Nat.reduceEqDiff, reduceCtorEq, Nat.reduceBEq, Nat.reduceAdd, Nat.reduceLeDiff, hz]
    refine callK_F 6 hpp (by simp (disch := first | assumption | omega | rfl | simp only [RH]) only [↓RP, RG, FX, RQ, ↓reduceIte, Nat.reduceEqDiff, reduceCtorEq, Nat.reduceBEq, Nat.reduceAdd, Nat.reduceLeDiff, RA] <;> rfl) (.inl (PV_fr 3 _)) ?_
    simp only [PV]
    simp (disch := first | assumption | omega | rfl | simp only [RH]) only [↓RP, RG, FX, RQ, ↓reduceIte, Nat.reduceEqDiff, reduceCtorEq, Nat.reduceBEq, Nat.reduceAdd, Nat.reduceLeDiff]
    rw [resVal_3 rfl]; simp (disch := first | assumption | omega | rfl | simp only [RH]) only [↓RP, RG, FX, RQ, ↓reduceIte, Nat.reduceEqDiff, reduceCtorEq, Nat.reduceBEq, Nat.reduceAdd, Nat.reduceLeDiff, RS]
    first | done | rfl
theorem splitR_c {W H n : Nat} (hN : W + H = n) (hW0 : 0 < W) (hH0 : 0 < H) (hn64 : n ≤ 64) (b : Bool) {l : List Bool} (hn : l.length = W * H) {k : Nat} (hk : k ≤ (PL W n l).length) : Contract Try.prog 13 [GA W H b l, I k] (.tuple [LR (spI W n l k).isEmpty (nI (spI W n l k)), LR (spO W n l k).isEmpty (nI (spO W n l k)), I 0]) := by
  have hz : gchk W H l.length = 0 := gchk_ok ⟨by omega, by omega, by omega, by omega, by rw [hn, Int.natCast_mul]⟩
  have hNc : (W : Int) + (H : Int) = (n : Int) := by omega
  have hnn : (n : Int).toNat = n := Int.toNat_natCast n
  have hpp := listed_c hN hW0 hn64 b hn
  have hps := parts_len (W := W) (n := n) (l := l)
  have hrn : ∀ r ∈ PL W n l, r.length ≤ 1000 ∧ ∀ x ∈ r, x < n := fun r hr => by
    obtain ⟨h1, h2⟩ := PL_row hr
    exact ⟨by omega, h2⟩
  unfold spI spO
  generalize PL W n l = ps at *
  refine Contract.intro (effS [] false) 6 follows Try.func13 rfl rfl (by kernel_rfl) (Nat.le_of_ble_eq_true rfl) ?_
  simp (disch := first | assumption | omega | rfl | simp only [RH]) only [↓RP, RG, FX, RQ, ↓reduceIte, Nat.reduceEqDiff, reduceCtorEq, Nat.reduceBEq, Nat.reduceAdd, Nat.reduceLeDiff, args0_2]
  refine callK_F 6 (gcheckR_c W H b l) (by simp (disch := first | assumption | omega | rfl | simp only [RH]) only [↓RP, RG, FX, RQ, ↓reduceIte, Nat.reduceEqDiff, reduceCtorEq, Nat.reduceBEq, Nat.reduceAdd, Nat.reduceLeDiff, RA] <;> rfl) (.inl (by simp [allFresh, ints_fresh, bools_fresh])) ?_
  simp (disch := first | assumption | omega | rfl | simp only [RH]) only [↓RP, RG, FX, RQ, ↓reduceIte, Nat.reduceEqDiff, reduceCtorEq, Nat.reduceBEq, Nat.reduceAdd, Nat.reduceLeDiff, hz]
  refine callK_F 6 hpp (by simp (disch := first | assumption | omega | rfl | simp only [RH]) only [↓RP, RG, FX, RQ, ↓reduceIte, Nat.reduceEqDiff, reduceCtorEq, Nat.reduceBEq, Nat.reduceAdd, Nat.reduceLeDiff, RA] <;> rfl) (.inl (PV_fr 3 _)) ?_
  simp only [PV]
  simp (disch := first | assumption | omega | rfl | simp only [RH]) only [↓RP, RG, FX, RQ, ↓reduceIte, Nat.reduceEqDiff, reduceCtorEq, Nat.reduceBEq, Nat.reduceAdd, Nat.reduceLeDiff]
  refine callK_F 6 (threads_c W H b l (by omega) (by omega)) (by simp (disch := first | assumption | omega | rfl | simp only [RH]) only [↓RP, RG, FX, RQ, ↓reduceIte, Nat.reduceEqDiff, reduceCtorEq, Nat.reduceBEq, Nat.reduceAdd, Nat.reduceLeDiff, RA] <;> rfl) (.inl (by simp [allFresh, ints_fresh, bools_fresh])) ?_
  simp (disch := first | assumption | omega | rfl | simp only [RH]) only [↓RP, RG, FX, RQ, ↓reduceIte, Nat.reduceEqDiff, reduceCtorEq, Nat.reduceBEq, Nat.reduceAdd, Nat.reduceLeDiff, hNc, make_bool, hnn]
  refine loopK_I [1, 7, 8, 9] (fun i : Nat => i ≤ k) (fun i => ⟨[(1, I k), (7, .list true ps.isEmpty ps.length (rowsC ps)), (8, .ref 1 0 n n), (9, I i)], [⟨24, 3, [I W, I H, BA b l]⟩, ⟨4, 1, bools (fB n fun x => decide (x ∈ (ps.take i).flatten))⟩]⟩) (fun i => k - i) 0 (by omega) (by simp only [↓RP, RG, FX, RQ, ↓reduceIte, Nat.reduceEqDiff, reduceCtorEq, Nat.reduceBEq, Nat.reduceAdd, Nat.reduceLeDiff]; simp [← fB_none]) ?_
  intro i hi
  by_cases hlt : i < k
  · have hip : i < ps.length := by omega
    have hrk := rowsC_at hip
    have hmem : ps.getD i [] ∈ ps := by rw [List.getD_eq_getElem?_getD, List.getElem?_eq_getElem hip]; exact List.getElem_mem hip
    obtain ⟨hr1, hr2⟩ := hrn _ hmem
    have htk : (ps.take (i + 1)).flatten = (ps.take i).flatten ++ ps.getD i [] := by
      rw [List.take_add_one, List.getElem?_eq_getElem hip, List.getD_eq_getElem?_getD, List.getElem?_eq_getElem hip, List.flatten_append]; simp
    generalize ps.getD i [] = r at *
    have hrl := nI_len r
    simp (disch := first | assumption | omega | rfl | simp only [RH]) only [↓RP, RG, FX, RQ, ↓reduceIte, Nat.reduceEqDiff, reduceCtorEq, Nat.reduceBEq, Nat.reduceAdd, Nat.reduceLeDiff]
    refine loopK_I [1, 7, 8, 9, 10] (fun j : Nat => j ≤ r.length) (fun j => ⟨[(1, I k), (7, .list true ps.isEmpty ps.length (rowsC ps)), (8, .ref 1 0 n n), (9, I i), (10, I j)], [⟨24, 3, [I W, I H, BA b l]⟩, ⟨4, 1, bools (fB n fun x => decide (x ∈ (ps.take i).flatten ++ r.take j))⟩]⟩) (fun j => r.length - j) 0 (by omega) (by simp only [↓RP, RG, FX, RQ, ↓reduceIte, Nat.reduceEqDiff, reduceCtorEq, Nat.reduceBEq, Nat.reduceAdd, Nat.reduceLeDiff]; simp) ?_
    intro j hj
    have hfl := fB_len n fun x => decide (x ∈ (ps.take i).flatten ++ r.take j)
    by_cases hlt2 : j < r.length
    · obtain ⟨x, hx⟩ : ∃ x, r[j]? = some x := ⟨_, List.getElem?_eq_getElem hlt2⟩
      have hxn := hr2 x (List.mem_of_getElem? hx)
      have hgx : (nI r).getD j 0 = (x : Int) := by simp [nI, List.getD_eq_getElem?_getD, hx]
      have htj : r.take (j + 1) = r.take j ++ [x] := by rw [List.take_add_one, hx]; rfl
      have e1 : (fB n fun z => decide (z ∈ (ps.take i).flatten ++ r.take j)).set x true = fB n fun z => decide (z ∈ (ps.take i).flatten ++ r.take (j + 1)) := by
        rw [fB_set, htj, ← List.append_assoc]
        unfold fB
        refine List.map_congr_left fun z _ => ?_
        by_cases hzx : z = x
        · subst hzx; rw [updN_same]; simp
        · rw [updN_other _ _ hzx]; simp [hzx]
      simp (disch := first | assumption | omega | rfl | simp only [RH]) only [↓RP, RG, FX, RQ, ↓reduceIte, Nat.reduceEqDiff, reduceCtorEq, Nat.reduceBEq, Nat.reduceAdd, Nat.reduceLeDiff, hrk, hgx, e1, Int.toNat_natCast]
      exact ⟨j + 1, hlt2, rfl, by omega⟩
    · obtain rfl : r.length = j := by omega
      rw [List.take_length]
      simp (disch := first | assumption | omega | rfl | simp only [RH]) only [↓RP, RG, FX, RQ, ↓reduceIte, Nat.reduceEqDiff, reduceCtorEq, Nat.reduceBEq, Nat.reduceAdd, Nat.reduceLeDiff, hrk, Int.toNat_natCast]
      refine ⟨i + 1, hlt, ?_, by omega⟩
      rw [htk]; rfl
  obtain rfl : k = i := by omega
  generalize (ps.take k).flatten = M at *
  simp (disch := first | assumption | omega | rfl | simp only [RH]) only [↓RP, RG, FX, RQ, ↓reduceIte, Nat.reduceEqDiff, reduceCtorEq, Nat.reduceBEq, Nat.reduceAdd, Nat.reduceLeDiff]
  have hfl := fB_len n fun x => decide (x ∈ M)
  refine loopK_WW [8, 11, 12, 13] (fun i : Nat => i ≤ n) (fun i => ⟨[(8, .ref 1 0 n n), (11, gw true 2 (ints (nI ((List.range i).filter fun x => decide (x ∈ M))))), (12, gw true 3 (ints (nI ((List.range i).filter fun x => !decide (x ∈ M))))), (13, I i)], [⟨24, 3, [I W, I H, BA b l]⟩, ⟨4, 1, bools (fB n fun x => decide (x ∈ M))⟩, go 3 (ints (nI ((List.range i).filter fun x => decide (x ∈ M)))), go 3 (ints (nI ((List.range i).filter fun x => !decide (x ∈ M))))]⟩) (fun i => n - i) 0 (by omega) ?_ ?_
  · simp only [↓RP, RG, FX, RQ, ↓reduceIte, Nat.reduceEqDiff, reduceCtorEq, Nat.reduceBEq, Nat.reduceAdd, Nat.reduceLeDiff]
    exact Wk.weak (WE.cons _ (.refl _) (WE.cons _ (.nil _) (WE.cons _ (.nil _) (WE.cons _ (.refl _) WE.nil)))) (.cons _ _ _ _ (WL.refl _) (.cons _ _ _ _ (WL.refl _) (.nil _ (by simp [go, ints, nI]))))
  intro i hi
  have l1 : ((List.range i).filter fun x => decide (x ∈ M)).length ≤ i := Nat.le_trans (List.length_filter_le _ _) (by simp)
  have l2 : ((List.range i).filter fun x => !decide (x ∈ M)).length ≤ i := Nat.le_trans (List.length_filter_le _ _) (by simp)
  have n1 := nI_len ((List.range i).filter fun x => decide (x ∈ M))
  have n2 := nI_len ((List.range i).filter fun x => !decide (x ∈ M))
  by_cases hlt : i < n
  · have gi : (fB n fun x => decide (x ∈ M)).getD i false = decide (i ∈ M) := fB_get hlt
    have q1 : (nI ((List.range i).filter fun x => decide (x ∈ M))).length ≤ 1000000000 := by omega
    have q2 : (nI ((List.range i).filter fun x => !decide (x ∈ M))).length ≤ 1000000000 := by omega
    by_cases hm : i ∈ M
    · rw [decide_eq_true hm] at gi
      have s1 : (List.range (i + 1)).filter (fun x => decide (x ∈ M)) = (List.range i).filter (fun x => decide (x ∈ M)) ++ [i] := by
        rw [List.range_succ, List.filter_append]; simp [hm]
      have s2 : (List.range (i + 1)).filter (fun x => !decide (x ∈ M)) = (List.range i).filter (fun x => !decide (x ∈ M)) := by
        rw [List.range_succ, List.filter_append]; simp [hm]
      have e1 : nI ((List.range i).filter fun x => decide (x ∈ M)) ++ [(i : Int)] = nI ((List.range (i + 1)).filter fun x => decide (x ∈ M)) := by rw [s1, nI_app]
      rw [← s2] at n2 q2 ⊢
      simp (disch := first | assumption | omega | rfl | simp only [RH]) only [↓RP, RG, FX, RQ, ↓reduceIte, Nat.reduceEqDiff, reduceCtorEq, Nat.reduceBEq, Nat.reduceAdd, Nat.reduceLeDiff, gi, append_int, e1, Int.toNat_natCast]
      exact ⟨i + 1, hlt, Wk.of_eq rfl, by omega⟩
    · rw [decide_eq_false hm] at gi
      have s1 : (List.range (i + 1)).filter (fun x => decide (x ∈ M)) = (List.range i).filter (fun x => decide (x ∈ M)) := by
        rw [List.range_succ, List.filter_append]; simp [hm]
      have s2 : (List.range (i + 1)).filter (fun x => !decide (x ∈ M)) = (List.range i).filter (fun x => !decide (x ∈ M)) ++ [i] := by
        rw [List.range_succ, List.filter_append]; simp [hm]
      have e1 : nI ((List.range i).filter fun x => !decide (x ∈ M)) ++ [(i : Int)] = nI ((List.range (i + 1)).filter fun x => !decide (x ∈ M)) := by rw [s2, nI_app]
      rw [← s1] at n1 q1 ⊢
      simp (disch := first | assumption | omega | rfl | simp only [RH]) only [↓RP, RG, FX, RQ, ↓reduceIte, Nat.reduceEqDiff, reduceCtorEq, Nat.reduceBEq, Nat.reduceAdd, Nat.reduceLeDiff, gi, append_int, e1, Int.toNat_natCast]
      exact ⟨i + 1, hlt, Wk.of_eq rfl, by omega⟩
  · obtain rfl : n = i := by omega
    simp (disch := first | assumption | omega | rfl | simp only [RH]) only [↓RP, RG, FX, RQ, ↓reduceIte, Nat.reduceEqDiff, reduceCtorEq, Nat.reduceBEq, Nat.reduceAdd, Nat.reduceLeDiff]
    rw [resVal_3 rfl]; simp (disch := first | assumption | omega | rfl | simp only [RH]) only [↓RP, RG, FX, RQ, ↓reduceIte, Nat.reduceEqDiff, reduceCtorEq, Nat.reduceBEq, Nat.reduceAdd, Nat.reduceLeDiff, RS]
    simp only [Bool.true_and, ints_isEmpty, nI_isEmpty]
end Go.Proofs.Ytakeaicfhllmkaa

/- Room for more: slices.Grow of nothing. -/
set_option linter.unusedSimpArgs false
set_option linter.unusedVariables false
set_option maxRecDepth 100000
namespace Go.Proofs.Ytakeaicfhllmkaa
open Go Go.Proofs Go.AW

theorem kindInt0 : (tyI Try.prog 3).bind TyI.kind = some .i64 := by kernel_rfl
theorem kindInt : ∃ T kk, tyI Try.prog 3 = some T ∧ T.kind = some kk := by
  cases h : tyI Try.prog 3 with
  | none => have := kindInt0; rw [h] at this; cases this
  | some T => have := kindInt0; rw [h] at this; exact ⟨T, .i64, rfl, this⟩
theorem slice_cap0 {P : Program} {t e nb : Nat} {z : Value} [S : SlT P t e nb z] {h : List AObj} {b : Bool} {k : IntKind} {c : Int} (h0 : c = 0) : aSlice P t h (.cap0 b) none (some (.val (.int k c))) none = some (.cap0 b) := by
  obtain ⟨⟨T, hT, hTe⟩, E, hE, g1, g2, g3, g4⟩ := S
  subst h0
  simp only [aSlice, hT, hTe, hE, sview, optInt, g1]
  rw [if_pos ⟨by omega, by omega, by omega, by omega⟩]
theorem grow_s (h0 : List AObj) {N : Nat} (h1 : 0 < N) (h2 : N ≤ 1000000) : SpecTo Try.prog 37 [.cap0 true, I N] h0 (.ref h0.length 0 0 N) (h0 ++ [⟨3, 1, ints (List.replicate N 0)⟩]) := by
  have hNt : (N : Int).toNat = N := Int.toNat_natCast N
  refine SpecTo.intro (effS [] false) follows Try.func37 rfl rfl (by kernel_rfl) (Nat.le_of_ble_eq_true rfl) ?_
  have hzz : aApZ Try.prog 42 3 h0 (.cap0 true) (I N) = some (.ref h0.length 0 N N, h0 ++ [⟨3, 1, ints (List.replicate N 0)⟩]) := by
    rw [apz_int kindInt rfl (by omega) (by omega), hNt]
  have hca : cellsAt (h0 ++ [⟨3, 1, ints (List.replicate N 0)⟩]) h0.length N = some (ints (List.replicate N 0)) := by
    simp [cellsAt, ints]
  have hzt : Int.toNat 0 = 0 := rfl
  have hsl : aSlice Try.prog 42 (h0 ++ [⟨3, 1, ints (List.replicate N 0)⟩]) (.ref h0.length 0 N N) none (some (.val (.int .i64 0))) none = some (.ref h0.length 0 0 N) := slice_ref0 hca h1
  have hne : ((42 : Nat) = 3) = False := eq_false (by decide)
  have hN0 : (N : Int) - (0 - 0) = N := by omega
  simp (disch := first | assumption | omega | rfl | simp only [RH]) only [↓RP, RG, FX, RQ, ↓reduceIte, Nat.reduceEqDiff, reduceCtorEq, Nat.reduceBEq, Nat.reduceAdd, Nat.reduceLeDiff, args0_2, opK_cap1, capN, isNil, slice_cap0, opK_appendZ (ht := hne), apFZ_false, hN0, hzz, hsl, hzt, Int.ofNat_zero, Int.natCast_zero]
  refine ⟨_, by rw [resVal_1 rfl]; simp (disch := first | assumption | omega | rfl | simp only [RH]) only [↓RP, RG, FX, RQ, ↓reduceIte, Nat.reduceEqDiff, reduceCtorEq, Nat.reduceBEq, Nat.reduceAdd, Nat.reduceLeDiff, raX_tmp, raX_cell, rvX_0, rvX_1, rvX_2, rvX_3, rvX_4, rvX_5]; rfl, (Wk.drop 8 [0] (by simp) (by decide) (by simp) (same_refl)).trans (Wk.of_eq (by simp (disch := omega) only [RK, List.idxOf?_cons, List.idxOf?_nil, Nat.reduceBEq, Option.map_some, Option.map_none, List.map_cons, List.map_nil, List.getD_cons_zero, List.getD_cons_succ, Bool.false_eq_true, ↓reduceIte, Nat.add_zero, List.append_nil]))⟩
theorem grow_n : Contract Try.prog 37 [.list false true 0 [], I 0] (.list false true 0 []) := by
  refine Contract.intro (effS [] false) 6 follows Try.func37 rfl rfl (by kernel_rfl) (Nat.le_of_ble_eq_true rfl) ?_
  simp (disch := first | assumption | omega | rfl | simp only [RH]) only [↓RP, RG, FX, RQ, ↓reduceIte, Nat.reduceEqDiff, reduceCtorEq, Nat.reduceBEq, Nat.reduceAdd, Nat.reduceLeDiff, args0_2, opK_cap1, capN, isNil]
  rw [resVal_1 rfl]; simp (disch := first | assumption | omega | rfl | simp only [RH]) only [↓RP, RG, FX, RQ, ↓reduceIte, Nat.reduceEqDiff, reduceCtorEq, Nat.reduceBEq, Nat.reduceAdd, Nat.reduceLeDiff, RS]
/-- Rows that come in. -/
def rIA (p : Bool) (rs : List (List Int)) : List AVal := rs.map fun r => .list p false r.length (ints r)
theorem rIA_at {p : Bool} {rs : List (List Int)} {i : Nat} (h : i < rs.length) : ((rIA p rs).drop i)[0]? = some (.list p false (rs.getD i []).length (ints (rs.getD i []))) := by
  rw [List.getElem?_drop, Nat.add_zero, rIA, List.getElem?_map, List.getElem?_eq_getElem h, List.getD_eq_getElem?_getD, List.getElem?_eq_getElem h]; rfl
theorem flat_succ {rs : List (List Int)} {k : Nat} (h : k < rs.length) : (rs.take (k + 1)).flatten = (rs.take k).flatten ++ rs.getD k [] := by
  rw [List.take_add_one, List.getElem?_eq_getElem h, List.getD_eq_getElem?_getD, List.getElem?_eq_getElem h, List.flatten_append]
  simp
theorem flat_le (rs : List (List Int)) (k : Nat) : ((rs.take k).flatten).length ≤ rs.flatten.length := by
  have h : rs.flatten = (rs.take k).flatten ++ (rs.drop k).flatten := by rw [← List.flatten_append, List.take_append_drop]
  rw [h, List.length_append]; omega
theorem concat_n (b : Bool) : Contract Try.prog 28 [.list false b 0 []] (.list false true 0 []) := by
  refine Contract.intro (effS [] false) 6 follows Try.func28 rfl rfl (by kernel_rfl) (Nat.le_of_ble_eq_true rfl) ?_
  simp (disch := first | assumption | omega | rfl | simp only [RH]) only [↓RP, RG, FX, RQ, ↓reduceIte, Nat.reduceEqDiff, reduceCtorEq, Nat.reduceBEq, Nat.reduceAdd, Nat.reduceLeDiff, args0_1]
  refine loopK_I [0, 3, 9, 10, 11] (fun k : Nat => k = 0) (fun k => ⟨[(0, .list false b 0 []), (3, I 0), (9, .list false b 0 []), (10, I 0), (11, I 0)], []⟩) (fun k => 0) 0 rfl (by simp only [↓RP, RG, FX, RQ, ↓reduceIte, Nat.reduceEqDiff, reduceCtorEq, Nat.reduceBEq, Nat.reduceAdd, Nat.reduceLeDiff]; rfl) ?_
  rintro k rfl
  simp (disch := first | assumption | omega | rfl | simp only [RH]) only [↓RP, RG, FX, RQ, ↓reduceIte, Nat.reduceEqDiff, reduceCtorEq, Nat.reduceBEq, Nat.reduceAdd, Nat.reduceLeDiff]
  refine callK_F 6 grow_n rfl (.inl rfl) ?_
  simp (disch := first | assumption | omega | rfl | simp only [RH]) only [↓RP, RG, FX, RQ, ↓reduceIte, Nat.reduceEqDiff, reduceCtorEq, Nat.reduceBEq, Nat.reduceAdd, Nat.reduceLeDiff]
  refine loopK_I [6, 25, 26, 27] (fun k : Nat => k = 0) (fun k => ⟨[(6, .list false true 0 []), (25, .list false b 0 []), (26, I 0), (27, I 0)], []⟩) (fun k => 0) 0 rfl (by simp only [↓RP, RG, FX, RQ, ↓reduceIte, Nat.reduceEqDiff, reduceCtorEq, Nat.reduceBEq, Nat.reduceAdd, Nat.reduceLeDiff]; rfl) ?_
  rintro k rfl
  simp (disch := first | assumption | omega | rfl | simp only [RH]) only [↓RP, RG, FX, RQ, ↓reduceIte, Nat.reduceEqDiff, reduceCtorEq, Nat.reduceBEq, Nat.reduceAdd, Nat.reduceLeDiff]
  rw [resVal_1 rfl]; simp (disch := first | assumption | omega | rfl | simp only [RH]) only [↓RP, RG, FX, RQ, ↓reduceIte, Nat.reduceEqDiff, reduceCtorEq, Nat.reduceBEq, Nat.reduceAdd, Nat.reduceLeDiff, RS]
theorem concat_s (h0 : List AObj) (p b : Bool) {rs : List (List Int)} {N : Nat} (hN : rs.flatten.length = N) (hN0 : 0 < N) (hN1 : N ≤ 1000000) (hr : ∀ r ∈ rs, r ≠ []) (hrl : rs.length ≤ 1000000) : SpecTo Try.prog 28 [.list p b rs.length (rIA p rs)] h0 (.ref h0.length 0 N N) (h0 ++ [⟨3, 1, ints rs.flatten⟩]) := by
  have hz : Int.toNat 0 = 0 := rfl
  refine SpecTo.intro (effS [37] false) follows Try.func28 rfl rfl (by kernel_rfl) (Nat.le_of_ble_eq_true rfl) ?_
  simp (disch := first | assumption | omega | rfl | simp only [RH]) only [↓RP, RG, FX, RQ, ↓reduceIte, Nat.reduceEqDiff, reduceCtorEq, Nat.reduceBEq, Nat.reduceAdd, Nat.reduceLeDiff, args0_1]
  refine loopK_I [0, 3, 9, 10, 11] (fun k : Nat => k ≤ rs.length) (fun k => ⟨[(0, .list p b rs.length (rIA p rs)), (3, I ((rs.take k).flatten).length), (9, .list p b rs.length (rIA p rs)), (10, I rs.length), (11, I k)], h0⟩) (fun k => rs.length - k) 0 (by omega) (by simp only [↓RP, RG, FX, RQ, ↓reduceIte, Nat.reduceEqDiff, reduceCtorEq, Nat.reduceBEq, Nat.reduceAdd, Nat.reduceLeDiff]; rfl) ?_
  intro k hk
  have hfl := flat_le rs k
  by_cases hlt : k < rs.length
  · have hrk := rIA_at (p := p) hlt
    have hfs := flat_succ hlt
    have hf2 := flat_le rs (k + 1)
    have hlen : (((rs.take (k + 1)).flatten).length : Int) = ((rs.take k).flatten).length + (rs.getD k []).length := by rw [hfs, List.length_append]; omega
    rw [hfs, List.length_append] at hf2
    simp (disch := first | assumption | omega | rfl | simp only [RH]) only [↓RP, RG, FX, RQ, ↓reduceIte, Nat.reduceEqDiff, reduceCtorEq, Nat.reduceBEq, Nat.reduceAdd, Nat.reduceLeDiff, hrk, Int.toNat_natCast]
    refine ⟨k + 1, hlt, ?_, by omega⟩
    rw [hlen]
    rfl
  obtain rfl : rs.length = k := by omega
  rw [List.take_length, hN]
  simp (disch := first | assumption | omega | rfl | simp only [RH]) only [↓RP, RG, FX, RQ, ↓reduceIte, Nat.reduceEqDiff, reduceCtorEq, Nat.reduceBEq, Nat.reduceAdd, Nat.reduceLeDiff]
  refine callK_T rfl (grow_s _ hN0 hN1) ?_
  simp (disch := first | assumption | omega | rfl | simp only [RH]) only [↓RP, RG, FX, RQ, ↓reduceIte, Nat.reduceEqDiff, reduceCtorEq, Nat.reduceBEq, Nat.reduceAdd, Nat.reduceLeDiff]
  have hgl : ∀ (o : AObj), (h0 ++ [o])[h0.length]? = some o := fun o => by simp
  have hst : ∀ (o o' : AObj), (h0 ++ [o]).set h0.length o' = h0 ++ [o'] := fun o o' => by simp
  refine loopK_I [6, 25, 26, 27] (fun k : Nat => k ≤ rs.length) (fun k => ⟨[(6, .ref h0.length 0 ((rs.take k).flatten).length N), (25, .list p b rs.length (rIA p rs)), (26, I rs.length), (27, I k)], h0 ++ [⟨3, 1, ints ((rs.take k).flatten ++ List.replicate (N - ((rs.take k).flatten).length) 0)⟩]⟩) (fun k => rs.length - k) 0 (by omega) (by simp only [↓RP, RG, FX, RQ, ↓reduceIte, Nat.reduceEqDiff, reduceCtorEq, Nat.reduceBEq, Nat.reduceAdd, Nat.reduceLeDiff]; rfl) ?_
  intro k hk
  have hfl := flat_le rs k
  by_cases hlt : k < rs.length
  · have hrk := rIA_at (p := p) hlt
    have hfs := flat_succ hlt
    have hf2 := flat_le rs (k + 1)
    have hmem : rs.getD k [] ∈ rs := by rw [List.getD_eq_getElem?_getD, List.getElem?_eq_getElem hlt]; exact List.getElem_mem hlt
    have hr0 : (rs.getD k []).length ≠ 0 := fun h => hr _ hmem (List.eq_nil_of_length_eq_zero h)
    have hlen : ((rs.take (k + 1)).flatten).length = ((rs.take k).flatten).length + (rs.getD k []).length := by rw [hfs, List.length_append]
    rw [hlen] at hf2
    have hap : aAppend Try.prog 42 (h0 ++ [⟨3, 1, ints ((rs.take k).flatten ++ List.replicate (N - ((rs.take k).flatten).length) 0)⟩]) (.ref h0.length 0 ((rs.take k).flatten).length N) (.list p false (rs.getD k []).length (ints (rs.getD k []))) = some (.ref h0.length 0 ((rs.take (k + 1)).flatten).length N, h0 ++ [⟨3, 1, ints ((rs.take (k + 1)).flatten ++ List.replicate (N - ((rs.take (k + 1)).flatten).length) 0)⟩]) := by
      rw [append_room (e := 3) (m := (rs.getD k []).length) (r := rs.getD k []) (hgl _) rfl rfl rfl hr0 (by omega), hst, hlen, hfs]
    simp (disch := first | assumption | omega | rfl | simp only [RH]) only [↓RP, RG, FX, RQ, ↓reduceIte, Nat.reduceEqDiff, reduceCtorEq, Nat.reduceBEq, Nat.reduceAdd, Nat.reduceLeDiff, hrk, hap, Int.toNat_natCast]
    exact ⟨k + 1, hlt, rfl, by omega⟩
  · obtain rfl : rs.length = k := by omega
    have e9 : (rs.take rs.length).flatten ++ List.replicate (N - ((rs.take rs.length).flatten).length) 0 = rs.flatten := by
      rw [List.take_length, hN, Nat.sub_self]; simp
    rw [e9, List.take_length, hN]
    simp (disch := first | assumption | omega | rfl | simp only [RH]) only [↓RP, RG, FX, RQ, ↓reduceIte, Nat.reduceEqDiff, reduceCtorEq, Nat.reduceBEq, Nat.reduceAdd, Nat.reduceLeDiff]
    refine ⟨_, by rw [resVal_1 rfl]; simp (disch := first | assumption | omega | rfl | simp only [RH]) only [↓RP, RG, FX, RQ, ↓reduceIte, Nat.reduceEqDiff, reduceCtorEq, Nat.reduceBEq, Nat.reduceAdd, Nat.reduceLeDiff, raX_tmp, raX_cell, rvX_0, rvX_1, rvX_2, rvX_3, rvX_4, rvX_5]; rfl, (Wk.drop 8 [0] (by simp) (by decide) (by simp) (same_refl)).trans (Wk.of_eq (by simp (disch := omega) only [RK, List.idxOf?_cons, List.idxOf?_nil, Nat.reduceBEq, Option.map_some, Option.map_none, List.map_cons, List.map_nil, List.getD_cons_zero, List.getD_cons_succ, Bool.false_eq_true, ↓reduceIte, Nat.add_zero, List.append_nil]))⟩
end Go.Proofs.Ytakeaicfhllmkaa

/- Chapter 11: parts split, by the program. -/
set_option linter.unusedSimpArgs false
set_option linter.unusedVariables false
set_option maxRecDepth 100000
namespace Go.Proofs.Ytakeaicfhllmkaa
open Go Go.Proofs Go.AW

theorem concat_e (h0 : List AObj) (p b : Bool) : SpecTo Try.prog 28 [.list p b 0 []] h0 (.list false true 0 []) h0 := SpecTo.ofContract (n := 6) (concat_n b) (.inl rfl)
/-- A row, or nothing. -/
def spV (x : List Nat) : AVal := match x with
  | [] => .list false true 0 []
  | _ :: _ => LR false (nI x)
theorem rowsC_rI (ps : List (List Nat)) : rowsC ps = rIA true (rwI ps) := by simp [rowsC, rIA, rwI]
theorem rowsC_take (ps : List (List Nat)) (k : Nat) : (rowsC ps).take k = rowsC (ps.take k) := by simp [rowsC, List.map_take]
theorem rowsC_drop (ps : List (List Nat)) (k : Nat) : (rowsC ps).drop k = rowsC (ps.drop k) := by simp [rowsC, List.map_drop]
theorem splitP_bad (w h : Int) (b : Bool) (l : List Bool) (k : Int) (hz : gchk w h l.length ≠ 0) : Contract Try.prog 12 [GA w h b l, I k] (.tuple [LR true [], LR true [], I (gchk w h l.length)]) := by
  refine Contract.intro (effS [] false) 6 follows Try.func12 rfl rfl (by kernel_rfl) (Nat.le_of_ble_eq_true rfl) ?_
  simp (disch := first | assumption | omega | rfl | simp only [RH]) only [↓RP, RG, FX, RQ, ↓reduceIte, Nat.reduceEqDiff, reduceCtorEq, Nat.reduceBEq, Nat.reduceAdd, Nat.reduceLeDiff, args0_2]
  refine callK_F 6 (partsPP_bad w h b l hz) (by simp (disch := first | assumption | omega | rfl | simp only [RH]) only [↓RP, RG, FX, RQ, ↓reduceIte, Nat.reduceEqDiff, reduceCtorEq, Nat.reduceBEq, Nat.reduceAdd, Nat.reduceLeDiff, RA] <;> rfl) (.inl (by simp [allFresh]; exact PV_fr 2 _)) ?_
  simp (disch := first | assumption | omega | rfl | simp only [RH]) only [↓RP, RG, FX, RQ, ↓reduceIte, Nat.reduceEqDiff, reduceCtorEq, Nat.reduceBEq, Nat.reduceAdd, Nat.reduceLeDiff]
  rw [resVal_3 rfl]; simp (disch := first | assumption | omega | rfl | simp only [RH]) only [↓RP, RG, FX, RQ, ↓reduceIte, Nat.reduceEqDiff, reduceCtorEq, Nat.reduceBEq, Nat.reduceAdd, Nat.reduceLeDiff, RS]
  first | done | rfl
theorem splitP_no {W H n : Nat} (hN : W + H = n) (hW0 : 0 < W) (hH0 : 0 < H) (hn64 : n ≤ 64) (b : Bool) {l : List Bool} (hn : l.length = W * H) (k : Int) (hk : ¬ (0 ≤ k ∧ k ≤ (PL W n l).length)) : Contract Try.prog 12 [GA W H b l, I k] (.tuple [LR true [], LR true [], I 2]) := by
  have hpp := partsPP_c hN hW0 hH0 hn64 b hn
  generalize PL W n l = ps at *
  by_cases h0 : k < 0
  · refine Contract.intro (effS [] false) 6 follows Try.func12 rfl rfl (by kernel_rfl) (Nat.le_of_ble_eq_true rfl) ?_
    simp (disch := first | assumption | omega | rfl | simp only [RH]) only [↓RP, RG, FX, RQ, ↓reduceIte, Nat.reduceEqDiff, reduceCtorEq, Nat.reduceBEq, Nat.reduceAdd, Nat.reduceLeDiff, args0_2]
    refine callK_F 6 hpp (by simp (disch := first | assumption | omega | rfl | simp only [RH]) only [↓RP, RG, FX, RQ, ↓reduceIte, Nat.reduceEqDiff, reduceCtorEq, Nat.reduceBEq, Nat.reduceAdd, Nat.reduceLeDiff, RA] <;> rfl) (.inl (by simp [allFresh]; exact PV_fr 2 _)) ?_
    simp only [PV]
    simp (disch := first | assumption | omega | rfl | simp only [RH]) only [↓RP, RG, FX, RQ, ↓reduceIte, Nat.reduceEqDiff, reduceCtorEq, Nat.reduceBEq, Nat.reduceAdd, Nat.reduceLeDiff]
    rw [resVal_3 rfl]; simp (disch := first | assumption | omega | rfl | simp only [RH]) only [↓RP, RG, FX, RQ, ↓reduceIte, Nat.reduceEqDiff, reduceCtorEq, Nat.reduceBEq, Nat.reduceAdd, Nat.reduceLeDiff, RS]
    first | done | rfl
  · have h1 : (ps.length : Int) < k := by omega
    refine Contract.intro (effS [] false) 6 follows Try.func12 rfl rfl (by kernel_rfl) (Nat.le_of_ble_eq_true rfl) ?_
    simp (disch := first | assumption | omega | rfl | simp only [RH]) only [↓RP, RG, FX, RQ, ↓reduceIte, Nat.reduceEqDiff, reduceCtorEq, Nat.reduceBEq, Nat.reduceAdd, Nat.reduceLeDiff, args0_2]
    refine callK_F 6 hpp (by simp (disch := first | assumption | omega | rfl | simp only [RH]) only [↓RP, RG, FX, RQ, ↓reduceIte, Nat.reduceEqDiff, reduceCtorEq, Nat.reduceBEq, Nat.reduceAdd, Nat.reduceLeDiff, RA] <;> rfl) (.inl (by simp [allFresh]; exact PV_fr 2 _)) ?_
    simp only [PV]
    simp (disch := first | assumption | omega | rfl | simp only [RH]) only [↓RP, RG, FX, RQ, ↓reduceIte, Nat.reduceEqDiff, reduceCtorEq, Nat.reduceBEq, Nat.reduceAdd, Nat.reduceLeDiff]
    rw [resVal_3 rfl]; simp (disch := first | assumption | omega | rfl | simp only [RH]) only [↓RP, RG, FX, RQ, ↓reduceIte, Nat.reduceEqDiff, reduceCtorEq, Nat.reduceBEq, Nat.reduceAdd, Nat.reduceLeDiff, RS]
    first | done | rfl
/-- A call that makes none of the objects that it may make. -/
theorem callK_N {P : Program} {b nb : Bool} {yo : Option (Value × (List AVal → List AObj → List AObj → Prop))} {f : FuncId} {avs : List AVal} {v : AVal} {h : List AObj} {K : AVal → List AObj → Prop} (hfb : b = true) (hn : nb = true) (hc : ∀ h2, SpecTo P f avs h2 v h2) (hK : K v (h ++ [⟨0, 0, []⟩])) :
    @callK P (.func (.func f) [] []) avs h ⟨b, nb, yo⟩ ⟨K⟩ := .inr (.inr (.inr ⟨hn, hfb, v, _, Or.inr ⟨rfl, fun h2 => ⟨f, [], [], rfl, by simpa using hc h2⟩⟩, hK⟩))
theorem splitP_c {W H n : Nat} (hN : W + H = n) (hW0 : 0 < W) (hH0 : 0 < H) (hn64 : n ≤ 64) (b : Bool) {l : List Bool} (hn : l.length = W * H) {k : Nat} (hk : k ≤ (PL W n l).length) : Contract Try.prog 12 [GA W H b l, I k] (.tuple [spV (spI W n l k), spV (spO W n l k), I 0]) := by
  have hpp := partsPP_c hN hW0 hH0 hn64 b hn
  have hps := parts_len (W := W) (n := n) (l := l)
  have hne := PL_ne W n l
  have s1 := srt_spI (W := W) (n := n) (l := l) k
  have s2 := srt_spO (W := W) (n := n) (l := l) k
  have l1 := spI_len (W := W) (n := n) (l := l) k
  have l2 := spO_len (W := W) (n := n) (l := l) k
  have q1 : (spI W n l k).length ≤ n := Nat.le_trans (List.length_filter_le _ _) (by simp)
  have q2 : (spO W n l k).length ≤ n := Nat.le_trans (List.length_filter_le _ _) (by simp)
  have hps0 : 0 < (PL W n l).length := by
    refine List.length_pos_iff.2 fun he => ?_
    have := ((PL_flat W n l).2 0).2 (by omega)
    rw [he] at this; cases this
  generalize spI W n l k = X at *
  generalize spO W n l k = Y at *
  generalize PL W n l = ps at *
  refine Contract.intro (effS [28, 29] false [] [] [24, 28] (fun _ => true) [] [28]) 6 follows Try.func12 rfl rfl (by kernel_rfl) (Nat.le_of_ble_eq_true rfl) ?_
  simp (disch := first | assumption | omega | rfl | simp only [RH]) only [↓RP, RG, FX, RQ, ↓reduceIte, Nat.reduceEqDiff, reduceCtorEq, Nat.reduceBEq, Nat.reduceAdd, Nat.reduceLeDiff, args0_2]
  refine callK_F 6 hpp (by simp (disch := first | assumption | omega | rfl | simp only [RH]) only [↓RP, RG, FX, RQ, ↓reduceIte, Nat.reduceEqDiff, reduceCtorEq, Nat.reduceBEq, Nat.reduceAdd, Nat.reduceLeDiff, RA] <;> rfl) (.inl (by simp [allFresh]; exact PV_fr 2 _)) ?_
  simp only [PV]
  have hsub : ((ps.length : Int) - k).toNat = ps.length - k := by omega
  have hdl : (ps.drop k).length = ps.length - k := List.length_drop
  have htl : (ps.take k).length = k := by rw [List.length_take]; omega
  have htd : (rowsC (ps.drop k)).take (ps.length - k) = rowsC (ps.drop k) := List.take_of_length_le (by simp [rowsC])
  simp (disch := first | assumption | omega | rfl | simp only [RH]) only [↓RP, RG, FX, RQ, ↓reduceIte, Nat.reduceEqDiff, reduceCtorEq, Nat.reduceBEq, Nat.reduceAdd, Nat.reduceLeDiff, slice_hiL, slice_loL, Int.toNat_natCast, rowsC_take, rowsC_drop, hsub, htd]
  have hcI : ∀ l : List Int, ∀ x ∈ ints l, ∃ v, x = AVal.val v := fun l x hx => by
    simp only [ints, List.mem_map] at hx
    obtain ⟨u, _, rfl⟩ := hx
    exact ⟨_, rfl⟩
  have hrI : ∀ qs : List (List Nat), (∀ r ∈ qs, r ≠ []) → ∀ r ∈ rwI qs, r ≠ [] := fun qs hq r hr => by
    obtain ⟨r', h1, rfl⟩ := List.mem_map.1 hr
    have := hq r' h1
    cases r' with
    | nil => exact absurd rfl this
    | cons => simp [nI]
  have hne1 := hrI (ps.take k) fun r hr => hne r (List.mem_of_mem_take hr)
  have hne2 := hrI (ps.drop k) fun r hr => hne r (List.mem_of_mem_drop hr)
  have hrl1 : (rwI (ps.take k)).length = k := by rw [rwI, List.length_map, htl]
  have hrl2 : (rwI (ps.drop k)).length = ps.length - k := by rw [rwI, List.length_map, hdl]
  have hpos : ∀ qs : List (List Nat), (∀ r ∈ rwI qs, r ≠ []) → 0 < qs.length → 0 < (rwI qs).flatten.length := fun qs hq h0 => by
    cases qs with
    | nil => simp at h0
    | cons r t =>
      have := hq (nI r) (by simp [rwI])
      have h2 := List.length_pos_iff.2 this
      simp only [rwI, List.map_cons, List.flatten_cons, List.length_append]; omega
  have c1 : 0 < k → ∀ h, SpecTo Try.prog 28 [.list true ps.isEmpty k (rowsC (ps.take k))] h (.ref h.length 0 X.length X.length) (h ++ [⟨3, 1, ints (rwI (ps.take k)).flatten⟩]) := fun h0 h => by
    have := concat_s h true ps.isEmpty (rs := rwI (ps.take k)) (N := X.length) l1.symm (by rw [l1]; exact hpos _ hne1 (by omega)) (by omega) hne1 (by omega)
    rw [hrl1, ← rowsC_rI] at this; exact this
  have c2 : k < ps.length → ∀ h, SpecTo Try.prog 28 [.list true ps.isEmpty (ps.length - k) (rowsC (ps.drop k))] h (.ref h.length 0 Y.length Y.length) (h ++ [⟨3, 1, ints (rwI (ps.drop k)).flatten⟩]) := fun h0 h => by
    have := concat_s h true ps.isEmpty (rs := rwI (ps.drop k)) (N := Y.length) l2.symm (by rw [l2]; exact hpos _ hne2 (by omega)) (by omega) hne2 (by omega)
    rw [hrl2, ← rowsC_rI] at this; exact this
  have p1 : 0 < k → X ≠ [] := fun h0 he => by
    have := hpos _ hne1 (by omega : 0 < (ps.take k).length)
    rw [← l1, he] at this; simp at this
  have p2 : k < ps.length → Y ≠ [] := fun h0 he => by
    have := hpos _ hne2 (by omega : 0 < (ps.drop k).length)
    rw [← l2, he] at this; simp at this
  have z1 : k = 0 → X = [] := fun h0 => by
    subst h0
    have : X.length = 0 := by rw [l1]; rfl
    exact List.eq_nil_of_length_eq_zero this
  have z2 : k = ps.length → Y = [] := fun h0 => by
    have : Y.length = 0 := by rw [l2, h0, List.drop_length]; rfl
    exact List.eq_nil_of_length_eq_zero this
  by_cases hk0 : k = 0
  · subst hk0
    obtain rfl := z1 rfl
    obtain ⟨y0, Y', rfl⟩ : ∃ y0 Y', Y = y0 :: Y' := by cases Y with | nil => exact absurd rfl (p2 (by omega)) | cons a t => exact ⟨a, t, rfl⟩
    have hyl : (y0 :: Y').length = Y'.length + 1 := rfl
    have hyn : Y'.length + 1 = (nI (y0 :: Y')).length := (nI_len (y0 :: Y')).symm
    have htd0 : rowsC (ps.take (ps.length - 0)) = rowsC (ps.drop 0) := by simp
    have s2' : srt (rwI ps).flatten = nI (y0 :: Y') := s2
    refine callK_N rfl rfl (fun h2 => concat_e h2 true ps.isEmpty) ?_
    simp (disch := first | assumption | omega | rfl | simp only [RH]) only [↓RP, RG, FX, RQ, ↓reduceIte, Nat.reduceEqDiff, reduceCtorEq, Nat.reduceBEq, Nat.reduceAdd, Nat.reduceLeDiff, slice_hiL, slice_loL, Int.toNat_natCast, rowsC_take, rowsC_drop, hsub, htd]
    refine callK_M (o := ⟨3, 1, ints (rwI (ps.drop 0)).flatten⟩) (fun j => .ref j 0 (y0 :: Y').length (y0 :: Y').length) (.ref 0 _ _) rfl rfl (fun h2 => by rw [htd0]; exact c2 (by omega) h2) ?_ (by simp) (hcI _)
    simp (disch := first | assumption | omega | rfl | simp only [RH]) only [↓RP, RG, FX, RQ, ↓reduceIte, Nat.reduceEqDiff, reduceCtorEq, Nat.reduceBEq, Nat.reduceAdd, Nat.reduceLeDiff]
    refine callK_F 6 sort_nil rfl (.inl rfl) ?_
    simp (disch := first | assumption | omega | rfl | simp only [RH]) only [↓RP, RG, FX, RQ, ↓reduceIte, Nat.reduceEqDiff, reduceCtorEq, Nat.reduceBEq, Nat.reduceAdd, Nat.reduceLeDiff]
    refine callK_T rfl (sort_spec (ρ := Try.lays189_ren) Try.lays189 (by kernel_rfl) (id := 2) rfl (by decide) l2.symm (by omega)) ?_
    simp (disch := first | assumption | omega | rfl | simp only [RH]) only [↓RP, RG, FX, RQ, ↓reduceIte, Nat.reduceEqDiff, reduceCtorEq, Nat.reduceBEq, Nat.reduceAdd, Nat.reduceLeDiff, s2, s2', List.drop_zero]
    rw [resVal_3 rfl]; simp (disch := first | assumption | omega | rfl | simp only [RH]) only [↓RP, RG, FX, RQ, ↓reduceIte, Nat.reduceEqDiff, reduceCtorEq, Nat.reduceBEq, Nat.reduceAdd, Nat.reduceLeDiff, RS]
    first | done | rfl
  by_cases hkl : k = ps.length
  · subst hkl
    obtain rfl := z2 rfl
    obtain ⟨x0, X', rfl⟩ : ∃ x0 X', X = x0 :: X' := by cases X with | nil => exact absurd rfl (p1 (by omega)) | cons a t => exact ⟨a, t, rfl⟩
    have hxl : (x0 :: X').length = X'.length + 1 := rfl
    have hxn : X'.length + 1 = (nI (x0 :: X')).length := (nI_len (x0 :: X')).symm
    have hdn : rowsC (ps.drop ps.length) = [] := by rw [List.drop_length]; rfl
    refine callK_M (o := ⟨3, 1, ints (rwI (ps.take ps.length)).flatten⟩) (fun j => .ref j 0 (x0 :: X').length (x0 :: X').length) (.ref 0 _ _) rfl rfl (c1 (by omega)) ?_ (by simp) (hcI _)
    simp (disch := first | assumption | omega | rfl | simp only [RH]) only [↓RP, RG, FX, RQ, ↓reduceIte, Nat.reduceEqDiff, reduceCtorEq, Nat.reduceBEq, Nat.reduceAdd, Nat.reduceLeDiff, slice_hiL, slice_loL, Int.toNat_natCast, rowsC_take, rowsC_drop, hsub, htd, Nat.sub_self]
    refine callK_N rfl rfl (fun h2 => concat_e h2 true ps.isEmpty) ?_
    simp (disch := first | assumption | omega | rfl | simp only [RH]) only [↓RP, RG, FX, RQ, ↓reduceIte, Nat.reduceEqDiff, reduceCtorEq, Nat.reduceBEq, Nat.reduceAdd, Nat.reduceLeDiff]
    refine callK_T rfl (sort_spec (ρ := Try.lays189_ren) Try.lays189 (by kernel_rfl) (id := 1) rfl (by decide) l1.symm (by omega)) ?_
    simp (disch := first | assumption | omega | rfl | simp only [RH]) only [↓RP, RG, FX, RQ, ↓reduceIte, Nat.reduceEqDiff, reduceCtorEq, Nat.reduceBEq, Nat.reduceAdd, Nat.reduceLeDiff, s1]
    refine callK_F 6 sort_nil rfl (.inl rfl) ?_
    simp (disch := first | assumption | omega | rfl | simp only [RH]) only [↓RP, RG, FX, RQ, ↓reduceIte, Nat.reduceEqDiff, reduceCtorEq, Nat.reduceBEq, Nat.reduceAdd, Nat.reduceLeDiff]
    rw [resVal_3 rfl]; simp (disch := first | assumption | omega | rfl | simp only [RH]) only [↓RP, RG, FX, RQ, ↓reduceIte, Nat.reduceEqDiff, reduceCtorEq, Nat.reduceBEq, Nat.reduceAdd, Nat.reduceLeDiff, RS]
    first | done | rfl
  obtain ⟨x0, X', rfl⟩ : ∃ x0 X', X = x0 :: X' := by cases X with | nil => exact absurd rfl (p1 (by omega)) | cons a t => exact ⟨a, t, rfl⟩
  have hxl : (x0 :: X').length = X'.length + 1 := rfl
  have hxn : X'.length + 1 = (nI (x0 :: X')).length := (nI_len (x0 :: X')).symm
  obtain ⟨y0, Y', rfl⟩ : ∃ y0 Y', Y = y0 :: Y' := by cases Y with | nil => exact absurd rfl (p2 (by omega)) | cons a t => exact ⟨a, t, rfl⟩
  have hyl : (y0 :: Y').length = Y'.length + 1 := rfl
  have hyn : Y'.length + 1 = (nI (y0 :: Y')).length := (nI_len (y0 :: Y')).symm
  refine callK_M (o := ⟨3, 1, ints (rwI (ps.take k)).flatten⟩) (fun j => .ref j 0 (x0 :: X').length (x0 :: X').length) (.ref 0 _ _) rfl rfl (c1 (by omega)) ?_ (by simp) (hcI _)
  simp (disch := first | assumption | omega | rfl | simp only [RH]) only [↓RP, RG, FX, RQ, ↓reduceIte, Nat.reduceEqDiff, reduceCtorEq, Nat.reduceBEq, Nat.reduceAdd, Nat.reduceLeDiff, slice_hiL, slice_loL, Int.toNat_natCast, rowsC_take, rowsC_drop, hsub, htd]
  refine callK_M (o := ⟨3, 1, ints (rwI (ps.drop k)).flatten⟩) (fun j => .ref j 0 (y0 :: Y').length (y0 :: Y').length) (.ref 0 _ _) rfl rfl (c2 (by omega)) ?_ (by simp) (hcI _)
  simp (disch := first | assumption | omega | rfl | simp only [RH]) only [↓RP, RG, FX, RQ, ↓reduceIte, Nat.reduceEqDiff, reduceCtorEq, Nat.reduceBEq, Nat.reduceAdd, Nat.reduceLeDiff]
  refine callK_T rfl (sort_spec (ρ := Try.lays189_ren) Try.lays189 (by kernel_rfl) (id := 1) rfl (by decide) l1.symm (by omega)) ?_
  simp (disch := first | assumption | omega | rfl | simp only [RH]) only [↓RP, RG, FX, RQ, ↓reduceIte, Nat.reduceEqDiff, reduceCtorEq, Nat.reduceBEq, Nat.reduceAdd, Nat.reduceLeDiff, s1]
  refine callK_T rfl (sort_spec (ρ := Try.lays189_ren) Try.lays189 (by kernel_rfl) (id := 2) rfl (by decide) l2.symm (by omega)) ?_
  simp (disch := first | assumption | omega | rfl | simp only [RH]) only [↓RP, RG, FX, RQ, ↓reduceIte, Nat.reduceEqDiff, reduceCtorEq, Nat.reduceBEq, Nat.reduceAdd, Nat.reduceLeDiff, s2]
  rw [resVal_3 rfl]; simp (disch := first | assumption | omega | rfl | simp only [RH]) only [↓RP, RG, FX, RQ, ↓reduceIte, Nat.reduceEqDiff, reduceCtorEq, Nat.reduceBEq, Nat.reduceAdd, Nat.reduceLeDiff, RS]
  first | done | rfl
end Go.Proofs.Ytakeaicfhllmkaa

/- The law LayersParts. -/
set_option linter.unusedSimpArgs false
set_option linter.unusedVariables false
set_option maxRecDepth 100000
namespace Go.Proofs.Ytakeaicfhllmkaa
open Go Go.Proofs Go.AW

theorem layersP_bad (w h : Int) (b : Bool) (l : List Bool) (hz : gchk w h l.length ≠ 0) : Contract Try.prog 10 [GA w h b l] (.tuple [YV 0 [], I (gchk w h l.length)]) := by
  refine Contract.intro (effS [] false) 6 follows Try.func10 rfl rfl (by kernel_rfl) (Nat.le_of_ble_eq_true rfl) ?_
  simp (disch := first | assumption | omega | rfl | simp only [RH]) only [↓RP, RG, FX, RQ, ↓reduceIte, Nat.reduceEqDiff, reduceCtorEq, Nat.reduceBEq, Nat.reduceAdd, Nat.reduceLeDiff, args0_1]
  refine callK_F 6 (partsPP_bad w h b l hz) (by simp (disch := first | assumption | omega | rfl | simp only [RH]) only [↓RP, RG, FX, RQ, ↓reduceIte, Nat.reduceEqDiff, reduceCtorEq, Nat.reduceBEq, Nat.reduceAdd, Nat.reduceLeDiff, RA] <;> rfl) (.inl (by simp [allFresh]; exact PV_fr 2 _)) ?_
  generalize gchk w h l.length = e at *
  have hp : PV [] = .list true true 0 [] := rfl
  rw [hp]
  simp (disch := first | assumption | omega | rfl | simp only [RH]) only [↓RP, RG, FX, RQ, ↓reduceIte, Nat.reduceEqDiff, reduceCtorEq, Nat.reduceBEq, Nat.reduceAdd, Nat.reduceLeDiff]
  refine loopK_I [1, 5, 6, 14, 15, 16] (fun k : Nat => k = 0) (fun k => ⟨[(1, .ptr 0 0 3), (5, I e), (6, .cap0 true), (14, .list true true 0 []), (15, I 0), (16, I 0)], [⟨24, 3, [I w, I h, BA b l]⟩]⟩) (fun k => 0) 0 rfl (by simp only [↓RP, RG, FX, RQ, ↓reduceIte, Nat.reduceEqDiff, reduceCtorEq, Nat.reduceBEq, Nat.reduceAdd, Nat.reduceLeDiff]; rfl) ?_
  rintro k rfl
  simp (disch := first | assumption | omega | rfl | simp only [RH]) only [↓RP, RG, FX, RQ, ↓reduceIte, Nat.reduceEqDiff, reduceCtorEq, Nat.reduceBEq, Nat.reduceAdd, Nat.reduceLeDiff]
  rw [resVal_2 rfl]; simp (disch := first | assumption | omega | rfl | simp only [RH]) only [↓RP, RG, FX, RQ, ↓reduceIte, Nat.reduceEqDiff, reduceCtorEq, Nat.reduceBEq, Nat.reduceAdd, Nat.reduceLeDiff, RS]
  first | done | rfl
theorem layersR_bad (w h : Int) (b : Bool) (l : List Bool) (hz : gchk w h l.length ≠ 0) : Contract Try.prog 11 [GA w h b l] (.tuple [YV 0 [], I (gchk w h l.length)]) := by
  refine Contract.intro (effS [] false) 6 follows Try.func11 rfl rfl (by kernel_rfl) (Nat.le_of_ble_eq_true rfl) ?_
  simp (disch := first | assumption | omega | rfl | simp only [RH]) only [↓RP, RG, FX, RQ, ↓reduceIte, Nat.reduceEqDiff, reduceCtorEq, Nat.reduceBEq, Nat.reduceAdd, Nat.reduceLeDiff, args0_1]
  refine callK_F 6 (gcheckR_c w h b l) (by simp (disch := first | assumption | omega | rfl | simp only [RH]) only [↓RP, RG, FX, RQ, ↓reduceIte, Nat.reduceEqDiff, reduceCtorEq, Nat.reduceBEq, Nat.reduceAdd, Nat.reduceLeDiff, RA] <;> rfl) (.inl (by simp [allFresh, ints_fresh, bools_fresh])) ?_
  simp (disch := first | assumption | omega | rfl | simp only [RH]) only [↓RP, RG, FX, RQ, ↓reduceIte, Nat.reduceEqDiff, reduceCtorEq, Nat.reduceBEq, Nat.reduceAdd, Nat.reduceLeDiff]
  refine callK_F 6 (gcheckR_c w h b l) (by simp (disch := first | assumption | omega | rfl | simp only [RH]) only [↓RP, RG, FX, RQ, ↓reduceIte, Nat.reduceEqDiff, reduceCtorEq, Nat.reduceBEq, Nat.reduceAdd, Nat.reduceLeDiff, RA] <;> rfl) (.inl (by simp [allFresh, ints_fresh, bools_fresh])) ?_
  simp (disch := first | assumption | omega | rfl | simp only [RH]) only [↓RP, RG, FX, RQ, ↓reduceIte, Nat.reduceEqDiff, reduceCtorEq, Nat.reduceBEq, Nat.reduceAdd, Nat.reduceLeDiff]
  rw [resVal_2 rfl]; simp (disch := first | assumption | omega | rfl | simp only [RH]) only [↓RP, RG, FX, RQ, ↓reduceIte, Nat.reduceEqDiff, reduceCtorEq, Nat.reduceBEq, Nat.reduceAdd, Nat.reduceLeDiff, RS]
  first | done | rfl
theorem spV_fr (k : Nat) (x : List Nat) : allFresh (k + 2) (spV x) = true := by
  cases x with
  | nil => rfl
  | cons a t => simp [spV, allFresh, ints_fresh]
theorem spV_arg (h : List AObj) (k : Nat) (x : List Nat) : argOf h (k + 2) (spV x) = LA x.isEmpty (nI x) := by
  cases x with
  | nil => rfl
  | cons a t => simp [spV, argOf_list, ints_arg]
/-- Both programs say the same: the law, from there. -/
theorem layersParts_of (w h : Int) (b : Bool) (l : List Bool) (x y k : Int) (hl : l.length ≤ 1000) (hG : Contract Try.prog 4 [GA w h b l] (B false))
    (ps : List (List Nat)) (e1 : Int) (hpl : ps.length ≤ 1000) (hpr : ∀ r ∈ ps, r.length ≤ 1000) (p1 : Contract Try.prog 6 [GA w h b l] (.tuple [PV ps, I e1])) (p2 : Contract Try.prog 7 [GA w h b l] (.tuple [PV ps, I e1]))
    (r : Bool) (e2 : Int) (q1 : Contract Try.prog 8 [GA w h b l, I x, I y] (.tuple [B r, I e2])) (q2 : Contract Try.prog 9 [GA w h b l, I x, I y] (.tuple [B r, I e2]))
    (W : Nat) (e3 : Int) (l1 : Contract Try.prog 10 [GA w h b l] (.tuple [YV W ps, I e3])) (l2 : Contract Try.prog 11 [GA w h b l] (.tuple [YV W ps, I e3]))
    (X Y : List Nat) (e4 : Int) (hX : X.length ≤ 1000) (hY : Y.length ≤ 1000) (vx vy : AVal) (bx1 bx2 by1 by2 : Bool) (fx : allFresh 5 vx = true) (fy : allFresh 5 vy = true) (ax : ∀ h, argOf h 6 vx = LA bx1 (nI X)) (ay : ∀ h, argOf h 6 vy = LA by1 (nI Y))
    (s1 : Contract Try.prog 12 [GA w h b l, I k] (.tuple [vx, vy, I e4])) (s2 : Contract Try.prog 13 [GA w h b l, I k] (.tuple [LR bx2 (nI X), LR by2 (nI Y), I e4])) :
    Contract Try.prog 3 [GA w h b l, I x, I y, I k] (B true) := by
  have smX := same02_c bx1 bx2 (nI X) (nI X) (by rw [nI_len]; omega)
  have smY := same02_c by1 by2 (nI Y) (nI Y) (by rw [nI_len]; omega)
  rw [decide_eq_true rfl] at smX smY
  have sp := sameParts_c (ps := ps) (by omega) (fun r hr => by have := hpr r hr; omega)
  have sl := sameLayers_c W (ps := ps) (by omega) (fun r hr => by have := hpr r hr; omega)
  have fp := PV_fr 2 ps
  have fp3 := PV_fr 3 ps
  have ap : ∀ h, argOf h 6 (PV ps) = PA ps := fun h => PV_arg h 3 ps
  have al : ∀ h, argOf h 6 (YV W ps) = YA W ps := fun h => YV_arg h 3 W ps
  have fl := YV_fr 2 W ps
  generalize PV ps = vp at *
  generalize YV W ps = vl at *
  refine Contract.intro (effS [] false) 6 follows Try.func3 rfl rfl (by kernel_rfl) (Nat.le_of_ble_eq_true rfl) ?_
  simp (disch := first | assumption | omega | rfl | simp only [RH]) only [↓RP, RG, FX, RQ, ↓reduceIte, Nat.reduceEqDiff, reduceCtorEq, Nat.reduceBEq, Nat.reduceAdd, Nat.reduceLeDiff, args0_4]
  refine callK_F 6 (hG) (by simp (disch := first | assumption | omega | rfl | simp only [RH]) only [↓RP, RG, FX, RQ, ↓reduceIte, Nat.reduceEqDiff, reduceCtorEq, Nat.reduceBEq, Nat.reduceAdd, Nat.reduceLeDiff, RA] <;> rfl) (.inl (by simp [allFresh, ints_fresh, bools_fresh])) ?_
  simp (disch := first | assumption | omega | rfl | simp only [RH]) only [↓RP, RG, FX, RQ, ↓reduceIte, Nat.reduceEqDiff, reduceCtorEq, Nat.reduceBEq, Nat.reduceAdd, Nat.reduceLeDiff]
  refine callK_F 6 (twin_c w h b l (by omega)) (by simp (disch := first | assumption | omega | rfl | simp only [RH]) only [↓RP, RG, FX, RQ, ↓reduceIte, Nat.reduceEqDiff, reduceCtorEq, Nat.reduceBEq, Nat.reduceAdd, Nat.reduceLeDiff, RA] <;> rfl) (.inl (by simp [allFresh, ints_fresh, bools_fresh])) ?_
  simp (disch := first | assumption | omega | rfl | simp only [RH]) only [↓RP, RG, FX, RQ, ↓reduceIte, Nat.reduceEqDiff, reduceCtorEq, Nat.reduceBEq, Nat.reduceAdd, Nat.reduceLeDiff]
  refine callK_F 6 p1 (by simp (disch := first | assumption | omega | rfl | simp only [RH]) only [↓RP, RG, FX, RQ, ↓reduceIte, Nat.reduceEqDiff, reduceCtorEq, Nat.reduceBEq, Nat.reduceAdd, Nat.reduceLeDiff, RA] <;> rfl) (.inl (by simp [allFresh]; exact fp)) ?_
  simp (disch := first | assumption | omega | rfl | simp only [RH]) only [↓RP, RG, FX, RQ, ↓reduceIte, Nat.reduceEqDiff, reduceCtorEq, Nat.reduceBEq, Nat.reduceAdd, Nat.reduceLeDiff]
  refine callK_F 6 p2 (by simp (disch := first | assumption | omega | rfl | simp only [RH]) only [↓RP, RG, FX, RQ, ↓reduceIte, Nat.reduceEqDiff, reduceCtorEq, Nat.reduceBEq, Nat.reduceAdd, Nat.reduceLeDiff, RA] <;> rfl) (.inl (by simp [allFresh]; exact fp)) ?_
  simp (disch := first | assumption | omega | rfl | simp only [RH]) only [↓RP, RG, FX, RQ, ↓reduceIte, Nat.reduceEqDiff, reduceCtorEq, Nat.reduceBEq, Nat.reduceAdd, Nat.reduceLeDiff]
  refine callK_F 6 (q1) (by simp (disch := first | assumption | omega | rfl | simp only [RH]) only [↓RP, RG, FX, RQ, ↓reduceIte, Nat.reduceEqDiff, reduceCtorEq, Nat.reduceBEq, Nat.reduceAdd, Nat.reduceLeDiff, RA] <;> rfl) (.inl (by simp [allFresh, ints_fresh, bools_fresh])) ?_
  simp (disch := first | assumption | omega | rfl | simp only [RH]) only [↓RP, RG, FX, RQ, ↓reduceIte, Nat.reduceEqDiff, reduceCtorEq, Nat.reduceBEq, Nat.reduceAdd, Nat.reduceLeDiff]
  refine callK_F 6 (q2) (by simp (disch := first | assumption | omega | rfl | simp only [RH]) only [↓RP, RG, FX, RQ, ↓reduceIte, Nat.reduceEqDiff, reduceCtorEq, Nat.reduceBEq, Nat.reduceAdd, Nat.reduceLeDiff, RA] <;> rfl) (.inl (by simp [allFresh, ints_fresh, bools_fresh])) ?_
  simp (disch := first | assumption | omega | rfl | simp only [RH]) only [↓RP, RG, FX, RQ, ↓reduceIte, Nat.reduceEqDiff, reduceCtorEq, Nat.reduceBEq, Nat.reduceAdd, Nat.reduceLeDiff]
  refine callK_F 6 l1 (by simp (disch := first | assumption | omega | rfl | simp only [RH]) only [↓RP, RG, FX, RQ, ↓reduceIte, Nat.reduceEqDiff, reduceCtorEq, Nat.reduceBEq, Nat.reduceAdd, Nat.reduceLeDiff, RA] <;> rfl) (.inl (by simp [allFresh]; exact fl)) ?_
  simp (disch := first | assumption | omega | rfl | simp only [RH]) only [↓RP, RG, FX, RQ, ↓reduceIte, Nat.reduceEqDiff, reduceCtorEq, Nat.reduceBEq, Nat.reduceAdd, Nat.reduceLeDiff]
  refine callK_F 6 l2 (by simp (disch := first | assumption | omega | rfl | simp only [RH]) only [↓RP, RG, FX, RQ, ↓reduceIte, Nat.reduceEqDiff, reduceCtorEq, Nat.reduceBEq, Nat.reduceAdd, Nat.reduceLeDiff, RA] <;> rfl) (.inl (by simp [allFresh]; exact fl)) ?_
  simp (disch := first | assumption | omega | rfl | simp only [RH]) only [↓RP, RG, FX, RQ, ↓reduceIte, Nat.reduceEqDiff, reduceCtorEq, Nat.reduceBEq, Nat.reduceAdd, Nat.reduceLeDiff]
  refine callK_F 6 s1 (by simp (disch := first | assumption | omega | rfl | simp only [RH]) only [↓RP, RG, FX, RQ, ↓reduceIte, Nat.reduceEqDiff, reduceCtorEq, Nat.reduceBEq, Nat.reduceAdd, Nat.reduceLeDiff, RA] <;> rfl) (.inl (by simp [allFresh]; exact ⟨fx, fy⟩)) ?_
  simp (disch := first | assumption | omega | rfl | simp only [RH]) only [↓RP, RG, FX, RQ, ↓reduceIte, Nat.reduceEqDiff, reduceCtorEq, Nat.reduceBEq, Nat.reduceAdd, Nat.reduceLeDiff]
  refine callK_F 6 s2 (by simp (disch := first | assumption | omega | rfl | simp only [RH]) only [↓RP, RG, FX, RQ, ↓reduceIte, Nat.reduceEqDiff, reduceCtorEq, Nat.reduceBEq, Nat.reduceAdd, Nat.reduceLeDiff, RA] <;> rfl) (.inl (by simp [allFresh, ints_fresh])) ?_
  simp (disch := first | assumption | omega | rfl | simp only [RH]) only [↓RP, RG, FX, RQ, ↓reduceIte, Nat.reduceEqDiff, reduceCtorEq, Nat.reduceBEq, Nat.reduceAdd, Nat.reduceLeDiff]
  refine callK_F 6 sp (by simp only [List.map_cons, List.map_nil, ap]) (.inl rfl) ?_
  simp (disch := first | assumption | omega | rfl | simp only [RH]) only [↓RP, RG, FX, RQ, ↓reduceIte, Nat.reduceEqDiff, reduceCtorEq, Nat.reduceBEq, Nat.reduceAdd, Nat.reduceLeDiff, beq_self_eq_true]
  refine callK_F 6 sl (by simp only [List.map_cons, List.map_nil, al]) (.inl rfl) ?_
  simp (disch := first | assumption | omega | rfl | simp only [RH]) only [↓RP, RG, FX, RQ, ↓reduceIte, Nat.reduceEqDiff, reduceCtorEq, Nat.reduceBEq, Nat.reduceAdd, Nat.reduceLeDiff, beq_self_eq_true]
  refine callK_F 6 smX (by simp only [List.map_cons, List.map_nil, ax, argOf_list, ints_arg]) (.inl rfl) ?_
  simp (disch := first | assumption | omega | rfl | simp only [RH]) only [↓RP, RG, FX, RQ, ↓reduceIte, Nat.reduceEqDiff, reduceCtorEq, Nat.reduceBEq, Nat.reduceAdd, Nat.reduceLeDiff, beq_self_eq_true]
  refine callK_F 6 smY (by simp only [List.map_cons, List.map_nil, ay, argOf_list, ints_arg]) (.inl rfl) ?_
  simp (disch := first | assumption | omega | rfl | simp only [RH]) only [↓RP, RG, FX, RQ, ↓reduceIte, Nat.reduceEqDiff, reduceCtorEq, Nat.reduceBEq, Nat.reduceAdd, Nat.reduceLeDiff, beq_self_eq_true]
  refine callK_F 6 (sameR_c w h w h b false l l (by omega)) (by simp (disch := first | assumption | omega | rfl | simp only [RH]) only [↓RP, RG, FX, RQ, ↓reduceIte, Nat.reduceEqDiff, reduceCtorEq, Nat.reduceBEq, Nat.reduceAdd, Nat.reduceLeDiff, RA] <;> rfl) (.inl (by simp [allFresh, ints_fresh, bools_fresh])) ?_
  simp (disch := first | assumption | omega | rfl | simp only [RH]) only [↓RP, RG, FX, RQ, ↓reduceIte, Nat.reduceEqDiff, reduceCtorEq, Nat.reduceBEq, Nat.reduceAdd, Nat.reduceLeDiff, beq_self_eq_true]
  rw [resVal_1 rfl]; simp (disch := first | assumption | omega | rfl | simp only [RH]) only [↓RP, RG, FX, RQ, ↓reduceIte, Nat.reduceEqDiff, reduceCtorEq, Nat.reduceBEq, Nat.reduceAdd, Nat.reduceLeDiff, RS]
theorem layersParts_c (w h : Int) (b : Bool) (l : List Bool) (x y k : Int) : Contract Try.prog 3 [GA w h b l, I x, I y, I k] (B true) := by
  by_cases c1 : 200 < (l.length : Int)
  · refine Contract.intro (effS [] false) 6 follows Try.func3 rfl rfl (by kernel_rfl) (Nat.le_of_ble_eq_true rfl) ?_
    simp (disch := first | assumption | omega | rfl | simp only [RH]) only [↓RP, RG, FX, RQ, ↓reduceIte, Nat.reduceEqDiff, reduceCtorEq, Nat.reduceBEq, Nat.reduceAdd, Nat.reduceLeDiff, args0_4]
    refine callK_F 6 (great10_a w h b l c1) (by simp (disch := first | assumption | omega | rfl | simp only [RH]) only [↓RP, RG, FX, RQ, ↓reduceIte, Nat.reduceEqDiff, reduceCtorEq, Nat.reduceBEq, Nat.reduceAdd, Nat.reduceLeDiff, RA] <;> rfl) (.inl (by simp [allFresh, ints_fresh, bools_fresh])) ?_
    simp (disch := first | assumption | omega | rfl | simp only [RH]) only [↓RP, RG, FX, RQ, ↓reduceIte, Nat.reduceEqDiff, reduceCtorEq, Nat.reduceBEq, Nat.reduceAdd, Nat.reduceLeDiff]
    rw [resVal_1 rfl]; simp (disch := first | assumption | omega | rfl | simp only [RH]) only [↓RP, RG, FX, RQ, ↓reduceIte, Nat.reduceEqDiff, reduceCtorEq, Nat.reduceBEq, Nat.reduceAdd, Nat.reduceLeDiff, RS]
  by_cases hz : gchk w h l.length = 0
  rotate_left
  · exact layersParts_of w h b l x y k (by omega) (great10_b w h b l c1 hz) [] _ (by simp) (fun r hr => by cases hr) (partsPP_bad w h b l hz) (partsRR_bad w h b l hz) false _ (heldP_bad w h b l x y hz) (heldR_bad w h b l x y hz) 0 _ (layersP_bad w h b l hz) (layersR_bad w h b l hz) [] [] _ (by simp) (by simp) (LR true []) (LR true []) true true true true rfl rfl (fun _ => rfl) (fun _ => rfl) (splitP_bad w h b l k hz) (splitR_bad w h b l k hz)
  obtain ⟨g1, g2, g3, g4, g5⟩ := gchk_iff.1 hz
  obtain ⟨W, rfl⟩ : ∃ W : Nat, w = W := ⟨w.toNat, by omega⟩
  obtain ⟨H, rfl⟩ : ∃ H : Nat, h = H := ⟨h.toNat, by omega⟩
  have hn : l.length = W * H := by
    have : ((W * H : Nat) : Int) = (W : Int) * H := Int.natCast_mul W H
    omega
  have hG := great10_c W H b l c1 hz (by omega) (by omega)
  by_cases c3 : 24 < (W : Int) + H
  · rw [decide_eq_true c3] at hG
    refine Contract.intro (effS [] false) 6 follows Try.func3 rfl rfl (by kernel_rfl) (Nat.le_of_ble_eq_true rfl) ?_
    simp (disch := first | assumption | omega | rfl | simp only [RH]) only [↓RP, RG, FX, RQ, ↓reduceIte, Nat.reduceEqDiff, reduceCtorEq, Nat.reduceBEq, Nat.reduceAdd, Nat.reduceLeDiff, args0_4]
    refine callK_F 6 (hG) (by simp (disch := first | assumption | omega | rfl | simp only [RH]) only [↓RP, RG, FX, RQ, ↓reduceIte, Nat.reduceEqDiff, reduceCtorEq, Nat.reduceBEq, Nat.reduceAdd, Nat.reduceLeDiff, RA] <;> rfl) (.inl (by simp [allFresh, ints_fresh, bools_fresh])) ?_
    simp (disch := first | assumption | omega | rfl | simp only [RH]) only [↓RP, RG, FX, RQ, ↓reduceIte, Nat.reduceEqDiff, reduceCtorEq, Nat.reduceBEq, Nat.reduceAdd, Nat.reduceLeDiff]
    rw [resVal_1 rfl]; simp (disch := first | assumption | omega | rfl | simp only [RH]) only [↓RP, RG, FX, RQ, ↓reduceIte, Nat.reduceEqDiff, reduceCtorEq, Nat.reduceBEq, Nat.reduceAdd, Nat.reduceLeDiff, RS]
  rw [decide_eq_false c3] at hG
  obtain ⟨n, hN⟩ : ∃ n, W + H = n := ⟨_, rfl⟩
  have hW0 : 0 < W := by omega
  have hH0 : 0 < H := by omega
  have hn64 : n ≤ 64 := by omega
  have hps := parts_len (W := W) (n := n) (l := l)
  have hpr : ∀ r ∈ PL W n l, r.length ≤ 1000 := fun r hr => by
    have := (PL_row hr).1; omega
  have hof := layersParts_of W H b l x y k (by omega) hG (PL W n l) 0 (by omega) hpr (partsPP_c hN hW0 hH0 hn64 b hn) (partsRR_c hN hW0 hH0 hn64 b hn) _ _ (heldP_c hN hW0 hH0 hn64 b hn x y) (heldR_c hN hW0 hH0 hn64 b hn x y) W 0 (layersP_c hN hW0 hH0 hn64 b hn) (layersR_c hN hW0 hH0 hn64 b hn)
  by_cases hk : 0 ≤ k ∧ k ≤ (PL W n l).length
  · obtain ⟨j, rfl⟩ : ∃ j : Nat, k = j := ⟨k.toNat, by omega⟩
    have q1 : (spI W n l j).length ≤ n := Nat.le_trans (List.length_filter_le _ _) (by simp)
    have q2 : (spO W n l j).length ≤ n := Nat.le_trans (List.length_filter_le _ _) (by simp)
    exact hof (spI W n l j) (spO W n l j) 0 (by omega) (by omega) (spV (spI W n l j)) (spV (spO W n l j)) _ _ _ _ (spV_fr 3 _) (spV_fr 3 _) (fun h => spV_arg h 4 _) (fun h => spV_arg h 4 _) (splitP_c hN hW0 hH0 hn64 b hn (by omega)) (splitR_c hN hW0 hH0 hn64 b hn (by omega))
  · exact hof [] [] 2 (by simp) (by simp) (LR true []) (LR true []) true true true true rfl rfl (fun _ => rfl) (fun _ => rfl) (splitP_no hN hW0 hH0 hn64 b hn k hk) (splitR_no hN hW0 hH0 hn64 b hn k hk)
end Go.Proofs.Ytakeaicfhllmkaa
