/- Part 2 of the proof's own texts: the contracts of functions, and what they rest on. -/
import Derived.Test.YtmfddbhemknkfaaDoorJ1
/- Chapter 11: the parts of a cloth, by the program. -/
set_option linter.unusedSimpArgs false
set_option linter.unusedVariables false
set_option maxRecDepth 100000
namespace Go.Proofs.YtmfddbhemknkfaaDoor
open Go Go.Proofs Go.AW

/-- Thread a is held by thread b. -/
def hdB (W n : Nat) (l : List Bool) (a b : Nat) : Bool := decide (0 ≤ (srch (adjT W n l) (far0 n a) [a]).getD b 0)
theorem adjT_in {W n : Nat} {l : List Bool} : ∀ x y, x < n → y ∈ adjT W n l x → y < n := fun _ _ _ h => adjT_lt h
theorem adjT_le (W n : Nat) (l : List Bool) (a : Nat) : (adjT W n l a).length ≤ n := by
  unfold adjT; exact Nat.le_trans (List.length_filter_le _ _) (by simp)
theorem hdB_iff {W n : Nat} {l : List Bool} {a b : Nat} (ha : a < n) (hb : b < n) : hdB W n l a b = true ↔ Wy (adjT W n l) a b := by
  unfold hdB
  rw [decide_eq_true_eq]
  constructor
  · intro h
    refine rch_in ha hb (M := fun x => Wy (adjT W n l) a x) (fun c hc hw x hx ho => ?_) (.refl a) h
    exact Wy.trans hw (.one (mem_adjT.2 ⟨hx, ho⟩))
  · intro h
    have hcl := rch_cl (W := W) l ha
    exact (h.closed (p := fun x => x < n ∧ Rch W n l a x) (fun x y hx hy => by
      obtain ⟨h1, h2⟩ := mem_adjT.1 hy
      exact ⟨h1, hcl x hx.1 hx.2 y h1 h2⟩) ⟨ha, rch_self l ha⟩).2
/-- The parts of a cloth in their order. -/
def PL (W n : Nat) (l : List Bool) : List (List Nat) := lsP (hdB W n l) n n fun _ => false
def PV (ps : List (List Nat)) : AVal := .list true ps.isEmpty ps.length (rowsC ps)
def nxV (o : Option Nat) : Int := match o with
  | none => -1
  | some p => (p : Int)
theorem fI_const (n : Nat) (v : Int) : fI n (fun _ => v) = List.replicate n v := by
  rw [List.eq_replicate_iff]
  exact ⟨fI_len _ _, fun x hx => by obtain ⟨_, _, rfl⟩ := List.mem_map.1 hx; rfl⟩
theorem LL_fr (k : Nat) (rs : List (List Int)) : ∀ x, x ∈ LL rs → allFresh (k + 2) x = true := by
  intro x hx
  obtain ⟨r, _, rfl⟩ := List.mem_map.1 hx
  simp [allFresh, ints_fresh]
/-- Rows, by parts. -/
def fL (m : Nat) (g : Nat → List Nat) : List (List Int) := (List.range m).map fun q => nI (g q)
theorem fL_len (m : Nat) (g : Nat → List Nat) : (fL m g).length = m := by simp [fL]
theorem fL_get {m : Nat} {g : Nat → List Nat} {q : Nat} (h : q < m) : (fL m g).getD q [] = nI (g q) := by simp [fL, List.getD_eq_getElem?_getD, h]
theorem fL_set {m : Nat} {g : Nat → List Nat} {q : Nat} (v : List Nat) : (fL m g).set q (nI v) = fL m (updN g q v) := by
  refine List.ext_getElem (by simp [fL]) fun i h1 h2 => ?_
  rw [List.getElem_set]
  simp only [fL, List.getElem_map, List.getElem_range]
  by_cases h : q = i
  · rw [if_pos h, h, updN_same]
  · rw [if_neg h, updN_other _ _ (fun e => h e.symm)]
theorem fL_nil (m : Nat) : fL m (fun _ => []) = List.replicate m [] := by
  rw [List.eq_replicate_iff]
  exact ⟨fL_len _ _, fun x hx => by obtain ⟨_, _, rfl⟩ := List.mem_map.1 hx; rfl⟩
section
variable {o0 o1 o2 o3 o4 o5 o6 o7 : AObj} {rs : List (List Int)} {tl : List AObj}
theorem h8_at {a : Nat} (ha : a < rs.length) : (o0 :: o1 :: o2 :: o3 :: o4 :: o5 :: o6 :: o7 :: (gos rs ++ tl))[8 + a]? = some (go 3 (ints (rs.getD a []))) := by
  rw [show 8 + a = a + 8 by omega]
  simp only [List.getElem?_cons_succ]
  rw [List.getElem?_append_left (by rw [gos_len]; exact ha)]
  exact gos_at ha
theorem h8_set {a : Nat} (ha : a < rs.length) (r : List Int) : (o0 :: o1 :: o2 :: o3 :: o4 :: o5 :: o6 :: o7 :: (gos rs ++ tl)).set (8 + a) (go 3 (ints r)) = o0 :: o1 :: o2 :: o3 :: o4 :: o5 :: o6 :: o7 :: (gos (rs.set a r) ++ tl) := by
  rw [show 8 + a = a + 8 by omega]
  simp only [List.set_cons_succ]
  rw [List.set_append_left _ _ (by rw [gos_len]; exact ha), gos_set]
theorem h8_tl {m k : Nat} (hm : rs.length = m) : (o0 :: o1 :: o2 :: o3 :: o4 :: o5 :: o6 :: o7 :: (gos rs ++ tl))[8 + m + k]? = tl[k]? := by
  rw [show 8 + m + k = m + k + 8 by omega]
  simp only [List.getElem?_cons_succ]
  rw [List.getElem?_append_right (by rw [gos_len]; omega), gos_len, hm, Nat.add_sub_cancel_left]
theorem h8_stl {m k : Nat} (hm : rs.length = m) (o : AObj) : (o0 :: o1 :: o2 :: o3 :: o4 :: o5 :: o6 :: o7 :: (gos rs ++ tl)).set (8 + m + k) o = o0 :: o1 :: o2 :: o3 :: o4 :: o5 :: o6 :: o7 :: (gos rs ++ tl.set k o) := by
  rw [show 8 + m + k = m + k + 8 by omega]
  simp only [List.set_cons_succ]
  rw [List.set_append_right _ _ (by rw [gos_len]; omega), gos_len, hm, Nat.add_sub_cancel_left]
end
theorem argOf_gwI {h : List AObj} {k e m : Nat} {l : List Int} (ho : h[k]? = some (go e (ints l))) : argOf h (m + 2) (gw true k (ints l)) = LA l.isEmpty l := by
  rw [argOf_gw, ho, gaA_go, ints_length, ints_arg]
  have : (ints l).isEmpty = l.isEmpty := by cases l <;> rfl
  rw [this]; rfl
theorem mem_nI {l : List Nat} {x : Nat} : (x : Int) ∈ nI l ↔ x ∈ l := by
  unfold nI
  rw [List.mem_map]
  constructor
  · rintro ⟨y, h1, h2⟩
    have : y = x := by omega
    exact this ▸ h1
  · intro h; exact ⟨x, h, rfl⟩
/-- Marks, by parts. -/
def fB (m : Nat) (D : Nat → Bool) : List Bool := (List.range m).map D
theorem fB_len (m : Nat) (D : Nat → Bool) : (fB m D).length = m := by simp [fB]
theorem fB_get {m : Nat} {D : Nat → Bool} {p : Nat} (h : p < m) : (fB m D).getD p false = D p := by simp [fB, List.getD_eq_getElem?_getD, h]
theorem fB_set {m : Nat} {D : Nat → Bool} {p : Nat} (v : Bool) : (fB m D).set p v = fB m (updN D p v) := by
  refine List.ext_getElem (by simp [fB]) fun i h1 h2 => ?_
  rw [List.getElem_set]
  simp only [fB, List.getElem_map, List.getElem_range]
  by_cases h : p = i
  · rw [if_pos h, h, updN_same]
  · rw [if_neg h, updN_other _ _ (fun e => h e.symm)]
theorem fB_none (m : Nat) : fB m (fun _ => false) = List.replicate m false := by
  rw [List.eq_replicate_iff]
  exact ⟨fB_len _ _, fun x hx => by obtain ⟨_, _, rfl⟩ := List.mem_map.1 hx; rfl⟩
theorem rowsC_at {ps : List (List Nat)} {i : Nat} (h : i < ps.length) : ((rowsC ps).drop i)[0]? = some (LR false (nI (ps.getD i []))) := by
  rw [List.getElem?_drop, Nat.add_zero, rowsC, List.getElem?_map, List.getElem?_eq_getElem h, List.getD_eq_getElem?_getD, List.getElem?_eq_getElem h]; rfl
section
variable {o0 o1 o2 o3 o4 o5 o6 o7 : AObj} {rs : List (List Int)} {tl : List AObj} {m : Nat}
theorem h8_t0 (hm : rs.length = m) : (o0 :: o1 :: o2 :: o3 :: o4 :: o5 :: o6 :: o7 :: (gos rs ++ tl))[m + 8]? = tl[0]? := by
  rw [show m + 8 = 8 + m + 0 by omega]; exact h8_tl hm
theorem h8_t1 (hm : rs.length = m) : (o0 :: o1 :: o2 :: o3 :: o4 :: o5 :: o6 :: o7 :: (gos rs ++ tl))[m + 9]? = tl[1]? := by
  rw [show m + 9 = 8 + m + 1 by omega]; exact h8_tl hm
theorem h8_s0 (hm : rs.length = m) (o : AObj) : (o0 :: o1 :: o2 :: o3 :: o4 :: o5 :: o6 :: o7 :: (gos rs ++ tl)).set (m + 8) o = o0 :: o1 :: o2 :: o3 :: o4 :: o5 :: o6 :: o7 :: (gos rs ++ tl.set 0 o) := by
  rw [show m + 8 = 8 + m + 0 by omega]; exact h8_stl hm o
theorem h8_s1 (hm : rs.length = m) (o : AObj) : (o0 :: o1 :: o2 :: o3 :: o4 :: o5 :: o6 :: o7 :: (gos rs ++ tl)).set (m + 9) o = o0 :: o1 :: o2 :: o3 :: o4 :: o5 :: o6 :: o7 :: (gos rs ++ tl.set 1 o) := by
  rw [show m + 9 = 8 + m + 1 by omega]; exact h8_stl hm o
end
theorem hdL_nI {q : List Nat} (h : 0 < q.length) : (nI q).getD 0 0 = (hdL q : Int) := by
  cases q with
  | nil => simp at h
  | cons a t => rfl
theorem rowsC_res (h : List AObj) (n : Nat) (ps : List (List Nat)) : (rowsC ps).map (resOf h (n + 2)) = rowsC ps := by
  unfold rowsC
  rw [List.map_map]
  refine List.map_congr_left fun l _ => ?_
  simp [resOf, resOf_list, ints_res]
theorem abv_len (W n : Nat) (l : List Bool) : (abv W n l).length = n := by simp [abv]
set_option maxHeartbeats 1000000 in
theorem partsP_c {W H n : Nat} (hN : W + H = n) (hW0 : 0 < W) (hH0 : 0 < H) (hn64 : n ≤ 64) (b : Bool) {l : List Bool} (hn : l.length = W * H) : Contract Tryd.prog 29 [GA W H b l] (PV (PL W n l)) := by
  have hab := aboveP_c hN hW0 hH0 (by omega) (by omega) b hn
  have hNi : ((W : Int) + (H : Int)).toNat = n := by omega
  have hNc : (W : Int) + (H : Int) = (n : Int) := by omega
  have hrl := abv_len W n l
  have hrow : ∀ a, a < n → (abv W n l).getD a [] = nI (adjT W n l a) := fun a ha => abv_adj ha
  have hS := tAll_scc (ov := adjT W n l) (n := n) adjT_in
  have hinv := tAll_inv (ov := adjT W n l) (n := n) adjT_in
  refine Contract.intro (effS [39] false [1] [0] [] (fun _ => true) [] [39]) 6 follows Tryd.func29 rfl rfl (by kernel_rfl) (Nat.le_of_ble_eq_true rfl) ?_
  simp (disch := first | assumption | omega | rfl | simp only [RH]) only [↓RP, RG, FX, RQ, ↓reduceIte, Nat.reduceEqDiff, reduceCtorEq, Nat.reduceBEq, Nat.reduceAdd, Nat.reduceLeDiff, args0_1, hNc]
  refine callK_F 6 hab (by simp (disch := first | assumption | omega | rfl | simp only [RH]) only [↓RP, RG, FX, RQ, ↓reduceIte, Nat.reduceEqDiff, reduceCtorEq, Nat.reduceBEq, Nat.reduceAdd, Nat.reduceLeDiff, RA] <;> rfl) (.inl (by simp [allFresh]; exact LL_fr 3 _)) ?_
  simp (disch := first | assumption | omega | rfl | simp only [RH]) only [↓RP, RG, FX, RQ, ↓reduceIte, Nat.reduceEqDiff, reduceCtorEq, Nat.reduceBEq, Nat.reduceAdd, Nat.reduceLeDiff, make_int, hNi, hNc]
  refine callK_M (o := ⟨3, 1, ints (List.replicate n (-1))⟩) (fun k => .ref k 0 n n) (.ref 0 n n) rfl rfl (fun h2 => repeat_s h2 (by omega) (by omega)) ?_ (by simp) (fun x hx => by
    simp only [ints, List.mem_map] at hx
    obtain ⟨u, _, rfl⟩ := hx
    exact ⟨_, rfl⟩)
  simp (disch := first | assumption | omega | rfl | simp only [RH]) only [↓RP, RG, FX, RQ, ↓reduceIte, Nat.reduceEqDiff, reduceCtorEq, Nat.reduceBEq, Nat.reduceAdd, Nat.reduceLeDiff]
  refine loopK_WW [3, 4, 35, 36] (fun a : Nat => a ≤ n) (fun a => ⟨[(3, I n), (4, .ptr 3 0 7), (35, I n), (36, I a)], FS (abv W n l) n (tAll (adjT W n l) n a)⟩) (fun a => n - a) 0 (by omega) ?_ ?_
  · simp only [↓RP, RG, FX, RQ, ↓reduceIte, Nat.reduceEqDiff, reduceCtorEq, Nat.reduceBEq, Nat.reduceAdd, Nat.reduceLeDiff]
    have e : FS (abv W n l) n (tAll (adjT W n l) n 0) = [⟨3, 1, ints (List.replicate n 0)⟩, ⟨3, 1, ints (List.replicate n 0)⟩, ⟨3, 1, ints (List.replicate n (-1))⟩, ⟨68, 7, [.list true false n (LL (abv W n l)), .ref 0 0 n n, .ref 1 0 n n, .ref 2 0 n n, .res 4, I 0, .res 5]⟩, ⟨0, 0, []⟩, ⟨0, 0, []⟩] := by
      rw [← fI_const, ← fI_const]; rfl
    rw [e]
    exact Wk.weak (fun t => .refl _) (.cons _ _ _ _ (WL.refl _) (.cons _ _ _ _ (WL.refl _) (.cons _ _ _ _ (WL.refl _) (.cons _ _ _ _ (.cons (.refl _) (.cons (.refl _) (.cons (.refl _) (.cons (.refl _) (.cons (.nil _) (.cons (.refl _) (.cons (.nil _) .nil))))))) (.nil _ (by simp))))))
  intro a ha
  obtain ⟨s, hs⟩ : ∃ s, tAll (adjT W n l) n a = s := ⟨_, rfl⟩
  have hsi := (hinv a ha).1
  rw [hs] at hsi
  simp only [hs]
  have m1 := fI_len n fun x => (s.ix x : Int)
  by_cases hlt : a < n
  · have gix : (fI n fun x => (s.ix x : Int)).getD a 0 = (s.ix a : Int) := fI_get hlt
    by_cases h0 : s.ix a = 0
    · have hnx : tAll (adjT W n l) n (a + 1) = tVis (adjT W n l) n s a := by
        show (if (tAll (adjT W n l) n a).ix a = 0 then _ else _) = _
        rw [hs, if_pos h0]
      have hg0 : (fI n fun x => (s.ix x : Int)).getD a 0 = 0 := by rw [gix, h0]; rfl
      unfold FS
      simp (disch := first | assumption | omega | rfl | simp only [RH]) only [↓RP, RG, FX, RQ, ↓reduceIte, Nat.reduceEqDiff, reduceCtorEq, Nat.reduceBEq, Nat.reduceAdd, Nat.reduceLeDiff, hg0, Int.toNat_natCast]
      refine callK_T rfl (visit_s (by omega) hrl hrow (fun a _ => adjT_le W n l a) adjT_in n s [] a hsi hlt h0 (fun g hg => by cases hg) (by have := hsi.mtc; omega)) ?_
      simp (disch := first | assumption | omega | rfl | simp only [RH]) only [↓RP, RG, FX, RQ, ↓reduceIte, Nat.reduceEqDiff, reduceCtorEq, Nat.reduceBEq, Nat.reduceAdd, Nat.reduceLeDiff]
      exact ⟨a + 1, hlt, Wk.of_eq (by rw [hnx]; rfl), by omega⟩
    · have hnx : tAll (adjT W n l) n (a + 1) = s := by
        show (if (tAll (adjT W n l) n a).ix a = 0 then _ else _) = _
        rw [hs, if_neg h0]
      have hg0 : ¬ (fI n fun x => (s.ix x : Int)).getD a 0 = 0 := by rw [gix]; omega
      unfold FS
      simp (disch := first | assumption | omega | rfl | simp only [RH]) only [↓RP, RG, FX, RQ, ↓reduceIte, Nat.reduceEqDiff, reduceCtorEq, Nat.reduceBEq, Nat.reduceAdd, Nat.reduceLeDiff, Int.toNat_natCast]
      exact ⟨a + 1, hlt, Wk.of_eq (by rw [hnx]; rfl), by omega⟩
  obtain rfl : n = a := by omega
  rw [hs] at hS
  have hpl : s.ps.length ≤ n := hS.len_le
  unfold FS
  obtain ⟨m, hm⟩ : ∃ m, s.ps.length = m := ⟨_, rfl⟩
  rw [hm] at hpl
  have hgs : gS (some (go 34 (rowsC s.ps))) (rowsC s.ps) = some (m, rowsC s.ps) := by rw [gS_go]; simp [rowsC, hm]
  have hmi : ((m : Nat) : Int).toNat = m := Int.toNat_natCast m
  have hcell : ofCell (.slice none 0 0) = .cap0 true := rfl
  -- which parts lie over which
  obtain ⟨P, hP⟩ : ∃ P : Nat → Nat, P = fun x => (s.pt x).toNat := ⟨_, rfl⟩
  obtain ⟨hF, hFn, hO⟩ := gAll_lies hS (m := m) hm.symm adjT_in (fun a _ => adjT_le W n l a)
  rw [← hP] at hF hFn hO
  have hPm : ∀ x, x < n → P x < m := fun x hx => by
    have h0 := hS.all x hx
    obtain ⟨l', h1, _⟩ := (hS.p1 x (s.pt x).toNat).1 (by omega)
    have := (List.getElem?_eq_some_iff.1 h1).1
    rw [hP]; simp only []; omega
  have hPt : ∀ x, x < n → s.pt x = (P x : Int) := fun x hx => by
    have h0 := hS.all x hx
    rw [hP]; simp only []; omega
  have hgi := gAt_inv (P := P) (n := n) (m := m) hPm adjT_in (fun a _ => adjT_le W n l a)
  simp (disch := first | assumption | omega | rfl | simp only [RH]) only [↓RP, RG, FX, RQ, ↓reduceIte, Nat.reduceEqDiff, reduceCtorEq, Nat.reduceBEq, Nat.reduceAdd, Nat.reduceLeDiff, sview_gw, hgs, make_int, make_one, hmi, hcell, ovV]
  generalize (⟨3, 1, ints (fI n fun x => (s.ix x : Int))⟩ : AObj) = o0
  generalize (⟨3, 1, ints (fI n fun x => (s.lo x : Int))⟩ : AObj) = o1
  generalize stO s.st s.jk = o4
  generalize stV 4 s.st s.jk = x4
  refine loopK_WW [3, 4, 6, 7, 57, 58, 59] (fun a : Nat => a ≤ n) (fun a => ⟨[(3, I n), (4, .ptr 3 0 7), (6, .ref 6 0 m m), (7, .ref 7 0 m m), (57, .list true false n (LL (abv W n l))), (58, I n), (59, I a)], o0 :: o1 :: ⟨3, 1, ints (fI n s.pt)⟩ :: ⟨68, 7, [.list true false n (LL (abv W n l)), .ref 0 0 n n, .ref 1 0 n n, .ref 2 0 n n, x4, I s.mt, gw true 5 (rowsC s.ps)]⟩ :: o4 :: go 34 (rowsC s.ps) :: ⟨3, 1, ints (fI m fun p => ((gAll (adjT W n l) P a).w p : Int))⟩ :: ⟨34, 1, gws 8 (fL m (gAll (adjT W n l) P a).f)⟩ :: (gos (fL m (gAll (adjT W n l) P a).f) ++ [])⟩) (fun a => n - a) 0 (by omega) ?_ ?_
  · simp only [↓RP, RG, FX, RQ, ↓reduceIte, Nat.reduceEqDiff, reduceCtorEq, Nat.reduceBEq, Nat.reduceAdd, Nat.reduceLeDiff]
    have e1 : (fI m fun p => ((gAll (adjT W n l) P 0).w p : Int)) = List.replicate m 0 := fI_const m 0
    have e2 : fL m (gAll (adjT W n l) P 0).f = List.replicate m [] := fL_nil m
    rw [e1, e2]
    exact Wk.weak (fun t => .refl _) (.app [o0, o1, _, _, o4, _, _] (.cons _ _ _ _ (WL_gws 8 m) (.nil _ (gos_nil m))))
  intro a ha
  by_cases hlt : a < n
  · have hra := LL_at (rs := abv W n l) (a := a) (by omega)
    rw [hrow a hlt] at hra
    have hal := adjT_le W n l a
    have hai : (nI (adjT W n l a)).length = (adjT W n l a).length := nI_len _
    simp (disch := first | assumption | omega | rfl | simp only [RH]) only [↓RP, RG, FX, RQ, ↓reduceIte, Nat.reduceEqDiff, reduceCtorEq, Nat.reduceBEq, Nat.reduceAdd, Nat.reduceLeDiff, hra, Int.toNat_natCast]
    refine loopK_I [3, 4, 6, 7, 8, 57, 58, 59, 64, 65, 66] (fun j : Nat => j ≤ (adjT W n l a).length) (fun j => ⟨[(3, I n), (4, .ptr 3 0 7), (6, .ref 6 0 m m), (7, .ref 7 0 m m), (8, I a), (57, .list true false n (LL (abv W n l))), (58, I n), (59, I a), (64, LR (nI (adjT W n l a)).isEmpty (nI (adjT W n l a))), (65, I (adjT W n l a).length), (66, I j)], o0 :: o1 :: ⟨3, 1, ints (fI n s.pt)⟩ :: ⟨68, 7, [.list true false n (LL (abv W n l)), .ref 0 0 n n, .ref 1 0 n n, .ref 2 0 n n, x4, I s.mt, gw true 5 (rowsC s.ps)]⟩ :: o4 :: go 34 (rowsC s.ps) :: ⟨3, 1, ints (fI m fun p => ((gRow (adjT W n l) P a (gAll (adjT W n l) P a) j).w p : Int))⟩ :: ⟨34, 1, gws 8 (fL m (gRow (adjT W n l) P a (gAll (adjT W n l) P a) j).f)⟩ :: (gos (fL m (gRow (adjT W n l) P a (gAll (adjT W n l) P a) j).f) ++ [])⟩) (fun j => (adjT W n l a).length - j) 0 (by omega) (by simp only [↓RP, RG, FX, RQ, ↓reduceIte, Nat.reduceEqDiff, reduceCtorEq, Nat.reduceBEq, Nat.reduceAdd, Nat.reduceLeDiff, hai]; rw [gRow_zero]; rfl) ?_
    intro j hj
    by_cases hlt2 : j < (adjT W n l a).length
    · obtain ⟨c, hc⟩ : ∃ c, (adjT W n l a)[j]? = some c := ⟨_, List.getElem?_eq_getElem hlt2⟩
      have hcn : c < n := adjT_lt (List.mem_of_getElem? hc)
      have hgc : (nI (adjT W n l a)).getD j 0 = (c : Int) := by simp [nI, List.getD_eq_getElem?_getD, hc]
      obtain ⟨_, hbd⟩ := (hgi a ha).2 hlt j hj
      have hnx := gRow_succ (P := P) (s := gAll (adjT W n l) P a) hc
      generalize gRow (adjT W n l) P a (gAll (adjT W n l) P a) j = t at *
      have hsq : a * n + j ≤ 64 * 64 + 64 := by
        have : a * n ≤ 64 * 64 := Nat.mul_le_mul (by omega) (by omega)
        omega
      have m3 := fI_len n s.pt
      have m4 := fI_len m fun p => (t.w p : Int)
      have gpa : (fI n s.pt).getD a 0 = (P a : Int) := by rw [fI_get hlt, hPt a hlt]
      have gpc : (fI n s.pt).getD c 0 = (P c : Int) := by rw [fI_get hcn, hPt c hcn]
      have hpa := hPm a hlt
      have hpc := hPm c hcn
      have gwp : (fI m fun p => (t.w p : Int)).getD (P a) 0 = (t.w (P a) : Int) := fI_get hpa
      have hwb := (hbd (P a)).2
      have hfb := (hbd (P c)).1
      have hfl := fL_len m t.f
      have gl : (gws 8 (fL m t.f)).length = m := by rw [gws_len, hfl]
      have a1 := gws_at (k := 8) (rs := fL m t.f) (a := P c) (by omega)
      rw [fL_get hpc] at a1
      by_cases hpq : P a = P c
      · have hst : gStep t (P a) (P c) = t := by unfold gStep; rw [if_neg (fun h => h.1 hpq)]
        rw [hst] at hnx
        have hpq2 : (P a : Int) = (P c : Int) := by omega
        simp (disch := first | assumption | omega | rfl | simp only [RH]) only [↓RP, RG, FX, RQ, ↓reduceIte, Nat.reduceEqDiff, reduceCtorEq, Nat.reduceBEq, Nat.reduceAdd, Nat.reduceLeDiff, hgc, gpa, gpc, Int.toNat_natCast]
        exact ⟨j + 1, hlt2, by rw [hnx]; rfl, by omega⟩
      · have hpq2 : ¬ (P a : Int) = (P c : Int) := by omega
        have oh := h8_at (o0 := o0) (o1 := o1) (o2 := ⟨3, 1, ints (fI n s.pt)⟩) (o3 := ⟨68, 7, [.list true false n (LL (abv W n l)), .ref 0 0 n n, .ref 1 0 n n, .ref 2 0 n n, x4, I s.mt, gw true 5 (rowsC s.ps)]⟩) (o4 := o4) (o5 := go 34 (rowsC s.ps)) (o6 := ⟨3, 1, ints (fI m fun p => (t.w p : Int))⟩) (o7 := ⟨34, 1, gws 8 (fL m t.f)⟩) (rs := fL m t.f) (tl := []) (a := P c) (by omega)
        rw [fL_get hpc, List.append_nil] at oh
        have hct := contains_c (nI (t.f (P c))).isEmpty (nI (t.f (P c))) (P a) (by rw [nI_len]; omega)
        by_cases hin : P a ∈ t.f (P c)
        · have hst : gStep t (P a) (P c) = t := by unfold gStep; rw [if_neg (fun h => h.2 hin)]
          rw [hst] at hnx
          rw [decide_eq_true (mem_nI.2 hin)] at hct
          simp (disch := first | assumption | omega | rfl | simp only [RH]) only [↓RP, RG, FX, RQ, ↓reduceIte, Nat.reduceEqDiff, reduceCtorEq, Nat.reduceBEq, Nat.reduceAdd, Nat.reduceLeDiff, hgc, gpa, gpc, cA_any, a1, Int.toNat_natCast]
          refine callK_F 6 hct (by simp only [List.map_cons, List.map_nil]; rw [argOf_gwI oh]; rfl) (.inl rfl) ?_
          simp (disch := first | assumption | omega | rfl | simp only [RH]) only [↓RP, RG, FX, RQ, ↓reduceIte, Nat.reduceEqDiff, reduceCtorEq, Nat.reduceBEq, Nat.reduceAdd, Nat.reduceLeDiff]
          exact ⟨j + 1, hlt2, by rw [hnx]; rfl, by omega⟩
        · have hst : gStep t (P a) (P c) = ⟨updN t.w (P a) (t.w (P a) + 1), updN t.f (P c) (t.f (P c) ++ [P a])⟩ := by unfold gStep; rw [if_pos ⟨hpq, hin⟩]
          rw [hst] at hnx
          rw [decide_eq_false (fun h => hin (mem_nI.1 h))] at hct
          have hil : (nI (t.f (P c))).length ≤ 1000000000 := by rw [nI_len]; omega
          have t1 : ∀ p0 p1 p2 p3 p4 p5 p6 p7 : AObj, (p0 :: p1 :: p2 :: p3 :: p4 :: p5 :: p6 :: p7 :: gos (fL m t.f)).set (8 + P c) (go 3 (ints (nI (t.f (P c)) ++ [(P a : Int)]))) = p0 :: p1 :: p2 :: p3 :: p4 :: p5 :: p6 :: p7 :: gos (fL m (updN t.f (P c) (t.f (P c) ++ [P a]))) := fun p0 p1 p2 p3 p4 p5 p6 p7 => by
            have := h8_set (o0 := p0) (o1 := p1) (o2 := p2) (o3 := p3) (o4 := p4) (o5 := p5) (o6 := p6) (o7 := p7) (rs := fL m t.f) (tl := []) (a := P c) (by omega) (nI (t.f (P c)) ++ [(P a : Int)])
            rw [List.append_nil, List.append_nil] at this
            rw [this, ← fL_set, nI_app2]; rfl
          have p1 : (gws 8 (fL m t.f)).set (P c) (gw true (8 + P c) (ints (nI (t.f (P c)) ++ [(P a : Int)]))) = gws 8 (fL m (updN t.f (P c) (t.f (P c) ++ [P a]))) := by
            rw [gws_set, ← fL_set, nI_app2]; rfl
          have e1 : (fI m fun p => (t.w p : Int)).set (P a) ((t.w (P a) : Int) + 1) = fI m fun p => ((updN t.w (P a) (t.w (P a) + 1) p : Nat) : Int) := by
            rw [fI_set, show (t.w (P a) : Int) + 1 = ((t.w (P a) + 1 : Nat) : Int) by omega, upd_cast]
          simp (disch := first | assumption | omega | rfl | simp only [RH]) only [↓RP, RG, FX, RQ, ↓reduceIte, Nat.reduceEqDiff, reduceCtorEq, Nat.reduceBEq, Nat.reduceAdd, Nat.reduceLeDiff, hgc, gpa, gpc, cA_any, a1, Int.toNat_natCast]
          refine callK_F 6 hct (by simp only [List.map_cons, List.map_nil]; rw [argOf_gwI oh]; rfl) (.inl rfl) ?_
          simp (disch := first | assumption | omega | rfl | simp only [RH]) only [↓RP, RG, FX, RQ, ↓reduceIte, Nat.reduceEqDiff, reduceCtorEq, Nat.reduceBEq, Nat.reduceAdd, Nat.reduceLeDiff, cA_any, a1, sX_gw, append_int, t1, p1, gwp, e1, Int.toNat_natCast]
          exact ⟨j + 1, hlt2, by rw [hnx]; rfl, by omega⟩
    · obtain rfl : (adjT W n l a).length = j := by omega
      simp (disch := first | assumption | omega | rfl | simp only [RH]) only [↓RP, RG, FX, RQ, ↓reduceIte, Nat.reduceEqDiff, reduceCtorEq, Nat.reduceBEq, Nat.reduceAdd, Nat.reduceLeDiff]
      exact ⟨a + 1, hlt, Wk.of_eq rfl, by omega⟩
  obtain rfl : n = a := by omega
  have hrc : (rowsC s.ps).length = m := by simp [rowsC, hm]
  obtain ⟨F, hFe⟩ : ∃ F, (gAll (adjT W n l) P n).f = F := ⟨_, rfl⟩
  obtain ⟨w0, hwe⟩ : ∃ w0, (gAll (adjT W n l) P n).w = w0 := ⟨_, rfl⟩
  rw [hFe, hwe] at hO
  rw [hFe] at hF hFn
  simp only [hFe, hwe]
  have hgl : (gos (fL m F)).length = m := by rw [gos_len, fL_len]
  simp (disch := first | assumption | omega | rfl | simp only [RH]) only [↓RP, RG, FX, RQ, ↓reduceIte, Nat.reduceEqDiff, reduceCtorEq, Nat.reduceBEq, Nat.reduceAdd, Nat.reduceLeDiff, make_bool, hrc, hgl, hmi]
  have hhd : ∀ a b, a < n → b < n → (hdB W n l a b = true ↔ Wy (adjT W n l) a b) := fun a b ha hb => hdB_iff ha hb
  have hoi := oAt_inv hS hhd hF hFn hO
  have hfin := oAt_all hS hhd hF hFn hO
  rw [hm] at hoi hfin
  have gl : (gws 8 (fL m F)).length = m := by rw [gws_len, fL_len]
  have fl := fL_len m F
  have t8 : ∀ (p0 p1 p2 p3 p4 p5 p6 p7 : AObj) (tl : List AObj), (p0 :: p1 :: p2 :: p3 :: p4 :: p5 :: p6 :: p7 :: (gos (fL m F) ++ tl))[m + 8]? = tl[0]? := fun _ _ _ _ _ _ _ _ _ => h8_t0 fl
  have t9 : ∀ (p0 p1 p2 p3 p4 p5 p6 p7 : AObj) (tl : List AObj), (p0 :: p1 :: p2 :: p3 :: p4 :: p5 :: p6 :: p7 :: (gos (fL m F) ++ tl))[m + 9]? = tl[1]? := fun _ _ _ _ _ _ _ _ _ => h8_t1 fl
  have s8 : ∀ (p0 p1 p2 p3 p4 p5 p6 p7 o : AObj) (tl : List AObj), (p0 :: p1 :: p2 :: p3 :: p4 :: p5 :: p6 :: p7 :: (gos (fL m F) ++ tl)).set (m + 8) o = p0 :: p1 :: p2 :: p3 :: p4 :: p5 :: p6 :: p7 :: (gos (fL m F) ++ tl.set 0 o) := fun _ _ _ _ _ _ _ _ _ _ => h8_s0 fl _
  have s9 : ∀ (p0 p1 p2 p3 p4 p5 p6 p7 o : AObj) (tl : List AObj), (p0 :: p1 :: p2 :: p3 :: p4 :: p5 :: p6 :: p7 :: (gos (fL m F) ++ tl)).set (m + 9) o = p0 :: p1 :: p2 :: p3 :: p4 :: p5 :: p6 :: p7 :: (gos (fL m F) ++ tl.set 1 o) := fun _ _ _ _ _ _ _ _ _ _ => h8_s1 fl _
  have hpos : ∀ i, i < m → 0 < (s.ps.getD i []).length := fun i hi => by
    rw [List.getD_eq_getElem?_getD, List.getElem?_eq_getElem (by omega), Option.getD_some]
    exact List.length_pos_iff.2 (hS.p2 _ (List.getElem_mem _)).1
  refine loopK_WW [4, 6, 7, 14, 15, 116, 117] (fun k : Nat => k ≤ m) (fun k => ⟨[(4, .ptr 3 0 7), (6, .ref 6 0 m m), (7, .ref 7 0 m m), (14, gw true (m + 9) (rowsC (oAt s.ps F w0 k).out)), (15, .ref (m + 8) 0 m m), (116, I m), (117, I k)], o0 :: o1 :: ⟨3, 1, ints (fI n s.pt)⟩ :: ⟨68, 7, [.list true false n (LL (abv W n l)), .ref 0 0 n n, .ref 1 0 n n, .ref 2 0 n n, x4, I s.mt, gw true 5 (rowsC s.ps)]⟩ :: o4 :: go 34 (rowsC s.ps) :: ⟨3, 1, ints (fI m fun p => (((oAt s.ps F w0 k).w) p : Int))⟩ :: ⟨34, 1, gws 8 (fL m F)⟩ :: (gos (fL m F) ++ [⟨4, 1, bools (fB m ((oAt s.ps F w0 k).D))⟩, go 34 (rowsC ((oAt s.ps F w0 k).out))])⟩) (fun k => m - k) 0 (by omega) ?_ ?_
  · simp only [↓RP, RG, FX, RQ, ↓reduceIte, Nat.reduceEqDiff, reduceCtorEq, Nat.reduceBEq, Nat.reduceAdd, Nat.reduceLeDiff]
    rw [← fB_none]
    refine Wk.weak (WE.cons _ (.refl _) (WE.cons _ (.refl _) (WE.cons _ (.refl _) (WE.cons _ (.nil _) (WE.cons _ (.refl _) (WE.cons _ (.refl _) (WE.cons _ (.refl _) WE.nil))))))) ?_
    have h9 := WO.app (o0 :: o1 :: ⟨3, 1, ints (fI n s.pt)⟩ :: ⟨68, 7, [.list true false n (LL (abv W n l)), .ref 0 0 n n, .ref 1 0 n n, .ref 2 0 n n, x4, I s.mt, gw true 5 (rowsC s.ps)]⟩ :: o4 :: go 34 (rowsC s.ps) :: ⟨3, 1, ints (fI m fun p => ((w0) p : Int))⟩ :: ⟨34, 1, gws 8 (fL m F)⟩ :: (gos (fL m F) ++ [⟨4, 1, bools (fB m (fun _ => false))⟩])) (r := []) (r' := [go 34 (rowsC [])]) (.nil _ (by simp [go, rowsC]))
    simp only [List.cons_append, List.append_assoc, List.nil_append, List.append_nil] at h9
    exact h9
  intro k hk
  obtain ⟨hok, hol, _⟩ := hoi k hk
  obtain ⟨O, hO'⟩ : ∃ O, oAt s.ps F w0 k = O := ⟨_, rfl⟩
  rw [hO'] at hok hol
  simp only [hO']
  have m5 := fI_len m fun p => (O.w p : Int)
  have m6 := fB_len m O.D
  by_cases hlt : k < m
  · obtain ⟨p, hp⟩ := hok.some hS hF (by omega)
    rw [hm] at hp
    obtain ⟨hpm, _, _⟩ := bstP_some hp
    have hnx : oAt s.ps F w0 (k + 1) = ⟨wDec O.w (F p), updN O.D p true, O.out ++ [s.ps.getD p []]⟩ := by
      show oStep s.ps F (oAt s.ps F w0 k) = _
      rw [hO']
      unfold oStep
      rw [hm, hp]
    simp (disch := first | assumption | omega | rfl | simp only [RH]) only [↓RP, RG, FX, RQ, ↓reduceIte, Nat.reduceEqDiff, reduceCtorEq, Nat.reduceBEq, Nat.reduceAdd, Nat.reduceLeDiff, sview_gw, hgs]
    refine loopK_I [4, 6, 7, 14, 15, 16, 116, 117, 121, 122] (fun i : Nat => i ≤ m) (fun i => ⟨[(4, .ptr 3 0 7), (6, .ref 6 0 m m), (7, .ref 7 0 m m), (14, gw true (m + 9) (rowsC O.out)), (15, .ref (m + 8) 0 m m), (16, I (nxV (bstP s.ps (cdW O.w O.D) i))), (116, I m), (117, I k), (121, I m), (122, I i)], o0 :: o1 :: ⟨3, 1, ints (fI n s.pt)⟩ :: ⟨68, 7, [.list true false n (LL (abv W n l)), .ref 0 0 n n, .ref 1 0 n n, .ref 2 0 n n, x4, I s.mt, gw true 5 (rowsC s.ps)]⟩ :: o4 :: go 34 (rowsC s.ps) :: ⟨3, 1, ints (fI m fun p => ((O.w) p : Int))⟩ :: ⟨34, 1, gws 8 (fL m F)⟩ :: (gos (fL m F) ++ [⟨4, 1, bools (fB m (O.D))⟩, go 34 (rowsC (O.out))])⟩) (fun i => m - i) 0 (by omega) (by simp only [↓RP, RG, FX, RQ, ↓reduceIte, Nat.reduceEqDiff, reduceCtorEq, Nat.reduceBEq, Nat.reduceAdd, Nat.reduceLeDiff, hrc]; rfl) ?_
    intro i hi
    by_cases hlt2 : i < m
    · have gdi : (fB m O.D).getD i false = O.D i := fB_get hlt2
      have gwi : (fI m fun p => (O.w p : Int)).getD i 0 = (O.w i : Int) := fI_get hlt2
      have hbs : bstP s.ps (cdW O.w O.D) (i + 1) = if (cdW O.w O.D i && btr s.ps (bstP s.ps (cdW O.w O.D) i) i) = true then some i else bstP s.ps (cdW O.w O.D) i := rfl
      have hcdd : cdW O.w O.D i = (!O.D i && decide (O.w i = 0)) := rfl
      obtain ⟨B, hB⟩ : ∃ B, bstP s.ps (cdW O.w O.D) i = B := ⟨_, rfl⟩
      rw [hB] at hbs
      simp only [hB]
      by_cases hd : O.D i = true
      · have hnx2 : bstP s.ps (cdW O.w O.D) (i + 1) = B := by rw [hbs, hcdd, hd]; rfl
        have gd : (fB m O.D).getD i false = true := by rw [gdi, hd]
        simp (disch := first | assumption | omega | rfl | simp only [RH]) only [↓RP, RG, FX, RQ, ↓reduceIte, Nat.reduceEqDiff, reduceCtorEq, Nat.reduceBEq, Nat.reduceAdd, Nat.reduceLeDiff, t8, gd, Int.toNat_natCast]
        exact ⟨i + 1, hlt2, by rw [hnx2]; rfl, by omega⟩
      · have hd' : O.D i = false := by simpa using hd
        have gd : (fB m O.D).getD i false = false := by rw [gdi, hd']
        by_cases hw : O.w i = 0
        · have hw2 : (fI m fun p => (O.w p : Int)).getD i 0 = 0 := by rw [gwi, hw]; rfl
          have hcd : cdW O.w O.D i = true := by rw [hcdd, hd', hw]; rfl
          have hri := rowsC_at (ps := s.ps) (i := i) (by omega)
          cases B with
          | none =>
            have hnx2 : bstP s.ps (cdW O.w O.D) (i + 1) = some i := by rw [hbs, hcd]; rfl
            simp only [nxV]
            simp (disch := first | assumption | omega | rfl | simp only [RH]) only [↓RP, RG, FX, RQ, ↓reduceIte, Nat.reduceEqDiff, reduceCtorEq, Nat.reduceBEq, Nat.reduceAdd, Nat.reduceLeDiff, t8, gd, hw2, Int.toNat_natCast]
            exact ⟨i + 1, hlt2, by rw [hnx2]; rfl, by omega⟩
          | some p' =>
            obtain ⟨hpi, _, _⟩ := bstP_some hB
            have hrp := rowsC_at (ps := s.ps) (i := p') (by omega)
            have hni := hpos i (by omega)
            have hnp := hpos p' (by omega)
            have hgi2 := hdL_nI hni
            have hgp2 := hdL_nI hnp
            have hz0 : Int.toNat 0 = 0 := rfl
            have hli : (nI (s.ps.getD i [])).length = (s.ps.getD i []).length := nI_len _
            have hlp : (nI (s.ps.getD p' [])).length = (s.ps.getD p' []).length := nI_len _
            by_cases hc : hdL (s.ps.getD i []) < hdL (s.ps.getD p' [])
            · have hnx2 : bstP s.ps (cdW O.w O.D) (i + 1) = some i := by
                rw [hbs, hcd, if_pos]
                simp only [btr, Bool.true_and, decide_eq_true_eq]; exact hc
              simp only [nxV]
              generalize s.ps.getD i [] = qi at *
              generalize s.ps.getD p' [] = qp at *
              simp (disch := first | assumption | omega | rfl | simp only [RH]) only [↓RP, RG, FX, RQ, ↓reduceIte, Nat.reduceEqDiff, reduceCtorEq, Nat.reduceBEq, Nat.reduceAdd, Nat.reduceLeDiff, t8, gd, hw2, hri, hrp, hgi2, hgp2, hz0, sview_gw, hgs, Int.toNat_natCast]
              exact ⟨i + 1, hlt2, by rw [hnx2]; rfl, by omega⟩
            · have hnx2 : bstP s.ps (cdW O.w O.D) (i + 1) = some p' := by
                rw [hbs, hcd, if_neg]
                simp only [btr, Bool.true_and, decide_eq_true_eq]; exact hc
              simp only [nxV]
              generalize s.ps.getD i [] = qi at *
              generalize s.ps.getD p' [] = qp at *
              simp (disch := first | assumption | omega | rfl | simp only [RH]) only [↓RP, RG, FX, RQ, ↓reduceIte, Nat.reduceEqDiff, reduceCtorEq, Nat.reduceBEq, Nat.reduceAdd, Nat.reduceLeDiff, t8, gd, hw2, hri, hrp, hgi2, hgp2, hz0, sview_gw, hgs, Int.toNat_natCast]
              exact ⟨i + 1, hlt2, by rw [hnx2]; rfl, by omega⟩
        · have hw2 : ¬ (fI m fun p => (O.w p : Int)).getD i 0 = 0 := by rw [gwi]; omega
          have hnx2 : bstP s.ps (cdW O.w O.D) (i + 1) = B := by rw [hbs, hcdd, hd', decide_eq_false hw]; rfl
          simp (disch := first | assumption | omega | rfl | simp only [RH]) only [↓RP, RG, FX, RQ, ↓reduceIte, Nat.reduceEqDiff, reduceCtorEq, Nat.reduceBEq, Nat.reduceAdd, Nat.reduceLeDiff, t8, gd, hw2, Int.toNat_natCast]
          exact ⟨i + 1, hlt2, by rw [hnx2]; rfl, by omega⟩
    · obtain rfl : m = i := by omega
      rw [hp]
      simp only [nxV]
      have gp : (fB m O.D).set p true = fB m (updN O.D p true) := fB_set true
      have a1 := gws_at (k := 8) (rs := fL m F) (a := p) (by omega)
      rw [fL_get hpm] at a1
      have oh : ∀ (p0 p1 p2 p3 p4 p5 p6 p7 : AObj) (tl : List AObj), (p0 :: p1 :: p2 :: p3 :: p4 :: p5 :: p6 :: p7 :: (gos (fL m F) ++ tl))[8 + p]? = some (go 3 (ints (nI (F p)))) := fun p0 p1 p2 p3 p4 p5 p6 p7 tl => by
        have := h8_at (o0 := p0) (o1 := p1) (o2 := p2) (o3 := p3) (o4 := p4) (o5 := p5) (o6 := p6) (o7 := p7) (rs := fL m F) (tl := tl) (a := p) (by omega)
        rw [fL_get hpm] at this
        exact this
      have hfl : (F p).length ≤ 64 * 64 := by
        have h1 := ((hgi n (Nat.le_refl _)).1.2 p).1
        rw [hFe] at h1
        exact Nat.le_trans h1 (Nat.mul_le_mul hn64 hn64)
      have hfl2 := nI_len (F p)
      have hpm2 : p ≤ 64 := by omega
      simp (disch := first | assumption | omega | rfl | simp only [RH]) only [↓RP, RG, FX, RQ, ↓reduceIte, Nat.reduceEqDiff, reduceCtorEq, Nat.reduceBEq, Nat.reduceAdd, Nat.reduceLeDiff, t8, s8, gp, cA_any, a1, oh, Int.toNat_natCast]
      obtain ⟨D1, hD1⟩ : ∃ D1, updN O.D p true = D1 := ⟨_, rfl⟩
      simp only [hD1] at hnx ⊢
      have hOw : ∀ r, O.w r ≤ m := fun r => by
        rw [hok.o1, hm]
        exact Nat.le_trans List.countP_le_length (by simp)
      have hwr : ∀ i r, (F p)[i]? = some r → r < m ∧ 1 ≤ wDec O.w ((F p).take i) r ∧ wDec O.w ((F p).take i) r ≤ m := fun i r hr => by
        have hmem := List.mem_of_getElem? hr
        have hl := (hF r p).1 hmem
        have h2 := (hS.lies_lt hl).2
        have hnd := hFn p
        obtain ⟨hil, he⟩ := List.getElem?_eq_some_iff.1 hr
        have hnt : ¬ r ∈ (F p).take i := fun h => by
          obtain ⟨j, hj, hje⟩ := List.mem_iff_getElem.1 h
          rw [List.getElem_take] at hje
          rw [List.length_take] at hj
          exact List.pairwise_iff_getElem.1 hnd j i _ _ (by omega) (hje.trans he.symm)
        rw [wDec_get ((List.take_sublist _ _).nodup hnd), if_neg hnt]
        refine ⟨by omega, ?_, hOw r⟩
        rw [hok.o1]
        refine List.countP_pos_iff.2 ⟨p, List.mem_range.2 (by omega), ?_⟩
        have hcp := (bstP_some hp).2.1
        unfold cdW at hcp
        rw [Bool.and_eq_true] at hcp ⊢
        exact ⟨hcp.1, decide_eq_true hmem⟩
      refine loopK_I [4, 6, 7, 14, 15, 16, 116, 117, 166, 167, 168] (fun i : Nat => i ≤ (F p).length) (fun i => ⟨[(4, .ptr 3 0 7), (6, .ref 6 0 m m), (7, .ref 7 0 m m), (14, gw true (m + 9) (rowsC O.out)), (15, .ref (m + 8) 0 m m), (16, I p), (116, I m), (117, I k), (166, gw true (8 + p) (ints (nI (F p)))), (167, I (F p).length), (168, I i)], o0 :: o1 :: ⟨3, 1, ints (fI n s.pt)⟩ :: ⟨68, 7, [.list true false n (LL (abv W n l)), .ref 0 0 n n, .ref 1 0 n n, .ref 2 0 n n, x4, I s.mt, gw true 5 (rowsC s.ps)]⟩ :: o4 :: go 34 (rowsC s.ps) :: ⟨3, 1, ints (fI m fun x => ((wDec O.w ((F p).take i)) x : Int))⟩ :: ⟨34, 1, gws 8 (fL m F)⟩ :: (gos (fL m F) ++ [⟨4, 1, bools (fB m D1)⟩, go 34 (rowsC (O.out))])⟩) (fun i => (F p).length - i) 0 (by omega) (by simp only [↓RP, RG, FX, RQ, ↓reduceIte, Nat.reduceEqDiff, reduceCtorEq, Nat.reduceBEq, Nat.reduceAdd, Nat.reduceLeDiff, hfl2]; rfl) ?_
      intro i hi
      by_cases hlt3 : i < (F p).length
      · obtain ⟨r, hr⟩ : ∃ r, (F p)[i]? = some r := ⟨_, List.getElem?_eq_getElem hlt3⟩
        obtain ⟨hrm, hw1, hw2⟩ := hwr i r hr
        have hws : wDec O.w ((F p).take (i + 1)) = updN (wDec O.w ((F p).take i)) r (wDec O.w ((F p).take i) r - 1) := by
          unfold wDec
          rw [List.take_add_one, hr, Option.toList_some, List.foldl_append]; rfl
        generalize wDec O.w ((F p).take i) = w at *
        have hgr : (nI (F p)).getD i 0 = (r : Int) := by simp [nI, List.getD_eq_getElem?_getD, hr]
        have gw0 : (fI m fun x => (w x : Int)).getD r 0 = (w r : Int) := fI_get hrm
        have m7 := fI_len m fun x => (w x : Int)
        have e1 : (fI m fun x => (w x : Int)).set r ((w r : Int) - 1) = fI m fun x => ((updN w r (w r - 1) x : Nat) : Int) := by
          rw [fI_set, show (w r : Int) - 1 = ((w r - 1 : Nat) : Int) by omega, upd_cast]
        have hix : (i : Int) < ((ints (nI (F p))).length : Int) := by rw [ints_length, hfl2]; omega
        have hcA : cA (some (go 3 (ints (nI (F p))))) (nI (F p)).length = some (ints (nI (F p))) := cA_go (ints_length _)
        simp (disch := first | assumption | omega | rfl | simp only [RH]) only [↓RP, RG, FX, RQ, ↓reduceIte, Nat.reduceEqDiff, reduceCtorEq, Nat.reduceBEq, Nat.reduceAdd, Nat.reduceLeDiff, idx_gw, cA_any, hcA, oh, hgr, gw0, e1, Int.toNat_natCast]
        exact ⟨i + 1, hlt3, by rw [hws]; rfl, by omega⟩
      · obtain rfl : (F p).length = i := by omega
        rw [List.take_length]
        have hrp := rowsC_at (ps := s.ps) (i := p) (by omega)
        have hro : rowsC O.out ++ [AVal.list true false (nI (s.ps.getD p [])).length (ints (nI (s.ps.getD p [])))] = rowsC (O.out ++ [s.ps.getD p []]) := by simp [rowsC]
        have hap : ∀ p0 p1 p2 p3 p4 p5 p6 p7 tt : AObj, aAppend Tryd.prog 31 (p0 :: p1 :: p2 :: p3 :: p4 :: p5 :: p6 :: p7 :: (gos (fL m F) ++ [tt, go 34 (rowsC O.out)])) (gw true (m + 9) (rowsC O.out)) (.lit 1 [.list true false (nI (s.ps.getD p [])).length (ints (nI (s.ps.getD p [])))]) = some (gw true (m + 9) (rowsC (O.out ++ [s.ps.getD p []])), p0 :: p1 :: p2 :: p3 :: p4 :: p5 :: p6 :: p7 :: (gos (fL m F) ++ [tt, go 34 (rowsC (O.out ++ [s.ps.getD p []]))])) := fun p0 p1 p2 p3 p4 p5 p6 p7 tt => by
          rw [append_list (e := 34) (xs := rowsC O.out) (by rw [t9]; rfl) (by simp [rowsC, hol]; omega), s9, hro]; rfl
        simp (disch := first | assumption | omega | rfl | simp only [RH]) only [↓RP, RG, FX, RQ, ↓reduceIte, Nat.reduceEqDiff, reduceCtorEq, Nat.reduceBEq, Nat.reduceAdd, Nat.reduceLeDiff, hrp, t9, s9, hap, sview_gw, hgs, Int.toNat_natCast]
        exact ⟨k + 1, hlt, Wk.of_eq (by rw [hnx]; rfl), by omega⟩
  · obtain rfl : m = k := by omega
    rw [hO'] at hfin
    simp (disch := first | assumption | omega | rfl | simp only [RH]) only [↓RP, RG, FX, RQ, ↓reduceIte, Nat.reduceEqDiff, reduceCtorEq, Nat.reduceBEq, Nat.reduceAdd, Nat.reduceLeDiff]
    rw [resVal_1 rfl]; simp (disch := first | assumption | omega | rfl | simp only [RH]) only [↓RP, RG, FX, RQ, ↓reduceIte, Nat.reduceEqDiff, reduceCtorEq, Nat.reduceBEq, Nat.reduceAdd, Nat.reduceLeDiff, RS]
    have hgx : (gos (fL m F) ++ [⟨4, 1, bools (fB m O.D)⟩, go 34 (rowsC O.out)])[m + 1]? = some (go 34 (rowsC O.out)) := by
      rw [List.getElem?_append_right (by rw [hgl]; omega), hgl, Nat.add_sub_cancel_left]; rfl
    rw [hgx, gaR_go, rowsC_res, hfin]
    simp only [PV, PL, rowsC, List.length_map, Bool.true_and, List.isEmpty_map]
end Go.Proofs.YtmfddbhemknkfaaDoor

/- Chapter 11: the reference's table of what holds what. -/
set_option linter.unusedSimpArgs false
set_option linter.unusedVariables false
set_option maxRecDepth 100000
namespace Go.Proofs.YtmfddbhemknkfaaDoor
open Go Go.Proofs Go.AW

section
variable {p0 p1 : AObj} {g : Nat → List Bool} {i : Nat} {tl : List AObj}
end
end Go.Proofs.YtmfddbhemknkfaaDoor

/- Chapter 11: the reference's list of the parts. -/
set_option linter.unusedSimpArgs false
set_option linter.unusedVariables false
set_option maxRecDepth 100000
namespace Go.Proofs.YtmfddbhemknkfaaDoor
open Go Go.Proofs Go.AW

end Go.Proofs.YtmfddbhemknkfaaDoor

/- Chapter 11: the reference's list, part by part. Plain. -/
set_option linter.unusedSimpArgs false
set_option linter.unusedVariables false
set_option maxRecDepth 100000
namespace Go.Proofs.YtmfddbhemknkfaaDoor
open Go Go.Proofs Go.AW

def lSt (hd : Nat → Nat → Bool) (n : Nat) : Nat → List (List Nat) × (Nat → Bool)
  | 0 => ([], fun _ => false)
  | k + 1 => match (List.range n).find? (cnd hd n (lSt hd n k).2) with
    | none => lSt hd n k
    | some a => ((lSt hd n k).1 ++ [mtl hd n a], fun b => (lSt hd n k).2 b || (hd a b && hd b a))
def lCt (hd : Nat → Nat → Bool) (n k : Nat) : Nat := (List.range n).countP (lSt hd n k).2
theorem countP_or {α : Type} {p q : α → Bool} : ∀ (l : List α), (∀ x ∈ l, q x = true → p x = false) → l.countP (fun x => p x || q x) = l.countP p + (l.filter q).length
  | [], _ => rfl
  | x :: l, h => by
    have ih := countP_or l fun y hy => h y (List.mem_cons_of_mem _ hy)
    have hx := h x List.mem_cons_self
    cases hp : p x with
    | true =>
      cases hq : q x with
      | true => rw [hx hq] at hp; cases hp
      | false =>
        rw [List.countP_cons_of_pos (by simp [hp]), List.countP_cons_of_pos hp, List.filter_cons_of_neg (by simp [hq]), ih]; omega
    | false =>
      cases hq : q x with
      | true =>
        rw [List.countP_cons_of_pos (by simp [hq]), List.countP_cons_of_neg (by simp [hp]), List.filter_cons_of_pos hq, List.length_cons, ih]; omega
      | false =>
        rw [List.countP_cons_of_neg (by simp [hp, hq]), List.countP_cons_of_neg (by simp [hp]), List.filter_cons_of_neg (by simp [hq]), ih]
section
variable {ov : Nat → List Nat} {n : Nat} {ps : List (List Nat)} {pt : Nat → Int} {hd : Nat → Nat → Bool} {F : Nat → List Nat} {w : Nat → Nat}
theorem lSt_step (S : Scc ov n ps pt) (hhd : ∀ a b, a < n → b < n → (hd a b = true ↔ Wy ov a b)) (hF : ∀ p q, p ∈ F q ↔ lies ov pt p q) (hFn : ∀ q, (F q).Nodup) (O : OInv ov n ps pt F 0 w fun _ => false) {k : Nat} (hk : k < ps.length)
    (i1 : (lSt hd n k).1 = (oAt ps F w k).out) (i2 : ∀ b (q : Nat), pt b = (q : Int) → (lSt hd n k).2 b = (oAt ps F w k).D q) :
    (∃ a, a < n ∧ (List.range n).find? (cnd hd n (lSt hd n k).2) = some a ∧ (∀ b, b < n → hd a b = true → hd b a = true → (lSt hd n k).2 b = false) ∧ hd a a = true) ∧
    (lSt hd n (k + 1)).1 = (oAt ps F w (k + 1)).out ∧ ∀ b (q : Nat), pt b = (q : Int) → (lSt hd n (k + 1)).2 b = (oAt ps F w (k + 1)).D q := by
  obtain ⟨o1, _, _⟩ := oAt_inv S hhd hF hFn O k (by omega)
  obtain ⟨p, hp⟩ := o1.some S hF hk
  obtain ⟨a, ha, hpa, hfind⟩ := S.next_is hhd i2 o1.o2 (fun p _ => o1.cd_iff S hF) hp
  have hs : oAt ps F w (k + 1) = ⟨wDec (oAt ps F w k).w (F p), updN (oAt ps F w k).D p true, (oAt ps F w k).out ++ [ps.getD p []]⟩ := by
    show oStep ps F (oAt ps F w k) = _
    unfold oStep; rw [hp]
  have hl : lSt hd n (k + 1) = ((lSt hd n k).1 ++ [mtl hd n a], fun b => (lSt hd n k).2 b || (hd a b && hd b a)) := by
    rw [lSt, hfind]
  have hm : ∀ b, b < n → ∀ q : Nat, pt b = (q : Int) → ((hd a b && hd b a) = true ↔ q = p) := fun b hbn q hq => by
    rw [Bool.and_eq_true, hhd a b ha hbn, hhd b a hbn ha, ← S.p3 a b (by omega), hq, hpa]
    omega
  refine ⟨⟨a, ha, hfind, fun b hb h1 h2 => ?_, (hhd a a ha ha).2 (.refl a)⟩, ?_, fun b q hq => ?_⟩
  · have h0 := S.all b hb
    have hq : pt b = ((pt b).toNat : Int) := by omega
    have := (hm b hb _ hq).1 (by rw [h1, h2]; rfl)
    rw [i2 b _ hq, this]
    have := (bstP_some hp).2.1
    unfold cdW at this
    rw [Bool.and_eq_true] at this
    simpa using this.1
  · rw [hl, hs]
    show _ ++ _ = _ ++ _
    rw [i1, S.part_is hhd ha hpa]
  · have hbn : b < n := S.lt b (by omega)
    rw [hl, hs]
    show ((lSt hd n k).2 b || (hd a b && hd b a)) = updN _ p true q
    have hmm := hm b hbn q hq
    by_cases hqp : q = p
    · rw [hqp, updN_same, hmm.2 hqp]; simp
    · rw [updN_other _ _ hqp, i2 b q hq]
      have : (hd a b && hd b a) = false := by
        cases h : (hd a b && hd b a) with
        | false => rfl
        | true => exact absurd (hmm.1 h) hqp
      rw [this]; simp
theorem lSt_inv (S : Scc ov n ps pt) (hhd : ∀ a b, a < n → b < n → (hd a b = true ↔ Wy ov a b)) (hF : ∀ p q, p ∈ F q ↔ lies ov pt p q) (hFn : ∀ q, (F q).Nodup) (O : OInv ov n ps pt F 0 w fun _ => false) :
    ∀ k, k ≤ ps.length → (lSt hd n k).1 = (oAt ps F w k).out ∧ ∀ b (q : Nat), pt b = (q : Int) → (lSt hd n k).2 b = (oAt ps F w k).D q
  | 0, _ => ⟨rfl, fun _ _ _ => rfl⟩
  | k + 1, hk => by
    obtain ⟨i1, i2⟩ := lSt_inv S hhd hF hFn O k (by omega)
    exact (lSt_step S hhd hF hFn O (by omega) i1 i2).2
theorem lSt_run (S : Scc ov n ps pt) (hhd : ∀ a b, a < n → b < n → (hd a b = true ↔ Wy ov a b)) (hF : ∀ p q, p ∈ F q ↔ lies ov pt p q) (hFn : ∀ q, (F q).Nodup) (O : OInv ov n ps pt F 0 w fun _ => false) :
    (∀ k, k < ps.length → lCt hd n k < n ∧ ∃ a, a < n ∧ (List.range n).find? (cnd hd n (lSt hd n k).2) = some a ∧ hd a a = true ∧ lCt hd n (k + 1) = lCt hd n k + (mtl hd n a).length ∧ (∀ b, b < n → hd a b = true → hd b a = true → (lSt hd n k).2 b = false)) ∧
    lCt hd n ps.length = n ∧ (lSt hd n ps.length).1 = lsP hd n n fun _ => false := by
  refine ⟨fun k hk => ?_, ?_, ?_⟩
  · obtain ⟨i1, i2⟩ := lSt_inv S hhd hF hFn O k (by omega)
    obtain ⟨⟨a, ha, hf, hz, haa⟩, _⟩ := lSt_step S hhd hF hFn O hk i1 i2
    have hl : lSt hd n (k + 1) = ((lSt hd n k).1 ++ [mtl hd n a], fun b => (lSt hd n k).2 b || (hd a b && hd b a)) := by
      rw [lSt, hf]
    have hct : lCt hd n (k + 1) = lCt hd n k + (mtl hd n a).length := by
      unfold lCt
      rw [hl]
      refine countP_or _ fun x hx hq => ?_
      rw [Bool.and_eq_true] at hq
      exact hz x (List.mem_range.1 hx) hq.1 hq.2
    have hle : lCt hd n (k + 1) ≤ n := by
      unfold lCt
      exact Nat.le_trans List.countP_le_length (by simp)
    have hpos : 0 < (mtl hd n a).length := List.length_pos_iff.2 fun h => by
      have : a ∈ mtl hd n a := by rw [mtl, List.mem_filter, haa]; exact ⟨List.mem_range.2 ha, rfl⟩
      rw [h] at this; cases this
    exact ⟨by omega, a, ha, hf, haa, hct, hz⟩
  · obtain ⟨_, i2⟩ := lSt_inv S hhd hF hFn O ps.length (Nat.le_refl _)
    obtain ⟨o1, _, _⟩ := oAt_inv S hhd hF hFn O ps.length (Nat.le_refl _)
    have hall : ∀ p, p < ps.length → (oAt ps F w ps.length).D p = true := by
      have h2 : (List.range ps.length).countP (oAt ps F w ps.length).D = (List.range ps.length).length := by rw [o1.o3]; simp
      exact fun p hp => (List.countP_eq_length.1 h2) p (List.mem_range.2 hp)
    unfold lCt
    have : (List.range n).countP (lSt hd n ps.length).2 = (List.range n).length := List.countP_eq_length.2 fun b hb => by
      have hbn := List.mem_range.1 hb
      have h0 := S.all b hbn
      obtain ⟨l, h1, _⟩ := (S.p1 b (pt b).toNat).1 (by omega)
      have hlt := (List.getElem?_eq_some_iff.1 h1).1
      rw [i2 b (pt b).toNat (by omega)]
      exact hall _ hlt
    rw [this]; simp
  · rw [(lSt_inv S hhd hF hFn O ps.length (Nat.le_refl _)).1]
    exact oAt_all S hhd hF hFn O
end
end Go.Proofs.YtmfddbhemknkfaaDoor

/- Chapter 11: the reference's list of the parts. -/
set_option linter.unusedSimpArgs false
set_option linter.unusedVariables false
set_option maxRecDepth 100000
namespace Go.Proofs.YtmfddbhemknkfaaDoor
open Go Go.Proofs Go.AW

theorem lists_run (W n : Nat) (l : List Bool) : ∃ m, m ≤ n ∧ (∀ k, k < m → lCt (hdB W n l) n k < n ∧ ∃ a, a < n ∧ (List.range n).find? (cnd (hdB W n l) n (lSt (hdB W n l) n k).2) = some a ∧ hdB W n l a a = true ∧ lCt (hdB W n l) n (k + 1) = lCt (hdB W n l) n k + (mtl (hdB W n l) n a).length ∧ (∀ b, b < n → hdB W n l a b = true → hdB W n l b a = true → (lSt (hdB W n l) n k).2 b = false)) ∧
    lCt (hdB W n l) n m = n ∧ (lSt (hdB W n l) n m).1 = PL W n l := by
  have hS := tAll_scc (ov := adjT W n l) (n := n) adjT_in
  obtain ⟨hF, hFn, hO⟩ := gAll_lies hS (m := (tAll (adjT W n l) n n).ps.length) rfl adjT_in (fun a _ => adjT_le W n l a)
  have h := lSt_run hS (fun a b ha hb => hdB_iff ha hb) hF hFn hO
  exact ⟨_, hS.len_le, h.1, h.2.1, h.2.2⟩
section
variable {p0 p1 p2 : AObj} {rs : List (List Int)} {i : Nat} {tl : List AObj}
end
theorem lSt_len {hd : Nat → Nat → Bool} {n m : Nat} (h : ∀ k, k < m → ∃ a, (List.range n).find? (cnd hd n (lSt hd n k).2) = some a) : ∀ k, k ≤ m → (lSt hd n k).1.length = k
  | 0, _ => rfl
  | k + 1, hk => by
    obtain ⟨a, ha⟩ := h k (by omega)
    rw [lSt, ha]
    show ((lSt hd n k).1 ++ [mtl hd n a]).length = _
    rw [List.length_append, lSt_len h k (by omega)]; rfl
end Go.Proofs.YtmfddbhemknkfaaDoor

/- Chapter 11: the parts hold each thread once. -/
set_option linter.unusedSimpArgs false
set_option linter.unusedVariables false
set_option maxRecDepth 100000
namespace Go.Proofs.YtmfddbhemknkfaaDoor
open Go Go.Proofs Go.AW

theorem lSt_flat {hd : Nat → Nat → Bool} {n m : Nat} (h : ∀ k, k < m → ∃ a, a < n ∧ (List.range n).find? (cnd hd n (lSt hd n k).2) = some a ∧ (∀ b, b < n → hd a b = true → hd b a = true → (lSt hd n k).2 b = false)) : ∀ k, k ≤ m → (lSt hd n k).1.flatten.Nodup ∧ ∀ x, x ∈ (lSt hd n k).1.flatten ↔ x < n ∧ (lSt hd n k).2 x = true
  | 0, _ => ⟨List.nodup_nil, fun x => ⟨(fun h => by cases h), fun h => by cases h.2⟩⟩
  | k + 1, hk => by
    obtain ⟨i1, i2⟩ := lSt_flat h k (by omega)
    obtain ⟨a, ha, hf, hz⟩ := h k (by omega)
    have hs : lSt hd n (k + 1) = ((lSt hd n k).1 ++ [mtl hd n a], fun b => (lSt hd n k).2 b || (hd a b && hd b a)) := by
      rw [lSt, hf]
    rw [hs]
    have hm : ∀ x, x ∈ mtl hd n a ↔ x < n ∧ hd a x = true ∧ hd x a = true := fun x => by
      rw [mtl, List.mem_filter, List.mem_range, Bool.and_eq_true]
    have he : ((lSt hd n k).1 ++ [mtl hd n a]).flatten = (lSt hd n k).1.flatten ++ mtl hd n a := by simp
    show ((lSt hd n k).1 ++ [mtl hd n a]).flatten.Nodup ∧ ∀ x, x ∈ ((lSt hd n k).1 ++ [mtl hd n a]).flatten ↔ x < n ∧ ((lSt hd n k).2 x || (hd a x && hd x a)) = true
    rw [he]
    refine ⟨List.nodup_append.2 ⟨i1, List.Pairwise.filter _ List.nodup_range, fun x hx y hy e => ?_⟩, fun x => ?_⟩
    · subst e
      have h1 := (i2 x).1 hx
      have h2 := (hm x).1 hy
      rw [hz x h2.1 h2.2.1 h2.2.2] at h1
      cases h1.2
    · rw [List.mem_append, i2, hm, Bool.or_eq_true, Bool.and_eq_true]
      constructor
      · rintro (⟨h1, h2⟩ | ⟨h1, h2⟩)
        · exact ⟨h1, .inl h2⟩
        · exact ⟨h1, .inr h2⟩
      · rintro ⟨h1, h2 | h2⟩
        · exact .inl ⟨h1, h2⟩
        · exact .inr ⟨h1, h2⟩
theorem PL_flat (W n : Nat) (l : List Bool) : (PL W n l).flatten.Nodup ∧ ∀ x, x ∈ (PL W n l).flatten ↔ x < n := by
  obtain ⟨m, hmn, hst, hcm, hfin⟩ := lists_run W n l
  obtain ⟨h1, h2⟩ := lSt_flat (m := m) (fun k hk => (hst k hk).2.imp fun a h => ⟨h.1, h.2.1, h.2.2.2.2⟩) m (Nat.le_refl _)
  rw [hfin] at h1 h2
  refine ⟨h1, fun x => ⟨fun h => ((h2 x).1 h).1, fun h => (h2 x).2 ⟨h, ?_⟩⟩⟩
  unfold lCt at hcm
  have : (List.range n).countP (lSt (hdB W n l) n m).2 = (List.range n).length := by rw [hcm]; simp
  exact List.countP_eq_length.1 this x (List.mem_range.2 h)
theorem PL_row {W n : Nat} {l : List Bool} {r : List Nat} (hr : r ∈ PL W n l) : r.length ≤ n ∧ ∀ x ∈ r, x < n := by
  obtain ⟨h1, h2⟩ := PL_flat W n l
  have hs : ∀ x ∈ r, x < n := fun x hx => (h2 x).1 (List.mem_flatten.2 ⟨r, hr, hx⟩)
  exact ⟨nodup_lt n r ((List.sublist_flatten_of_mem hr).nodup h1) hs, hs⟩
end Go.Proofs.YtmfddbhemknkfaaDoor

/- Chapter 11: what holds a thread, by both. -/
set_option linter.unusedSimpArgs false
set_option linter.unusedVariables false
set_option maxRecDepth 100000
namespace Go.Proofs.YtmfddbhemknkfaaDoor
open Go Go.Proofs Go.AW

/-- What the search has met. -/
structure Met (ov : Nat → List Nat) (n a : Nat) (q : List Nat) : Prop where
  nd : q.Nodup
  wy : ∀ x ∈ q, x < n ∧ Wy ov a x
  me : a ∈ q
theorem Met.len {ov : Nat → List Nat} {n a : Nat} {q : List Nat} (h : Met ov n a q) : q.length ≤ n :=
  nodup_lt n q h.nd fun x hx => (h.wy x hx).1
theorem Met.push {ov : Nat → List Nat} {n a : Nat} {q : List Nat} (h : Met ov n a q) {c y : Nat} (hc : c ∈ q) (hy : y ∈ ov c) (hyn : y < n) (hq : ¬ y ∈ q) : Met ov n a (q ++ [y]) :=
  ⟨List.nodup_append.2 ⟨h.nd, by simp, fun x hx z hz e => hq (by rw [List.mem_singleton] at hz; rw [← hz, ← e]; exact hx)⟩,
   fun x hx => by
    rcases List.mem_append.1 hx with h1 | h1
    · exact h.wy x h1
    · rw [List.mem_singleton.1 h1]; exact ⟨hyn, (h.wy c hc).2.trans (.one hy)⟩,
   List.mem_append_left _ h.me⟩
end Go.Proofs.YtmfddbhemknkfaaDoor

/- Chapter 11: the parts, by both. -/
set_option linter.unusedSimpArgs false
set_option linter.unusedVariables false
set_option maxRecDepth 100000
namespace Go.Proofs.YtmfddbhemknkfaaDoor
open Go Go.Proofs Go.AW

theorem rowsC_fr (k : Nat) (ps : List (List Nat)) : ∀ x, x ∈ rowsC ps → allFresh (k + 2) x = true := by
  intro x hx
  obtain ⟨r, _, rfl⟩ := List.mem_map.1 hx
  simp [allFresh, ints_fresh]
theorem PV_fr (k : Nat) (ps : List (List Nat)) : allFresh (k + 3) (PV ps) = true := by
  show ((true || (rowsC ps).isEmpty) && (rowsC ps).all (allFresh (k + 2))) = true
  rw [Bool.true_or, Bool.true_and, List.all_eq_true]
  exact rowsC_fr k ps
theorem PV_res (h : List AObj) (k : Nat) (ps : List (List Nat)) : resOf h (k + 3) (PV ps) = PV ps := by
  show resOf h (k + 2 + 1) (.list true _ _ (rowsC ps)) = _
  rw [resOf_list, rowsC_res]; rfl
theorem parts_len {W n : Nat} {l : List Bool} : (PL W n l).length ≤ n := by
  obtain ⟨m, hmn, hst, hcm, hfin⟩ := lists_run W n l
  rw [← hfin, lSt_len (m := m) (fun k hk => (hst k hk).2.imp fun a h => h.2.1) m (Nat.le_refl _)]
  exact hmn
theorem partsPP_c {W H n : Nat} (hN : W + H = n) (hW0 : 0 < W) (hH0 : 0 < H) (hn64 : n ≤ 64) (b : Bool) {l : List Bool} (hn : l.length = W * H) : Contract Tryd.prog 10 [GA W H b l] (.tuple [PV (PL W n l), I 0]) := by
  have hz : gchk W H l.length = 0 := gchk_ok ⟨by omega, by omega, by omega, by omega, by rw [hn, Int.natCast_mul]⟩
  refine Contract.intro (effS [] false) 6 follows Tryd.func10 rfl rfl (by kernel_rfl) (Nat.le_of_ble_eq_true rfl) ?_
  simp (disch := first | assumption | omega | rfl | simp only [RH]) only [↓RP, RG, FX, RQ, ↓reduceIte, Nat.reduceEqDiff, reduceCtorEq, Nat.reduceBEq, Nat.reduceAdd, Nat.reduceLeDiff, args0_1]
  refine callK_F 6 (gcheckP_c W H b l) (by simp (disch := first | assumption | omega | rfl | simp only [RH]) only [↓RP, RG, FX, RQ, ↓reduceIte, Nat.reduceEqDiff, reduceCtorEq, Nat.reduceBEq, Nat.reduceAdd, Nat.reduceLeDiff, RA] <;> rfl) (.inl (by simp [allFresh, ints_fresh, bools_fresh])) ?_
  simp (disch := first | assumption | omega | rfl | simp only [RH]) only [↓RP, RG, FX, RQ, ↓reduceIte, Nat.reduceEqDiff, reduceCtorEq, Nat.reduceBEq, Nat.reduceAdd, Nat.reduceLeDiff, hz]
  refine callK_F 6 (partsP_c hN hW0 hH0 hn64 b hn) (by simp (disch := first | assumption | omega | rfl | simp only [RH]) only [↓RP, RG, FX, RQ, ↓reduceIte, Nat.reduceEqDiff, reduceCtorEq, Nat.reduceBEq, Nat.reduceAdd, Nat.reduceLeDiff, RA] <;> rfl) (.inl (PV_fr 3 _)) ?_
  simp (disch := first | assumption | omega | rfl | simp only [RH]) only [↓RP, RG, FX, RQ, ↓reduceIte, Nat.reduceEqDiff, reduceCtorEq, Nat.reduceBEq, Nat.reduceAdd, Nat.reduceLeDiff]
  rw [resVal_2 rfl]; simp (disch := first | assumption | omega | rfl | simp only [RH]) only [↓RP, RG, FX, RQ, ↓reduceIte, Nat.reduceEqDiff, reduceCtorEq, Nat.reduceBEq, Nat.reduceAdd, Nat.reduceLeDiff, RS]
  first | done | (simp only [PV_res])
end Go.Proofs.YtmfddbhemknkfaaDoor

/- Chapter 11: a layer of a part, by both. -/
set_option linter.unusedSimpArgs false
set_option linter.unusedVariables false
set_option maxRecDepth 100000
namespace Go.Proofs.YtmfddbhemknkfaaDoor
open Go Go.Proofs Go.AW

def layE (W : Nat) (r : List Nat) : List Nat := r.filter fun x => decide (x < W)
def layP (W : Nat) (r : List Nat) : List Nat := (r.filter fun x => !decide (x < W)).map fun x => x - W
end Go.Proofs.YtmfddbhemknkfaaDoor

/- Chapter 11: the cloth of one part hangs together. Plain. -/
set_option linter.unusedSimpArgs false
set_option linter.unusedVariables false
set_option maxRecDepth 100000
namespace Go.Proofs.YtmfddbhemknkfaaDoor
open Go Go.Proofs Go.AW

theorem lSt_mtl {hd : Nat → Nat → Bool} {n m : Nat} (h : ∀ k, k < m → ∃ a, a < n ∧ (List.range n).find? (cnd hd n (lSt hd n k).2) = some a) : ∀ k, k ≤ m → ∀ r ∈ (lSt hd n k).1, ∃ a, a < n ∧ r = mtl hd n a
  | 0, _, r, hr => by cases hr
  | k + 1, hk, r, hr => by
    obtain ⟨a, ha0, ha⟩ := h k (by omega)
    rw [lSt, ha] at hr
    rcases List.mem_append.1 (show r ∈ (lSt hd n k).1 ++ [mtl hd n a] from hr) with h1 | h1
    · exact lSt_mtl h k (by omega) r h1
    · exact ⟨a, ha0, List.mem_singleton.1 h1⟩
/-- A part: the threads that hold each other. -/
structure Part (W n : Nat) (l : List Bool) (r : List Nat) : Prop where
  inc : r.Pairwise (· < ·)
  lt : ∀ x ∈ r, x < n
  ne : r ≠ []
  mu : ∀ x y, x ∈ r → (y ∈ r ↔ Wy (adjT W n l) x y ∧ Wy (adjT W n l) y x)
theorem adj_lt {W n : Nat} {l : List Bool} {x y : Nat} (h : Wy (adjT W n l) x y) (hx : x < n) : y < n := h.closed (p := fun z => z < n) (fun _ _ _ hm => adjT_lt hm) hx
theorem mtl_part {W n : Nat} {l : List Bool} {a : Nat} (ha : a < n) : Part W n l (mtl (hdB W n l) n a) := by
  have hm : ∀ x, x ∈ mtl (hdB W n l) n a ↔ Wy (adjT W n l) a x ∧ Wy (adjT W n l) x a := fun x => by
    rw [mtl, List.mem_filter, List.mem_range, Bool.and_eq_true]
    constructor
    · rintro ⟨h1, h2, h3⟩
      exact ⟨(hdB_iff ha h1).1 h2, (hdB_iff h1 ha).1 h3⟩
    · rintro ⟨h1, h2⟩
      have hx := adj_lt h1 ha
      exact ⟨hx, (hdB_iff ha hx).2 h1, (hdB_iff hx ha).2 h2⟩
  refine ⟨List.Pairwise.filter _ List.pairwise_lt_range, fun x hx => adj_lt ((hm x).1 hx).1 ha, fun he => ?_, fun x y hx => ?_⟩
  · have : a ∈ mtl (hdB W n l) n a := (hm a).2 ⟨.refl a, .refl a⟩
    rw [he] at this; cases this
  · obtain ⟨h1, h2⟩ := (hm x).1 hx
    rw [hm]
    exact ⟨fun ⟨h3, h4⟩ => ⟨h2.trans h3, h4.trans h1⟩, fun ⟨h3, h4⟩ => ⟨h1.trans h3, h4.trans h2⟩⟩
theorem PL_part {W n : Nat} {l : List Bool} {r : List Nat} (hr : r ∈ PL W n l) : Part W n l r := by
  obtain ⟨m, hmn, hst, hcm, hfin⟩ := lists_run W n l
  rw [← hfin] at hr
  obtain ⟨a, ha, rfl⟩ := lSt_mtl (m := m) (fun k hk => (hst k hk).2.imp fun a h => ⟨h.1, h.2.1⟩) m (Nat.le_refl _) r hr
  exact mtl_part ha
/-- Each part is in the list. -/
theorem part_in {W n : Nat} {l : List Bool} {r : List Nat} (h : Part W n l r) : r ∈ PL W n l := by
  obtain ⟨x, t, rfl⟩ : ∃ x t, r = x :: t := by
    cases r with
    | nil => exact absurd rfl h.ne
    | cons x t => exact ⟨x, t, rfl⟩
  have hx := h.lt x (by simp)
  obtain ⟨r', h1, h2⟩ := List.mem_flatten.1 (((PL_flat W n l).2 x).2 hx)
  have hp := PL_part h1
  have : x :: t = r' := incN_ext _ _ h.inc hp.inc fun y => by rw [h.mu x y (by simp), hp.mu x y h2]
  rw [this]; exact h1
theorem Part.step {W n : Nat} {l : List Bool} {r : List Nat} (h : Part W n l r) {a b c : Nat} (ha : a ∈ r) (hb : b ∈ r) (hc : c ∈ adjT W n l a) (hw : Wy (adjT W n l) c b) : c ∈ r :=
  (h.mu a c ha).2 ⟨.one hc, hw.trans ((h.mu a b ha).1 hb).2⟩
/-- What holds along ways within a part. -/
theorem Part.along {W n : Nat} {l : List Bool} {r : List Nat} (h : Part W n l r) {p : Nat → Prop} (hp : ∀ x y, x ∈ r → y ∈ r → p x → y ∈ adjT W n l x → p y) {a b : Nat} (ha : a ∈ r) (hb : b ∈ r) (h0 : p a) : p b := by
  have hw := ((h.mu a b ha).1 hb).1
  induction hw with
  | refl a => exact h0
  | step hc hr ih =>
    have hcr := h.step ha hb hc hr
    exact ih hcr hb (hp _ _ ha hcr h0 hc)
theorem lay_split {r : List Nat} (h : r.Pairwise (· < ·)) (W : Nat) : r = layE W r ++ (layP W r).map (· + W) := by
  have hm : (layP W r).map (· + W) = r.filter fun x => !decide (x < W) := by
    unfold layP
    rw [List.map_map]
    conv => rhs; rw [← List.map_id (r.filter fun x => !decide (x < W))]
    refine List.map_congr_left fun x hx => ?_
    have := (List.mem_filter.1 hx).2
    simp at this
    show x - W + W = x
    omega
  rw [hm]
  refine incN_ext _ _ h (List.pairwise_append.2 ⟨List.Pairwise.filter _ h, List.Pairwise.filter _ h, fun x hx y hy => ?_⟩) fun x => ?_
  · have h1 := (List.mem_filter.1 hx).2
    have h2 := (List.mem_filter.1 hy).2
    simp at h1 h2
    omega
  · unfold layE
    rw [List.mem_append, List.mem_filter, List.mem_filter]
    by_cases hx : x < W <;> simp [hx]
/-- Both kinds of threads are in a part of two. -/
theorem Part.both {W n : Nat} {l : List Bool} {r : List Nat} (h : Part W n l r) (h1 : 1 < r.length) : 0 < (layE W r).length ∧ 0 < (layP W r).length := by
  obtain ⟨x, y, t, rfl⟩ : ∃ x y t, r = x :: y :: t := by
    match r, h1 with
    | x :: y :: t, _ => exact ⟨x, y, t, rfl⟩
  have hxy : x ≠ y := by
    have := h.inc; rw [List.pairwise_cons] at this
    have := this.1 y (by simp); omega
  have hw := ((h.mu x y (by simp)).1 (by simp)).1
  obtain ⟨c, hc, hcr⟩ : ∃ c, c ∈ adjT W n l x ∧ c ∈ x :: y :: t := by
    cases hw with
    | refl => exact absurd rfl hxy
    | step hc hr => exact ⟨_, hc, h.step (by simp) (by simp) hc hr⟩
  have hov := (mem_adjT.1 hc).2
  have hE : ∀ z, z ∈ x :: y :: t → z < W → 0 < (layE W (x :: y :: t)).length := fun z hz hzW => List.length_pos_of_mem (List.mem_filter.2 ⟨hz, decide_eq_true hzW⟩)
  have hP : ∀ z, z ∈ x :: y :: t → ¬ z < W → 0 < (layP W (x :: y :: t)).length := fun z hz hzW => by
    unfold layP
    rw [List.length_map]
    exact List.length_pos_of_mem (List.mem_filter.2 ⟨hz, by simp [hzW]⟩)
  unfold ov at hov
  by_cases hcW : c < W
  · by_cases hxW : x < W
    · rw [if_pos hcW, if_pos hxW] at hov; cases hov
    · exact ⟨hE c hcr hcW, hP x (by simp) hxW⟩
  · by_cases hxW : x < W
    · exact ⟨hE x (by simp) hxW, hP c hcr hcW⟩
    · rw [if_neg hcW, if_neg hxW] at hov; cases hov
/-- The place of a thread of the smaller cloth in the whole one. -/
def subT (W : Nat) (r : List Nat) (c : Nat) : Nat := if c < (layE W r).length then (layE W r).getD c 0 else (layP W r).getD (c - (layE W r).length) 0 + W
def subL (W : Nat) (l : List Bool) (r : List Nat) : List Bool := tabN (layE W r).length (fun x y => l.getD (W * (layP W r).getD y 0 + (layE W r).getD x 0) false) ((layE W r).length * (layP W r).length)
theorem subT_get {r : List Nat} (h : r.Pairwise (· < ·)) (W : Nat) {c : Nat} (hc : c < r.length) : subT W r c = r.getD c 0 := by
  have hs := lay_split h W
  have hl : r.length = (layE W r).length + (layP W r).length := by
    conv => lhs; rw [hs]
    simp
  unfold subT
  conv => rhs; rw [hs]
  by_cases hcE : c < (layE W r).length
  · rw [if_pos hcE, List.getD_eq_getElem?_getD, List.getD_eq_getElem?_getD, List.getElem?_append_left hcE]
  · rw [if_neg hcE, List.getD_eq_getElem?_getD, List.getD_eq_getElem?_getD, List.getElem?_append_right (by omega), List.getElem?_map]
    have : c - (layE W r).length < (layP W r).length := by omega
    rw [List.getElem?_eq_getElem this]; rfl
theorem layE_lt {W : Nat} {r : List Nat} {c : Nat} (hc : c < (layE W r).length) : (layE W r).getD c 0 < W := by
  rw [List.getD_eq_getElem?_getD, List.getElem?_eq_getElem hc]
  have := (List.mem_filter.1 (List.getElem_mem hc)).2
  simpa using this
theorem sub_ov {W : Nat} (l : List Bool) {r : List Nat} {c d : Nat} (hc : c < (layE W r).length + (layP W r).length) (hd : d < (layE W r).length + (layP W r).length) : ov (layE W r).length (subL W l r) c d = ov W l (subT W r c) (subT W r d) := by
  have hE := fun c => layE_lt (W := W) (r := r) (c := c)
  unfold subL subT
  generalize layE W r = E at *
  generalize layP W r = P at *
  have hget : ∀ x y, x < E.length → y < P.length → (tabN E.length (fun x y => l.getD (W * P.getD y 0 + E.getD x 0) false) (E.length * P.length)).getD (E.length * y + x) false = l.getD (W * P.getD y 0 + E.getD x 0) false := fun x y hx hy => by
    refine tabN_get _ _ hx ?_
    have := Nat.mul_le_mul_left E.length (show y + 1 ≤ P.length by omega)
    rw [Nat.mul_succ] at this
    omega
  have hn : ∀ z : Nat, ¬ z + W < W := fun z => by omega
  unfold ov
  by_cases h1 : c < E.length
  · have e1 := hE c h1
    rw [if_pos h1, if_pos h1, if_pos e1]
    by_cases h2 : d < E.length
    · rw [if_pos h2, if_pos h2, if_pos (hE d h2)]
    · rw [if_neg h2, if_neg h2, if_neg (hn _), hget c (d - E.length) h1 (by omega), Nat.add_sub_cancel]
  · rw [if_neg h1, if_neg h1, if_neg (hn _)]
    by_cases h2 : d < E.length
    · have e2 := hE d h2
      rw [if_pos h2, if_pos h2, if_pos e2, hget d (c - E.length) h2 (by omega), Nat.add_sub_cancel]
    · rw [if_neg h2, if_neg h2, if_neg (hn _)]
theorem lay_len {r : List Nat} (h : r.Pairwise (· < ·)) (W : Nat) : (layE W r).length + (layP W r).length = r.length := by
  have hs := lay_split h W
  conv => rhs; rw [hs]
  simp
/-- The cloth of one part hangs together. -/
theorem Part.hg {W n : Nat} {l : List Bool} {r : List Nat} (h : Part W n l r) : Hg (layE W r).length r.length (subL W l r) := by
  intro M hM ⟨c0, hc0, hM0⟩ x hx
  have hll := lay_len h.inc W
  have hT : ∀ c, c < r.length → subT W r c = r.getD c 0 := fun c hc => subT_get h.inc W hc
  have hmem : ∀ c, c < r.length → r.getD c 0 ∈ r := fun c hc => by rw [List.getD_eq_getElem?_getD, List.getElem?_eq_getElem hc]; exact List.getElem_mem hc
  have key : (fun z => ∃ c, c < r.length ∧ r.getD c 0 = z ∧ M c) (r.getD x 0) := by
    refine h.along (p := fun z => ∃ c, c < r.length ∧ r.getD c 0 = z ∧ M c) (fun a b ha hb => ?_) (hmem c0 hc0) (hmem x hx) ⟨c0, hc0, rfl, hM0⟩
    rintro ⟨c, hc, rfl, hMc⟩ hba
    obtain ⟨d, hd, rfl⟩ := List.mem_iff_getElem.1 hb
    have hdd : r.getD d 0 = r[d] := by rw [List.getD_eq_getElem?_getD, List.getElem?_eq_getElem hd]; rfl
    refine ⟨d, hd, hdd, hM c hc hMc d hd ?_⟩
    rw [sub_ov l (by omega) (by omega), hT d hd, hT c hc, hdd]
    exact (mem_adjT.1 hba).2
  obtain ⟨c, hc, he, hMc⟩ := key
  have : c = x := by
    rw [List.getD_eq_getElem?_getD, List.getD_eq_getElem?_getD, List.getElem?_eq_getElem hc, List.getElem?_eq_getElem hx] at he
    have hi := List.pairwise_iff_getElem.1 h.inc
    rcases Nat.lt_trichotomy c x with h1 | h1 | h1
    · have := hi c x hc hx h1; simp at he; omega
    · exact h1
    · have := hi x c hx hc h1; simp at he; omega
  rw [← this]; exact hMc
end Go.Proofs.YtmfddbhemknkfaaDoor

/- Chapter 11: the parts are listed from below. Plain. -/
set_option linter.unusedSimpArgs false
set_option linter.unusedVariables false
set_option maxRecDepth 100000
namespace Go.Proofs.YtmfddbhemknkfaaDoor
open Go Go.Proofs Go.AW

theorem PL_one {W n : Nat} {l : List Bool} {i j x : Nat} (hi : i < (PL W n l).length) (hj : j < (PL W n l).length) (h1 : x ∈ (PL W n l).getD i []) (h2 : x ∈ (PL W n l).getD j []) : i = j := by
  have hd := (List.pairwise_flatten.1 (PL_flat W n l).1).2
  rw [List.getD_eq_getElem?_getD, List.getElem?_eq_getElem hi] at h1
  rw [List.getD_eq_getElem?_getD, List.getElem?_eq_getElem hj] at h2
  have hp := List.pairwise_iff_getElem.1 hd
  rcases Nat.lt_trichotomy i j with h | h | h
  · exact absurd rfl (hp i j hi hj h x h1 x h2)
  · exact h
  · exact absurd rfl (hp j i hj hi h x h2 x h1)
/-- The place of a thread among the first parts, or none. -/
def pOf (ps : List (List Nat)) (x : Nat) : Nat → Int
  | 0 => -1
  | i + 1 => if x ∈ ps.getD i [] then (i : Int) else pOf ps x i
theorem pOf_at {ps : List (List Nat)} {x k : Nat} (hx : x ∈ ps.getD k []) (hu : ∀ j, j < ps.length → x ∈ ps.getD j [] → j = k) : ∀ i, i ≤ ps.length → pOf ps x i = if k < i then (k : Int) else -1
  | 0, _ => by simp [pOf]
  | i + 1, hi => by
    rw [pOf, pOf_at hx hu i (by omega)]
    by_cases hm : x ∈ ps.getD i []
    · have := hu i (by omega) hm
      rw [if_pos hm, if_pos (by omega), this]
    · have : k ≠ i := fun e => hm (e ▸ hx)
      rw [if_neg hm]
      by_cases hk : k < i
      · rw [if_pos hk, if_pos (by omega)]
      · rw [if_neg hk, if_neg (by omega)]
/-- Where the threads are, and what that tells. -/
theorem PL_place {W n : Nat} {l : List Bool} {x : Nat} (hx : x < n) : ∃ k, k < (PL W n l).length ∧ x ∈ (PL W n l).getD k [] ∧ pOf (PL W n l) x (PL W n l).length = k := by
  obtain ⟨r, hr, hxr⟩ := List.mem_flatten.1 (((PL_flat W n l).2 x).2 hx)
  obtain ⟨k, hk, rfl⟩ := List.mem_iff_getElem.1 hr
  have hxk : x ∈ (PL W n l).getD k [] := by rw [List.getD_eq_getElem?_getD, List.getElem?_eq_getElem hk]; exact hxr
  refine ⟨k, hk, hxk, ?_⟩
  rw [pOf_at hxk (fun j hj h => PL_one hj hk h hxk) _ (Nat.le_refl _), if_pos hk]
end Go.Proofs.YtmfddbhemknkfaaDoor

/- The next thread of the way, by the program. -/
set_option linter.unusedSimpArgs false
set_option linter.unusedVariables false
set_option maxRecDepth 100000
namespace Go.Proofs.YtmfddbhemknkfaaDoor
open Go Go.Proofs Go.AW

end Go.Proofs.YtmfddbhemknkfaaDoor

/- Accept, by the reference. -/
set_option linter.unusedSimpArgs false
set_option linter.unusedVariables false
set_option maxRecDepth 100000
namespace Go.Proofs.YtmfddbhemknkfaaDoor
open Go Go.Proofs Go.AW

end Go.Proofs.YtmfddbhemknkfaaDoor

/- Whole walks, and sets that come off. Plain. -/
set_option linter.unusedSimpArgs false
set_option linter.unusedVariables false
set_option maxRecDepth 100000
namespace Go.Proofs.YtmfddbhemknkfaaDoor
open Go Go.Proofs Go.AW

end Go.Proofs.YtmfddbhemknkfaaDoor

/- Sets told by their threads; the back. Plain. -/
set_option linter.unusedSimpArgs false
set_option linter.unusedVariables false
set_option maxRecDepth 100000
namespace Go.Proofs.YtmfddbhemknkfaaDoor
open Go Go.Proofs Go.AW

end Go.Proofs.YtmfddbhemknkfaaDoor

/- Grids: made cell by cell, turned. -/
set_option linter.unusedSimpArgs false
set_option linter.unusedVariables false
set_option maxRecDepth 100000
namespace Go.Proofs.YtmfddbhemknkfaaDoor
open Go Go.Proofs Go.AW

theorem build_c (f : FuncId) (caps : List AVal) (W H : Nat) (u : Nat → Nat → Bool) (hw : W ≤ 10000) (hh : H ≤ 10000) (hcaps : ∀ r : List AObj, caps.map (argOf r 6) = caps) (hup : ∀ x y : Nat, x < W → y < H → Contract Tryd.prog f ([I x, I y] ++ caps) (B (u x y))) :
    Contract Tryd.prog 30 [I W, I H, .func (.func f) [] caps] (GR W H false (tabN W u (W * H))) := by
  have hm := mul_bd (W := W) (H := H) hw hh
  refine Contract.intro (effS [] false) 6 follows Tryd.func30 rfl rfl (by kernel_rfl) (Nat.le_of_ble_eq_true rfl) ?_
  simp (disch := first | assumption | omega | rfl | simp only [RH]) only [↓RP, RG, FX, RQ, ↓reduceIte, Nat.reduceEqDiff, reduceCtorEq, Nat.reduceBEq, Nat.reduceAdd, Nat.reduceLeDiff, args0_3, make_bool, Int.toNat_zero]
  refine loopK_I [0, 1, 2, 6, 7, 17, 18] (fun y : Nat => y ≤ H) (fun y => ⟨[(0, I W), (1, I H), (2, .func (.func f) [] caps), (6, .ptr 0 0 3), (7, .ptr 2 0 3), (17, I H), (18, I y)], [⟨24, 3, [I 0, I 0, .cap0 true]⟩, ⟨4, 1, bools (tabN W u (W * y))⟩, ⟨24, 3, [I W, I H, .ref 1 0 (W * y) (W * y)]⟩]⟩) (fun y => H - y) 0 (by omega) (by simp only [↓RP, RG, FX, RQ, ↓reduceIte, Nat.reduceEqDiff, reduceCtorEq, Nat.reduceBEq, Nat.reduceAdd, Nat.reduceLeDiff, List.replicate_zero, Nat.mul_zero]; rfl) ?_
  intro y hy
  by_cases hlt : y < H
  · simp (disch := first | assumption | omega | rfl | simp only [RH]) only [↓RP, RG, FX, RQ, ↓reduceIte, Nat.reduceEqDiff, reduceCtorEq, Nat.reduceBEq, Nat.reduceAdd, Nat.reduceLeDiff]
    refine loopK_I [0, 1, 2, 6, 7, 8, 17, 18, 21, 22] (fun x : Nat => x ≤ W) (fun x => ⟨[(0, I W), (1, I H), (2, .func (.func f) [] caps), (6, .ptr 0 0 3), (7, .ptr 2 0 3), (8, I y), (17, I H), (18, I y), (21, I W), (22, I x)], [⟨24, 3, [I 0, I 0, .cap0 true]⟩, ⟨4, 1, bools (tabN W u (W * y + x))⟩, ⟨24, 3, [I W, I H, .ref 1 0 (W * y + x) (W * y + x)]⟩]⟩) (fun x => W - x) 0 (by omega) (by simp only [↓RP, RG, FX, RQ, ↓reduceIte, Nat.reduceEqDiff, reduceCtorEq, Nat.reduceBEq, Nat.reduceAdd, Nat.reduceLeDiff]; rfl) ?_
    intro x hx
    by_cases hlt2 : x < W
    · have hl := tabN_len W u (W * y + x)
      have hb : W * y + x ≤ 1000000000 := by
        have : W * y ≤ 10000 * 10000 := Nat.mul_le_mul hw (by omega)
        omega
      simp (disch := first | assumption | omega | rfl | simp only [RH]) only [↓RP, RG, FX, RQ, ↓reduceIte, Nat.reduceEqDiff, reduceCtorEq, Nat.reduceBEq, Nat.reduceAdd, Nat.reduceLeDiff]
      refine callK_V 6 (hup x y hlt2 hlt) (by rw [List.nil_append, List.map_append, hcaps]; rfl) (.inl rfl) ?_
      simp (disch := first | assumption | omega | rfl | simp only [RH]) only [↓RP, RG, FX, RQ, ↓reduceIte, Nat.reduceEqDiff, reduceCtorEq, Nat.reduceBEq, Nat.reduceAdd, Nat.reduceLeDiff, append_refB, apRX_bools]
      exact ⟨x + 1, by omega, by rw [show W * y + (x + 1) = W * y + x + 1 from rfl, tabN_succ W u hlt2]; rfl, by omega⟩
    · obtain rfl : x = W := by omega
      simp (disch := first | assumption | omega | rfl | simp only [RH]) only [↓RP, RG, FX, RQ, ↓reduceIte, Nat.reduceEqDiff, reduceCtorEq, Nat.reduceBEq, Nat.reduceAdd, Nat.reduceLeDiff]
      exact ⟨y + 1, by omega, rfl, by omega⟩
  · obtain rfl : y = H := by omega
    have hl := tabN_len W u (W * y)
    simp (disch := first | assumption | omega | rfl | simp only [RH]) only [↓RP, RG, FX, RQ, ↓reduceIte, Nat.reduceEqDiff, reduceCtorEq, Nat.reduceBEq, Nat.reduceAdd, Nat.reduceLeDiff]
    rw [resVal_1 rfl]; simp (disch := first | assumption | omega | rfl | simp only [RH]) only [↓RP, RG, FX, RQ, ↓reduceIte, Nat.reduceEqDiff, reduceCtorEq, Nat.reduceBEq, Nat.reduceAdd, Nat.reduceLeDiff, RS]
    first | done | rw [hl]

end Go.Proofs.YtmfddbhemknkfaaDoor

/- The back of a cloth, by the program. -/
set_option linter.unusedSimpArgs false
set_option linter.unusedVariables false
set_option maxRecDepth 100000
namespace Go.Proofs.YtmfddbhemknkfaaDoor
open Go Go.Proofs Go.AW

def uN (W : Nat) (l : List Bool) (x y : Nat) : Bool := !cell W l x y
theorem notF_c {W H : Nat} (hW : W ≤ 64) (hH : H ≤ 64) (b : Bool) {l : List Bool} (hn : l.length = W * H) {x y : Nat} (hx : x < W) (hy : y < H) :
    Contract Tryd.prog 31 [I x, I y, .spot false [I W, I H, BA b l]] (B (uN W l x y)) := by
  have h1 := idx_lt (W := W) (H := H) (x := x) (y := y) hx hy
  have h2 := idx_nat W y x
  have h3 : W * H ≤ 64 * 64 := Nat.mul_le_mul hW hH
  have h4 : (y : Int) * (W : Int) = ((W * y : Nat) : Int) := by rw [Int.natCast_mul, Int.mul_comm]
  have h5 : W * y ≤ 64 * 64 := Nat.mul_le_mul hW (by omega)
  refine Contract.intro (effS [] false) 6 follows Tryd.func31 rfl rfl (by kernel_rfl) (Nat.le_of_ble_eq_true rfl) ?_
  simp (disch := first | assumption | omega | rfl | simp only [RH]) only [↓RP, RG, FX, RQ, ↓reduceIte, Nat.reduceEqDiff, reduceCtorEq, Nat.reduceBEq, Nat.reduceAdd, Nat.reduceLeDiff, args0_3]
  rw [resVal_1 rfl]; simp (disch := first | assumption | omega | rfl | simp only [RH]) only [↓RP, RG, FX, RQ, ↓reduceIte, Nat.reduceEqDiff, reduceCtorEq, Nat.reduceBEq, Nat.reduceAdd, Nat.reduceLeDiff, RS]
  first | done | (unfold uN cell; rfl)
theorem notP_c {W H : Nat} (hW0 : 0 < W) (hH0 : 0 < H) (hW : W ≤ 64) (hH : H ≤ 64) (b : Bool) {l : List Bool} (hn : l.length = W * H) :
    Contract Tryd.prog 11 [GA W H b l] (.tuple [GR W H false (tabN W (uN W l) (W * H)), I 0]) := by
  have hz : gchk W H l.length = 0 := gchk_ok ⟨by omega, by omega, by omega, by omega, by rw [hn, Int.natCast_mul]⟩
  refine Contract.intro (effS [] false) 6 follows Tryd.func11 rfl rfl (by kernel_rfl) (Nat.le_of_ble_eq_true rfl) ?_
  simp (disch := first | assumption | omega | rfl | simp only [RH]) only [↓RP, RG, FX, RQ, ↓reduceIte, Nat.reduceEqDiff, reduceCtorEq, Nat.reduceBEq, Nat.reduceAdd, Nat.reduceLeDiff, args0_1]
  refine callK_F 6 (gcheckP_c W H b l) (by simp (disch := first | assumption | omega | rfl | simp only [RH]) only [↓RP, RG, FX, RQ, ↓reduceIte, Nat.reduceEqDiff, reduceCtorEq, Nat.reduceBEq, Nat.reduceAdd, Nat.reduceLeDiff, RA] <;> rfl) (.inl (by simp [allFresh, ints_fresh, bools_fresh])) ?_
  simp (disch := first | assumption | omega | rfl | simp only [RH]) only [↓RP, RG, FX, RQ, ↓reduceIte, Nat.reduceEqDiff, reduceCtorEq, Nat.reduceBEq, Nat.reduceAdd, Nat.reduceLeDiff]
  refine callK_F 6 (build_c 31 [.spot false [I W, I H, BA b l]] W H (uN W l) (by omega) (by omega) (fun r => by simp [argOf]; exact bools_arg l r 3) (fun x y hx hy => notF_c hW hH b hn hx hy)) (by simp (disch := first | assumption | omega | rfl | simp only [RH]) only [↓RP, RG, FX, RQ, ↓reduceIte, Nat.reduceEqDiff, reduceCtorEq, Nat.reduceBEq, Nat.reduceAdd, Nat.reduceLeDiff, RA] <;> rfl) (.inl (by simp [allFresh, ints_fresh, bools_fresh])) ?_
  simp (disch := first | assumption | omega | rfl | simp only [RH]) only [↓RP, RG, FX, RQ, ↓reduceIte, Nat.reduceEqDiff, reduceCtorEq, Nat.reduceBEq, Nat.reduceAdd, Nat.reduceLeDiff]
  rw [resVal_2 rfl]; simp (disch := first | assumption | omega | rfl | simp only [RH]) only [↓RP, RG, FX, RQ, ↓reduceIte, Nat.reduceEqDiff, reduceCtorEq, Nat.reduceBEq, Nat.reduceAdd, Nat.reduceLeDiff, RS]
theorem cellN (W : Nat) (l : List Bool) (x y : Nat) : cell W l x y = l.getD (W * y + x) false := by
  unfold cell; rw [idx_nat W y x]
end Go.Proofs.YtmfddbhemknkfaaDoor

/- The back of a cloth, by the program; how threads lie there. -/
set_option linter.unusedSimpArgs false
set_option linter.unusedVariables false
set_option maxRecDepth 100000
namespace Go.Proofs.YtmfddbhemknkfaaDoor
open Go Go.Proofs Go.AW

theorem ov_not {W H n : Nat} (hN : W + H = n) {l : List Bool} : ∀ a, a < n → ∀ c, c < n → ov W (tabN W (uN W l) (W * H)) a c = ov W l c a := by
  intro a ha c hc
  unfold ov
  by_cases h1 : a < W <;> by_cases h2 : c < W
  · rw [if_pos h1, if_pos h2, if_pos h2, if_pos h1]
  · rw [if_pos h1, if_neg h2, if_neg h2, if_pos h1, tabN_get W _ h1 (idx_lt h1 (by omega))]
    unfold uN; rw [cellN]
  · rw [if_neg h1, if_pos h2, if_pos h2, if_neg h1, tabN_get W _ h2 (idx_lt h2 (by omega))]
    unfold uN; rw [cellN, Bool.not_not]
  · rw [if_neg h1, if_neg h2, if_neg h2, if_neg h1]
end Go.Proofs.YtmfddbhemknkfaaDoor

/- Cloths that hang together alike. Plain. -/
set_option linter.unusedSimpArgs false
set_option linter.unusedVariables false
set_option maxRecDepth 100000
namespace Go.Proofs.YtmfddbhemknkfaaDoor
open Go Go.Proofs Go.AW

end Go.Proofs.YtmfddbhemknkfaaDoor

/- Cloths shifted, mirrored, tiled. Plain. -/
set_option linter.unusedSimpArgs false
set_option linter.unusedVariables false
set_option maxRecDepth 100000
namespace Go.Proofs.YtmfddbhemknkfaaDoor
open Go Go.Proofs Go.AW

/-- A number modulo another one. -/
def arM (a n : Int) : Int := if a.tmod n < 0 then a.tmod n + n else a.tmod n
theorem arM_bd (a : Int) {n : Int} (hn : 0 < n) : 0 ≤ arM a n ∧ arM a n < n := by
  have h1 := Int.tmod_lt_of_pos a hn
  have h2 : -n < a.tmod n := by
    have := Int.tmod_lt_of_pos (-a) hn
    rw [Int.neg_tmod] at this
    omega
  unfold arM
  split <;> omega
theorem arM_q (a n : Int) : ∃ q, arM a n = a - n * q := by
  have h := Int.tmod_add_mul_tdiv a n
  unfold arM
  split
  · exact ⟨a.tdiv n - 1, by rw [Int.mul_sub, Int.mul_one]; omega⟩
  · exact ⟨a.tdiv n, by omega⟩
theorem arM_inj {a b n : Int} (hn : 0 < n) (h1 : a - b < n) (h2 : b - a < n) (h : arM a n = arM b n) : a = b := by
  obtain ⟨q, hq⟩ := arM_q a n
  obtain ⟨r, hr⟩ := arM_q b n
  have e : a - b = n * (q - r) := by rw [Int.mul_sub]; omega
  by_cases c1 : 1 ≤ q - r
  · have := Int.mul_le_mul_of_nonneg_left c1 (show 0 ≤ n by omega)
    omega
  · by_cases c2 : q - r ≤ -1
    · have := Int.mul_le_mul_of_nonneg_left c2 (show 0 ≤ n by omega)
      omega
    · have : q - r = 0 := by omega
      rw [this] at e
      omega
/-- A map of the numbers below n that takes none twice takes all. -/
theorem inj_sur {n : Nat} {φ : Nat → Nat} (h1 : ∀ x, x < n → φ x < n) (h2 : ∀ x y, x < n → y < n → φ x = φ y → x = y) : ∀ y, y < n → ∃ x, x < n ∧ φ x = y := by
  intro y hy
  have hnd : ((List.range n).map φ).Nodup := by
    rw [List.nodup_iff_pairwise_ne, List.pairwise_iff_getElem]
    intro i j hi hj hij he
    simp only [List.length_map, List.length_range] at hi hj
    simp only [List.getElem_map, List.getElem_range] at he
    have := h2 i j hi hj he
    omega
  have hmem : y ∈ (List.range n).map φ := by
    refine Classical.byContradiction fun hno => ?_
    have := nodup_lt n (y :: (List.range n).map φ) (List.nodup_cons.2 ⟨hno, hnd⟩) (fun x hx => by
      rcases List.mem_cons.1 hx with rfl | hx
      · exact hy
      · obtain ⟨z, hz, rfl⟩ := List.mem_map.1 hx
        exact h1 z (by simpa using hz))
    simp at this
    omega
  obtain ⟨x, hx, e⟩ := List.mem_map.1 hmem
  exact ⟨x, by simpa using hx, e⟩
/-- Where a column of a shifted cloth was. -/
def shN (d : Int) (n x : Nat) : Nat := (arM ((x : Int) - d) n).toNat
theorem shN_lt {d : Int} {n : Nat} (hn : 0 < n) (x : Nat) : shN d n x < n := by
  have := arM_bd ((x : Int) - d) (n := n) (by omega)
  unfold shN; omega
/-- Tables that show a cloth's cells. -/
def uS (W H : Nat) (l : List Bool) (φ ψ : Nat → Nat) (x y : Nat) : Bool := l.getD (W * ψ y + φ x) false
end Go.Proofs.YtmfddbhemknkfaaDoor

/- Chapter 11: cloths whose parts are alike. Plain. -/
set_option linter.unusedSimpArgs false
set_option linter.unusedVariables false
set_option maxRecDepth 100000
namespace Go.Proofs.YtmfddbhemknkfaaDoor
open Go Go.Proofs Go.AW

theorem wy_map {W n W' n' : Nat} {l l' : List Bool} (ψ : Nat → Nat) (h1 : ∀ a, a < n → ψ a < n') (hov : ∀ a, a < n → ∀ c, c < n → ov W l a c = true → ov W' l' (ψ a) (ψ c) = true) {a b : Nat} (h : Wy (adjT W n l) a b) (ha : a < n) : Wy (adjT W' n' l') (ψ a) (ψ b) := by
  induction h with
  | refl a => exact .refl _
  | step hc hr ih =>
    obtain ⟨h2, h3⟩ := mem_adjT.1 hc
    exact .step (mem_adjT.2 ⟨h1 _ h2, hov _ h2 _ ha h3⟩) (ih h2)
theorem wy_rev {W n W' : Nat} {l l' : List Bool} (hov : ∀ a, a < n → ∀ c, c < n → ov W' l' a c = ov W l c a) {a b : Nat} (h : Wy (adjT W n l) a b) (ha : a < n) : Wy (adjT W' n l') b a := by
  induction h with
  | refl a => exact .refl _
  | step hc hr ih =>
    obtain ⟨h2, h3⟩ := mem_adjT.1 hc
    exact (ih h2).trans (.one (mem_adjT.2 ⟨ha, by rw [hov _ ha _ h2]; exact h3⟩))
/-- A cloth whose threads stand for threads of another one has no more parts. -/
theorem parts_le {W n W' n' : Nat} {l l' : List Bool} (ψ : Nat → Nat) (h1 : ∀ a, a < n → ψ a < n') (h2 : ∀ a, a < n → ∀ b, b < n → Wy (adjT W' n' l') (ψ a) (ψ b) → Wy (adjT W' n' l') (ψ b) (ψ a) → Wy (adjT W n l) a b ∧ Wy (adjT W n l) b a) : (PL W n l).length ≤ (PL W' n' l').length := by
  classical
  refine Classical.byContradiction fun hlt => ?_
  have key : ∀ i, i < (PL W n l).length → ∃ j, j < (PL W' n' l').length ∧ ∃ x, x < n ∧ x ∈ (PL W n l).getD i [] ∧ ψ x ∈ (PL W' n' l').getD j [] := fun i hi => by
    have hp := PL_part (W := W) (n := n) (l := l) (r := (PL W n l).getD i []) (by rw [List.getD_eq_getElem?_getD, List.getElem?_eq_getElem hi]; exact List.getElem_mem hi)
    obtain ⟨x, hx⟩ := List.exists_mem_of_ne_nil _ hp.ne
    obtain ⟨j, hj, hxj, _⟩ := PL_place (W := W') (l := l') (h1 x (hp.lt x hx))
    exact ⟨j, hj, x, hp.lt x hx, hx, hxj⟩
  let f : Nat → Nat := fun i => if h : i < (PL W n l).length then Classical.choose (key i h) else 0
  have hf : ∀ i (h : i < (PL W n l).length), f i = Classical.choose (key i h) := fun i h => dif_pos h
  obtain ⟨x, hx, he⟩ := inj_sur (n := (PL W n l).length) (φ := f) (fun i hi => by
    have := (Classical.choose_spec (key i hi)).1
    rw [hf i hi]; omega) (fun i j hi hj he => by
    rw [hf i hi, hf j hj] at he
    obtain ⟨a1, x, a2, a3, a4⟩ := Classical.choose_spec (key i hi)
    obtain ⟨b1, y, b2, b3, b4⟩ := Classical.choose_spec (key j hj)
    rw [he] at a4
    generalize Classical.choose (key j hj) = k at *
    have hk := PL_part (W := W') (n := n') (l := l') (r := (PL W' n' l').getD k []) (by rw [List.getD_eq_getElem?_getD, List.getElem?_eq_getElem b1]; exact List.getElem_mem b1)
    obtain ⟨w1, w2⟩ := (hk.mu _ _ a4).1 b4
    have hi2 := PL_part (W := W) (n := n) (l := l) (r := (PL W n l).getD i []) (by rw [List.getD_eq_getElem?_getD, List.getElem?_eq_getElem hi]; exact List.getElem_mem hi)
    exact PL_one hi hj ((hi2.mu x y a3).2 (h2 x a2 y b2 w1 w2)) b3) ((PL W' n' l').length) (by omega)
  have := (Classical.choose_spec (key x hx)).1
  rw [hf x hx] at he
  omega
/-- Cloths that are alike but for their threads' names have as many parts. -/
theorem parts_like {W n W' : Nat} {l l' : List Bool} (φ : Nat → Nat) (h1 : ∀ a, a < n → φ a < n) (h2 : ∀ a b, a < n → b < n → φ a = φ b → a = b) (hov : ∀ a, a < n → ∀ c, c < n → ov W' l' a c = ov W l (φ a) (φ c)) : (PL W n l).length = (PL W' n l').length := by
  classical
  have hs := inj_sur h1 h2
  let ψ : Nat → Nat := fun y => if h : y < n then Classical.choose (hs y h) else 0
  have p1 : ∀ y, y < n → ψ y < n ∧ φ (ψ y) = y := fun y hy => by
    have := Classical.choose_spec (hs y hy)
    show (if h : y < n then Classical.choose (hs y h) else 0) < n ∧ _
    simp only [ψ, dif_pos hy]
    exact this
  have p2 : ∀ a, a < n → ψ (φ a) = a := fun a ha => h2 _ _ (p1 _ (h1 a ha)).1 ha (p1 _ (h1 a ha)).2
  have m1 : ∀ a, a < n → ∀ b, Wy (adjT W' n l') a b → Wy (adjT W n l) (φ a) (φ b) := fun a ha b h => wy_map φ h1 (fun a ha c hc h => by rw [← hov a ha c hc]; exact h) h ha
  have m2 : ∀ a, a < n → ∀ b, Wy (adjT W n l) a b → Wy (adjT W' n l') (ψ a) (ψ b) := fun a ha b h => wy_map ψ (fun a ha => (p1 a ha).1) (fun a ha c hc h => by rw [hov _ (p1 a ha).1 _ (p1 c hc).1, (p1 a ha).2, (p1 c hc).2]; exact h) h ha
  refine Nat.le_antisymm (parts_le ψ (fun a ha => (p1 a ha).1) fun a ha b hb w1 w2 => ?_) (parts_le φ h1 fun a ha b hb w1 w2 => ?_)
  · have q1 := m1 _ (p1 a ha).1 _ w1
    have q2 := m1 _ (p1 b hb).1 _ w2
    rw [(p1 a ha).2, (p1 b hb).2] at q1 q2
    exact ⟨q1, q2⟩
  · have q1 := m2 _ (h1 a ha) _ w1
    have q2 := m2 _ (h1 b hb) _ w2
    rw [p2 a ha, p2 b hb] at q1 q2
    exact ⟨q1, q2⟩
/-- The back has the same parts. -/
theorem parts_back {W n W' : Nat} {l l' : List Bool} (hov : ∀ a, a < n → ∀ c, c < n → ov W' l' a c = ov W l c a) : (PL W n l).length = (PL W' n l').length ∧ ∀ r ∈ PL W n l, r ∈ PL W' n l' := by
  have hov' : ∀ a, a < n → ∀ c, c < n → ov W l a c = ov W' l' c a := fun a ha c hc => (hov c hc a ha).symm
  refine ⟨Nat.le_antisymm (parts_le id (fun a h => h) fun a ha b hb w1 w2 => ⟨wy_rev hov' w2 hb, wy_rev hov' w1 ha⟩) (parts_le id (fun a h => h) fun a ha b hb w1 w2 => ⟨wy_rev hov w2 hb, wy_rev hov w1 ha⟩), fun r hr => part_in ?_⟩
  have hp := PL_part hr
  refine ⟨hp.inc, hp.lt, hp.ne, fun x y hx => ?_⟩
  have hxn := hp.lt x hx
  rw [hp.mu x y hx]
  constructor
  · rintro ⟨h1, h2⟩
    exact ⟨wy_rev hov h2 (adj_lt h1 hxn), wy_rev hov h1 hxn⟩
  · rintro ⟨h1, h2⟩
    exact ⟨wy_rev hov' h2 (adj_lt h1 hxn), wy_rev hov' h1 hxn⟩
/-- The shifted cloth, thread by thread. -/
theorem ov_tab {W H n : Nat} (hN : W + H = n) {l : List Bool} (φ ψ : Nat → Nat) (f1 : ∀ x, x < W → φ x < W) (g1 : ∀ y, y < H → ψ y < H) : ∀ a, a < n → ∀ c, c < n → ov W (tabN W (uS W H l φ ψ) (W * H)) a c = ov W l (if a < W then φ a else W + ψ (a - W)) (if c < W then φ c else W + ψ (c - W)) := by
  intro a ha c hc
  have h : ∀ x y, x < W → y < H → (tabN W (uS W H l φ ψ) (W * H)).getD (W * y + x) false = l.getD (W * ψ y + φ x) false := fun x y hx hy => by rw [tabN_get _ _ hx (idx_lt hx hy)]; rfl
  generalize tabN W (uS W H l φ ψ) (W * H) = l' at *
  unfold ov
  by_cases h1 : a < W <;> by_cases h2 : c < W
  · have q1 := f1 a h1
    have q2 := f1 c h2
    simp only [if_pos h1, if_pos h2, if_pos q1, if_pos q2]
  · have q1 := f1 a h1
    have q2 : ¬ W + ψ (c - W) < W := by omega
    simp only [if_pos h1, if_neg h2, if_pos q1, if_neg q2]
    rw [h a (c - W) h1 (by omega), show W + ψ (c - W) - W = ψ (c - W) by omega]
  · have q2 := f1 c h2
    have q1 : ¬ W + ψ (a - W) < W := by omega
    simp only [if_neg h1, if_pos h2, if_neg q1, if_pos q2]
    rw [h c (a - W) h2 (by omega), show W + ψ (a - W) - W = ψ (a - W) by omega]
  · have q1 : ¬ W + ψ (a - W) < W := by omega
    have q2 : ¬ W + ψ (c - W) < W := by omega
    simp only [if_neg h1, if_neg h2, if_neg q1, if_neg q2]
theorem shN_inj {d : Int} {n : Nat} (hn : 0 < n) {x y : Nat} (hx : x < n) (hy : y < n) (he : shN d n x = shN d n y) : x = y := by
  have b1 := arM_bd ((x : Int) - d) (n := n) (by omega)
  have b2 := arM_bd ((y : Int) - d) (n := n) (by omega)
  unfold shN at he
  have := arM_inj (a := (x : Int) - d) (b := (y : Int) - d) (n := n) (by omega) (by omega) (by omega) (by omega)
  omega
theorem parts_shift {W H n : Nat} (hN : W + H = n) (hW : 0 < W) (hH : 0 < H) (l : List Bool) (dx dy : Int) : (PL W n l).length = (PL W n (tabN W (uS W H l (shN dx W) (shN dy H)) (W * H))).length := by
  refine parts_like (fun a => if a < W then shN dx W a else W + shN dy H (a - W)) (fun a ha => ?_) (fun a b ha hb he => ?_) (ov_tab hN _ _ (fun x _ => shN_lt hW x) fun y _ => shN_lt hH y)
  · show (if a < W then shN dx W a else W + shN dy H (a - W)) < n
    have := shN_lt (d := dx) hW a
    have := shN_lt (d := dy) hH (a - W)
    split <;> omega
  · replace he : (if a < W then shN dx W a else W + shN dy H (a - W)) = (if b < W then shN dx W b else W + shN dy H (b - W)) := he
    have q1 := shN_lt (d := dx) hW a
    have q2 := shN_lt (d := dx) hW b
    by_cases h1 : a < W <;> by_cases h2 : b < W
    · rw [if_pos h1, if_pos h2] at he
      exact shN_inj hW h1 h2 he
    · rw [if_pos h1, if_neg h2] at he; omega
    · rw [if_neg h1, if_pos h2] at he; omega
    · rw [if_neg h1, if_neg h2] at he
      have := shN_inj (d := dy) hH (show a - W < H by omega) (show b - W < H by omega) (by omega)
      omega
end Go.Proofs.YtmfddbhemknkfaaDoor

/- Chapter 11: the layers, by both. -/
set_option linter.unusedSimpArgs false
set_option linter.unusedVariables false
set_option maxRecDepth 100000
namespace Go.Proofs.YtmfddbhemknkfaaDoor
open Go Go.Proofs Go.AW

end Go.Proofs.YtmfddbhemknkfaaDoor

/- Chapter 11: layers compared. -/
set_option linter.unusedSimpArgs false
set_option linter.unusedVariables false
set_option maxRecDepth 100000
namespace Go.Proofs.YtmfddbhemknkfaaDoor
open Go Go.Proofs Go.AW

end Go.Proofs.YtmfddbhemknkfaaDoor

/- Grids shifted, mirrored, tiled: the walks. -/
set_option linter.unusedSimpArgs false
set_option linter.unusedVariables false
set_option maxRecDepth 100000
namespace Go.Proofs.YtmfddbhemknkfaaDoor
open Go Go.Proofs Go.AW

theorem around_c (a : Int) {n : Nat} (hn : 0 < n) (hn64 : n ≤ 1000) : Contract Tryd.prog 32 [I a, I n] (I (arM a n)) := by
  have hb := arM_bd a (n := n) (by omega)
  have h1 := Int.tmod_lt_of_pos a (show (0 : Int) < n by omega)
  have hr : aInt .rem .i64 a (n : Int) = some (.val (.int .i64 (a.tmod n))) := by
    simp only [aInt]; rw [if_neg (by omega)]
  by_cases c : a.tmod n < 0
  · have e : arM a n = a.tmod n + n := by unfold arM; rw [if_pos c]
    rw [e] at hb
    rw [e]
    generalize a.tmod n = r at *
    refine Contract.intro (effS [] false) 6 follows Tryd.func32 rfl rfl (by kernel_rfl) (Nat.le_of_ble_eq_true rfl) ?_
    simp (disch := first | assumption | omega | rfl | simp only [RH]) only [↓RP, RG, FX, RQ, ↓reduceIte, Nat.reduceEqDiff, reduceCtorEq, Nat.reduceBEq, Nat.reduceAdd, Nat.reduceLeDiff, args0_2, hr]
    rw [resVal_1 rfl]; simp (disch := first | assumption | omega | rfl | simp only [RH]) only [↓RP, RG, FX, RQ, ↓reduceIte, Nat.reduceEqDiff, reduceCtorEq, Nat.reduceBEq, Nat.reduceAdd, Nat.reduceLeDiff, RS]
    first | done | rfl
  · have e : arM a n = a.tmod n := by unfold arM; rw [if_neg c]
    rw [e]
    generalize a.tmod n = r at *
    refine Contract.intro (effS [] false) 6 follows Tryd.func32 rfl rfl (by kernel_rfl) (Nat.le_of_ble_eq_true rfl) ?_
    simp (disch := first | assumption | omega | rfl | simp only [RH]) only [↓RP, RG, FX, RQ, ↓reduceIte, Nat.reduceEqDiff, reduceCtorEq, Nat.reduceBEq, Nat.reduceAdd, Nat.reduceLeDiff, args0_2, hr]
    rw [resVal_1 rfl]; simp (disch := first | assumption | omega | rfl | simp only [RH]) only [↓RP, RG, FX, RQ, ↓reduceIte, Nat.reduceEqDiff, reduceCtorEq, Nat.reduceBEq, Nat.reduceAdd, Nat.reduceLeDiff, RS]
    first | done | rfl
section
variable {W H : Nat} (hW0 : 0 < W) (hH0 : 0 < H) (hW : W ≤ 64) (hH : H ≤ 64) (b : Bool) {l : List Bool} (hn : l.length = W * H)
include hW0 hH0 hW hH hn
theorem shiftF_c {dx dy : Int} (d1 : 0 ≤ dx ∧ dx < W) (d2 : 0 ≤ dy ∧ dy < H) {x y : Nat} (hx : x < W) (hy : y < H) :
    Contract Tryd.prog 33 [I x, I y, .spot false [I W, I H, BA b l], .spot false [I dy], .spot false [I dx]] (B (uS W H l (shN dx W) (shN dy H) x y)) := by
  have a1 := around_c ((x : Int) - dx) hW0 (by omega)
  have a2 := around_c ((y : Int) - dy) hH0 (by omega)
  have s1 := shN_lt (d := dx) hW0 x
  have s2 := shN_lt (d := dy) hH0 y
  have b1 := arM_bd ((x : Int) - dx) (n := W) (by omega)
  have b2 := arM_bd ((y : Int) - dy) (n := H) (by omega)
  have e1 : arM ((x : Int) - dx) W = (shN dx W x : Int) := by unfold shN; omega
  have e2 : arM ((y : Int) - dy) H = (shN dy H y : Int) := by unfold shN; omega
  rw [e1] at a1
  rw [e2] at a2
  unfold uS
  generalize shN dx W x = p at *
  generalize shN dy H y = q at *
  have hil := idx_lt s1 s2
  have hWH : W * H ≤ 64 * 64 := Nat.mul_le_mul hW hH
  have m1 : (q : Int) * (W : Int) = ((W * q : Nat) : Int) := by rw [Int.natCast_mul, Int.mul_comm]
  have m2 : ((W * q : Nat) : Int) + (p : Int) = ((W * q + p : Nat) : Int) := by omega
  refine Contract.intro (effS [] false) 6 follows Tryd.func33 rfl rfl (by kernel_rfl) (Nat.le_of_ble_eq_true rfl) ?_
  simp (disch := first | assumption | omega | rfl | simp only [RH]) only [↓RP, RG, FX, RQ, ↓reduceIte, Nat.reduceEqDiff, reduceCtorEq, Nat.reduceBEq, Nat.reduceAdd, Nat.reduceLeDiff, args0_5]
  refine callK_F 6 (a2) (by simp (disch := first | assumption | omega | rfl | simp only [RH]) only [↓RP, RG, FX, RQ, ↓reduceIte, Nat.reduceEqDiff, reduceCtorEq, Nat.reduceBEq, Nat.reduceAdd, Nat.reduceLeDiff, RA] <;> rfl) (.inl (by simp [allFresh, ints_fresh, bools_fresh])) ?_
  simp (disch := first | assumption | omega | rfl | simp only [RH]) only [↓RP, RG, FX, RQ, ↓reduceIte, Nat.reduceEqDiff, reduceCtorEq, Nat.reduceBEq, Nat.reduceAdd, Nat.reduceLeDiff]
  refine callK_F 6 (a1) (by simp (disch := first | assumption | omega | rfl | simp only [RH]) only [↓RP, RG, FX, RQ, ↓reduceIte, Nat.reduceEqDiff, reduceCtorEq, Nat.reduceBEq, Nat.reduceAdd, Nat.reduceLeDiff, RA] <;> rfl) (.inl (by simp [allFresh, ints_fresh, bools_fresh])) ?_
  simp (disch := first | assumption | omega | rfl | simp only [RH]) only [↓RP, RG, FX, RQ, ↓reduceIte, Nat.reduceEqDiff, reduceCtorEq, Nat.reduceBEq, Nat.reduceAdd, Nat.reduceLeDiff, m1, m2, Int.toNat_natCast]
  rw [resVal_1 rfl]; simp (disch := first | assumption | omega | rfl | simp only [RH]) only [↓RP, RG, FX, RQ, ↓reduceIte, Nat.reduceEqDiff, reduceCtorEq, Nat.reduceBEq, Nat.reduceAdd, Nat.reduceLeDiff, RS]
  first | done | rfl
theorem shiftP_c (dx dy : Int) : Contract Tryd.prog 12 [GA W H b l, I dx, I dy] (.tuple [GR W H false (tabN W (uS W H l (shN (arM dx W) W) (shN (arM dy H) H)) (W * H)), I 0]) := by
  have hz : gchk W H l.length = 0 := gchk_ok ⟨by omega, by omega, by omega, by omega, by rw [hn, Int.natCast_mul]⟩
  have hck := gcheckP_c W H b l
  rw [hz] at hck
  have a1 := around_c dx hW0 (by omega)
  have a2 := around_c dy hH0 (by omega)
  have b1 := arM_bd dx (n := W) (by omega)
  have b2 := arM_bd dy (n := H) (by omega)
  have hF := fun x y hx hy => shiftF_c hW0 hH0 hW hH b hn b1 b2 (x := x) (y := y) hx hy
  generalize arM dx W = ex at *
  generalize arM dy H = ey at *
  refine Contract.intro (effS [] false) 6 follows Tryd.func12 rfl rfl (by kernel_rfl) (Nat.le_of_ble_eq_true rfl) ?_
  simp (disch := first | assumption | omega | rfl | simp only [RH]) only [↓RP, RG, FX, RQ, ↓reduceIte, Nat.reduceEqDiff, reduceCtorEq, Nat.reduceBEq, Nat.reduceAdd, Nat.reduceLeDiff, args0_3]
  refine callK_F 6 (hck) (by simp (disch := first | assumption | omega | rfl | simp only [RH]) only [↓RP, RG, FX, RQ, ↓reduceIte, Nat.reduceEqDiff, reduceCtorEq, Nat.reduceBEq, Nat.reduceAdd, Nat.reduceLeDiff, RA] <;> rfl) (.inl (by simp [allFresh, ints_fresh, bools_fresh])) ?_
  simp (disch := first | assumption | omega | rfl | simp only [RH]) only [↓RP, RG, FX, RQ, ↓reduceIte, Nat.reduceEqDiff, reduceCtorEq, Nat.reduceBEq, Nat.reduceAdd, Nat.reduceLeDiff]
  refine callK_F 6 (a1) (by simp (disch := first | assumption | omega | rfl | simp only [RH]) only [↓RP, RG, FX, RQ, ↓reduceIte, Nat.reduceEqDiff, reduceCtorEq, Nat.reduceBEq, Nat.reduceAdd, Nat.reduceLeDiff, RA] <;> rfl) (.inl (by simp [allFresh, ints_fresh, bools_fresh])) ?_
  simp (disch := first | assumption | omega | rfl | simp only [RH]) only [↓RP, RG, FX, RQ, ↓reduceIte, Nat.reduceEqDiff, reduceCtorEq, Nat.reduceBEq, Nat.reduceAdd, Nat.reduceLeDiff]
  refine callK_F 6 (a2) (by simp (disch := first | assumption | omega | rfl | simp only [RH]) only [↓RP, RG, FX, RQ, ↓reduceIte, Nat.reduceEqDiff, reduceCtorEq, Nat.reduceBEq, Nat.reduceAdd, Nat.reduceLeDiff, RA] <;> rfl) (.inl (by simp [allFresh, ints_fresh, bools_fresh])) ?_
  simp (disch := first | assumption | omega | rfl | simp only [RH]) only [↓RP, RG, FX, RQ, ↓reduceIte, Nat.reduceEqDiff, reduceCtorEq, Nat.reduceBEq, Nat.reduceAdd, Nat.reduceLeDiff]
  refine callK_F 6 (build_c 33 [.spot false [I W, I H, BA b l], .spot false [I ey], .spot false [I ex]] W H (uS W H l (shN ex W) (shN ey H)) (by omega) (by omega) (fun r => by simp [argOf]; exact bools_arg l r 3) hF) (by simp (disch := first | assumption | omega | rfl | simp only [RH]) only [↓RP, RG, FX, RQ, ↓reduceIte, Nat.reduceEqDiff, reduceCtorEq, Nat.reduceBEq, Nat.reduceAdd, Nat.reduceLeDiff, RA] <;> rfl) (.inl (by simp [allFresh, ints_fresh, bools_fresh])) ?_
  simp (disch := first | assumption | omega | rfl | simp only [RH]) only [↓RP, RG, FX, RQ, ↓reduceIte, Nat.reduceEqDiff, reduceCtorEq, Nat.reduceBEq, Nat.reduceAdd, Nat.reduceLeDiff]
  rw [resVal_2 rfl]; simp (disch := first | assumption | omega | rfl | simp only [RH]) only [↓RP, RG, FX, RQ, ↓reduceIte, Nat.reduceEqDiff, reduceCtorEq, Nat.reduceBEq, Nat.reduceAdd, Nat.reduceLeDiff, RS]
  first | done | rfl
end
end Go.Proofs.YtmfddbhemknkfaaDoor

/- Threads of a cloth: limits, sets of threads. -/
set_option linter.unusedSimpArgs false
set_option linter.unusedVariables false
set_option maxRecDepth 100000
namespace Go.Proofs.YtmfddbhemknkfaaDoor
open Go Go.Proofs Go.AW

instance (w h n : Int) : Decidable (gOk w h n) := by unfold gOk; infer_instance

/-- A cloth that chapter 10's statements pass over. -/
def great10 (w h n : Int) : Prop := 200 < n ∨ gOk w h n ∧ 24 < w + h
instance (w h n : Int) : Decidable (great10 w h n) := by unfold great10; infer_instance

/-- The first k of a list of threads ascend. -/
def ascTo (n : Int) (l : List Int) (k : Nat) : Prop := ∀ i, i < k → 0 ≤ l.getD i 0 ∧ l.getD i 0 < n ∧ (0 < i → l.getD (i - 1) 0 < l.getD i 0)
theorem ascTo_zero (n : Int) (l : List Int) : ascTo n l 0 := fun i hi => by omega
theorem ascTo_succ {n : Int} {l : List Int} {k : Nat} (h : ascTo n l k) (h1 : 0 ≤ l.getD k 0) (h2 : l.getD k 0 < n) (h3 : 0 < k → l.getD (k - 1) 0 < l.getD k 0) : ascTo n l (k + 1) := by
  intro i hi
  by_cases hk : i < k
  · exact h i hk
  · obtain rfl : i = k := by omega
    exact ⟨h1, h2, h3⟩

end Go.Proofs.YtmfddbhemknkfaaDoor

/- The cloth of only some threads. -/
set_option linter.unusedSimpArgs false
set_option linter.unusedVariables false
set_option maxRecDepth 100000
namespace Go.Proofs.YtmfddbhemknkfaaDoor
open Go Go.Proofs Go.AW

/-- Ends and picks among the first k threads of a list. -/
def endsOf (w : Int) (s : List Int) : Nat → List Int
  | 0 => []
  | k + 1 => if s.getD k 0 < w then endsOf w s k ++ [s.getD k 0] else endsOf w s k
def picksOf (w : Int) (s : List Int) : Nat → List Int
  | 0 => []
  | k + 1 => if s.getD k 0 < w then picksOf w s k else picksOf w s k ++ [s.getD k 0 - w]
theorem endsOf_len (w : Int) (s : List Int) (k : Nat) : (endsOf w s k).length + (picksOf w s k).length = k := by
  induction k with
  | zero => rfl
  | succ k ih => simp only [endsOf, picksOf]; split <;> simp <;> omega
theorem endsOf_in {w n : Int} {s : List Int} {k : Nat} (h : ascTo n s k) : ∀ j, j < (endsOf w s k).length → 0 ≤ (endsOf w s k).getD j 0 ∧ (endsOf w s k).getD j 0 < w := by
  induction k with
  | zero => intro j hj; simp [endsOf] at hj
  | succ k ih =>
    have ih := ih (fun i hi => h i (by omega))
    intro j hj
    simp only [endsOf] at hj ⊢
    split at hj
    · rename_i hlt
      rw [if_pos hlt]
      by_cases hj2 : j < (endsOf w s k).length
      · simpa [List.getD_eq_getElem?_getD, List.getElem?_append_left hj2] using ih j hj2
      · obtain rfl : j = (endsOf w s k).length := by simp at hj; omega
        have := h k (by omega)
        simp [List.getD_eq_getElem?_getD] at this hlt ⊢
        omega
    · rename_i hlt
      rw [if_neg hlt]
      exact ih j hj
theorem picksOf_in {w n : Int} {s : List Int} {k : Nat} (h : ascTo n s k) : ∀ j, j < (picksOf w s k).length → 0 ≤ (picksOf w s k).getD j 0 ∧ (picksOf w s k).getD j 0 < n - w := by
  induction k with
  | zero => intro j hj; simp [picksOf] at hj
  | succ k ih =>
    have ih := ih (fun i hi => h i (by omega))
    intro j hj
    simp only [picksOf] at hj ⊢
    split at hj
    · rename_i hlt
      rw [if_pos hlt]
      exact ih j hj
    · rename_i hlt
      rw [if_neg hlt]
      by_cases hj2 : j < (picksOf w s k).length
      · simpa [List.getD_eq_getElem?_getD, List.getElem?_append_left hj2] using ih j hj2
      · obtain rfl : j = (picksOf w s k).length := by simp at hj; omega
        have := h k (by omega)
        simp [List.getD_eq_getElem?_getD] at this hlt ⊢
        omega

abbrev LayR (e p : List Int) : AVal := .agg [LR e.isEmpty e, LR p.isEmpty p]

theorem layer_c (w h : Int) (b : Bool) (l : List Bool) (b2 : Bool) (s : List Int) (h1 : 1 ≤ w) (h2 : w ≤ 64) (hs : ascTo 128 s s.length) (hl : s.length ≤ 1000000) : Contract Tryd.prog 34 [GA w h b l, LA b2 s] (LayR (endsOf w s s.length) (picksOf w s s.length)) := by
  refine Contract.intro (effS [] false) 6 follows Tryd.func34 rfl rfl (by kernel_rfl) (Nat.le_of_ble_eq_true rfl) ?_
  simp (disch := first | assumption | omega | rfl | simp only [RH]) only [↓RP, RG, FX, RQ, ↓reduceIte, Nat.reduceEqDiff, reduceCtorEq, Nat.reduceBEq, Nat.reduceAdd, Nat.reduceLeDiff, args0_2]
  refine loopK_W [2, 4, 5, 8, 9, 10] (fun k : Nat => k ≤ s.length) (fun k : Nat => ⟨[(2, .ptr 0 0 3), (4, .ptr 1 0 2), (5, .ptr 2 0 2), (8, LA b2 s), (9, I s.length), (10, I k)], [⟨24, 3, [I w, I h, BA b l]⟩, ⟨52, 2, [.cap0 true, .cap0 true]⟩, ⟨52, 2, [gw true 3 (ints (endsOf w s k)), gw true 4 (ints (picksOf w s k))]⟩, go 3 (ints (endsOf w s k)), go 3 (ints (picksOf w s k))]⟩) (fun k => s.length - k) 0 (by omega) ?_ ?_
  · simp only [↓RP, RG, FX, RQ, ↓reduceIte, Nat.reduceEqDiff, reduceCtorEq, Nat.reduceBEq, Nat.reduceAdd, Nat.reduceLeDiff]
    exact Wk.weak (fun t => .refl _) (.cons _ _ _ _ (WL.refl _) (.cons _ _ _ _ (WL.refl _) (.cons _ _ _ _ (.cons (.nil _) (.cons (.nil _) .nil)) (.nil _ (by simp [go, endsOf, picksOf, ints])))))
  intro k hk
  have hlen := endsOf_len w s k
  by_cases hlt : k < s.length
  · have hin := hs k hlt
    by_cases hw : s.getD k 0 < w
    · simp (disch := first | assumption | omega | rfl | simp only [RH]) only [↓RP, RG, FX, RQ, ↓reduceIte, Nat.reduceEqDiff, reduceCtorEq, Nat.reduceBEq, Nat.reduceAdd, Nat.reduceLeDiff, append_int]
      exact ⟨k + 1, by omega, by rw [endsOf, picksOf, if_pos hw, if_pos hw]; rfl, by omega⟩
    · simp (disch := first | assumption | omega | rfl | simp only [RH]) only [↓RP, RG, FX, RQ, ↓reduceIte, Nat.reduceEqDiff, reduceCtorEq, Nat.reduceBEq, Nat.reduceAdd, Nat.reduceLeDiff, append_int]
      exact ⟨k + 1, by omega, by rw [endsOf, picksOf, if_neg hw, if_neg hw]; rfl, by omega⟩
  · obtain rfl : k = s.length := by omega
    simp (disch := first | assumption | omega | rfl | simp only [RH]) only [↓RP, RG, FX, RQ, ↓reduceIte, Nat.reduceEqDiff, reduceCtorEq, Nat.reduceBEq, Nat.reduceAdd, Nat.reduceLeDiff]
    rw [resVal_1 rfl]; simp (disch := first | assumption | omega | rfl | simp only [RH]) only [↓RP, RG, FX, RQ, ↓reduceIte, Nat.reduceEqDiff, reduceCtorEq, Nat.reduceBEq, Nat.reduceAdd, Nat.reduceLeDiff, RS]
    simp only [Bool.true_and, ints_isEmpty]

end Go.Proofs.YtmfddbhemknkfaaDoor

/- The cloth of only some threads: the program's answer. -/
set_option linter.unusedSimpArgs false
set_option linter.unusedVariables false
set_option maxRecDepth 100000
namespace Go.Proofs.YtmfddbhemknkfaaDoor
open Go Go.Proofs Go.AW

def uO (w : Int) (l : List Bool) (e p : List Int) (x y : Nat) : Bool := cell w l (e.getD x 0) (p.getD y 0)
abbrev GNo : AVal := .agg [I 0, I 0, .list true true 0 []]

/-- The last thread seen. -/
def lastOf (s : List Int) (k : Nat) : Int := if k = 0 then -1 else s.getD (k - 1) 0

theorem onlyP_no (w h : Int) (b : Bool) (l : List Bool) (b2 : Bool) (s : List Int) (hg : gOk w h l.length) (hl : s.length ≤ 1000) (hs : ¬ ascTo (w + h) s s.length) : Contract Tryd.prog 14 [GA w h b l, LA b2 s] (.tuple [GNo, I 2]) := by
  have hz := gchk_ok hg
  obtain ⟨h1, h2, h3, h4, h5⟩ := id hg
  refine Contract.intro (effS [] false) 6 follows Tryd.func14 rfl rfl (by kernel_rfl) (Nat.le_of_ble_eq_true rfl) ?_
  simp (disch := first | assumption | omega | rfl | simp only [RH]) only [↓RP, RG, FX, RQ, ↓reduceIte, Nat.reduceEqDiff, reduceCtorEq, Nat.reduceBEq, Nat.reduceAdd, Nat.reduceLeDiff, args0_2]
  refine callK_F 6 (gcheckP_c w h b l) (by simp (disch := first | assumption | omega | rfl | simp only [RH]) only [↓RP, RG, FX, RQ, ↓reduceIte, Nat.reduceEqDiff, reduceCtorEq, Nat.reduceBEq, Nat.reduceAdd, Nat.reduceLeDiff, RA] <;> rfl) (.inl (by simp [allFresh, ints_fresh, bools_fresh])) ?_
  simp (disch := first | assumption | omega | rfl | simp only [RH]) only [↓RP, RG, FX, RQ, ↓reduceIte, Nat.reduceEqDiff, reduceCtorEq, Nat.reduceBEq, Nat.reduceAdd, Nat.reduceLeDiff, hz]
  refine loopK_I [1, 2, 4, 5, 7, 22, 23, 24] (fun k : Nat => k ≤ s.length ∧ ascTo (w + h) s k) (fun k : Nat => ⟨[(1, LA b2 s), (2, .ptr 0 0 3), (4, .ptr 1 0 3), (5, I 0), (7, I (lastOf s k)), (22, LA b2 s), (23, I s.length), (24, I k)], [⟨24, 3, [I w, I h, BA b l]⟩, ⟨24, 3, [I 0, I 0, .cap0 true]⟩]⟩) (fun k => s.length - k) 0 ⟨by omega, ascTo_zero _ _⟩ (by simp only [↓RP, RG, FX, RQ, ↓reduceIte, Nat.reduceEqDiff, reduceCtorEq, Nat.reduceBEq, Nat.reduceAdd, Nat.reduceLeDiff]; rfl) ?_
  rintro k ⟨hk, hak⟩
  by_cases hlt : k < s.length
  · by_cases ha : s.getD k 0 ≤ lastOf s k
    · simp (disch := first | assumption | omega | rfl | simp only [RH]) only [↓RP, RG, FX, RQ, ↓reduceIte, Nat.reduceEqDiff, reduceCtorEq, Nat.reduceBEq, Nat.reduceAdd, Nat.reduceLeDiff]
      rw [resVal_2 rfl]; simp (disch := first | assumption | omega | rfl | simp only [RH]) only [↓RP, RG, FX, RQ, ↓reduceIte, Nat.reduceEqDiff, reduceCtorEq, Nat.reduceBEq, Nat.reduceAdd, Nat.reduceLeDiff, RS]
    · by_cases hb : w + h ≤ s.getD k 0
      · simp (disch := first | assumption | omega | rfl | simp only [RH]) only [↓RP, RG, FX, RQ, ↓reduceIte, Nat.reduceEqDiff, reduceCtorEq, Nat.reduceBEq, Nat.reduceAdd, Nat.reduceLeDiff]
        rw [resVal_2 rfl]; simp (disch := first | assumption | omega | rfl | simp only [RH]) only [↓RP, RG, FX, RQ, ↓reduceIte, Nat.reduceEqDiff, reduceCtorEq, Nat.reduceBEq, Nat.reduceAdd, Nat.reduceLeDiff, RS]
      · simp (disch := first | assumption | omega | rfl | simp only [RH]) only [↓RP, RG, FX, RQ, ↓reduceIte, Nat.reduceEqDiff, reduceCtorEq, Nat.reduceBEq, Nat.reduceAdd, Nat.reduceLeDiff]
        refine ⟨k + 1, ⟨by omega, ascTo_succ hak ?_ (by omega) ?_⟩, by simp [lastOf], by omega⟩
        · unfold lastOf at ha
          split at ha
          · omega
          · have := hak (k - 1) (by omega); omega
        · intro h0
          unfold lastOf at ha
          rw [if_neg (by omega)] at ha
          omega
  · obtain rfl : k = s.length := by omega
    exact absurd hak hs

theorem onlyP_ok (w h : Int) (b : Bool) (l : List Bool) (b2 : Bool) (s : List Int) (hg : gOk w h l.length) (hl : s.length ≤ 40) (hs : ascTo (w + h) s s.length) (E P : List Int) (hE : E = endsOf w s s.length) (hP : P = picksOf w s s.length) : Contract Tryd.prog 14 [GA w h b l, LA b2 s]
    (.tuple (if E.length = 0 ∨ P.length = 0 then [GNo, I 22] else [GR E.length P.length false (tabN E.length (uO w l E P) (E.length * P.length)), I 0])) := by
  have hz := gchk_ok hg
  obtain ⟨h1, h2, h3, h4, h5⟩ := id hg
  have hEP := endsOf_len w s s.length
  have hEi := endsOf_in (w := w) hs
  have hPi := picksOf_in (w := w) hs
  have hsum := endsOf_len w s s.length
  have hly := layer_c w h b l b2 s h1 h2 (fun i hi => by have := hs i hi; omega) (by omega)
  rw [← hE] at hEi hly hsum
  rw [← hP] at hPi hly hsum
  refine Contract.intro (effS [] false) 6 follows Tryd.func14 rfl rfl (by kernel_rfl) (Nat.le_of_ble_eq_true rfl) ?_
  simp (disch := first | assumption | omega | rfl | simp only [RH]) only [↓RP, RG, FX, RQ, ↓reduceIte, Nat.reduceEqDiff, reduceCtorEq, Nat.reduceBEq, Nat.reduceAdd, Nat.reduceLeDiff, args0_2]
  refine callK_F 6 (gcheckP_c w h b l) (by simp (disch := first | assumption | omega | rfl | simp only [RH]) only [↓RP, RG, FX, RQ, ↓reduceIte, Nat.reduceEqDiff, reduceCtorEq, Nat.reduceBEq, Nat.reduceAdd, Nat.reduceLeDiff, RA] <;> rfl) (.inl (by simp [allFresh, ints_fresh, bools_fresh])) ?_
  simp (disch := first | assumption | omega | rfl | simp only [RH]) only [↓RP, RG, FX, RQ, ↓reduceIte, Nat.reduceEqDiff, reduceCtorEq, Nat.reduceBEq, Nat.reduceAdd, Nat.reduceLeDiff, hz]
  refine loopK_I [1, 2, 4, 5, 7, 22, 23, 24] (fun k : Nat => k ≤ s.length) (fun k : Nat => ⟨[(1, LA b2 s), (2, .ptr 0 0 3), (4, .ptr 1 0 3), (5, I 0), (7, I (lastOf s k)), (22, LA b2 s), (23, I s.length), (24, I k)], [⟨24, 3, [I w, I h, BA b l]⟩, ⟨24, 3, [I 0, I 0, .cap0 true]⟩]⟩) (fun k => s.length - k) 0 (by omega) (by simp only [↓RP, RG, FX, RQ, ↓reduceIte, Nat.reduceEqDiff, reduceCtorEq, Nat.reduceBEq, Nat.reduceAdd, Nat.reduceLeDiff]; rfl) ?_
  intro k hk
  by_cases hlt : k < s.length
  · have hin := hs k hlt
    have ha : ¬ s.getD k 0 ≤ lastOf s k := by
      unfold lastOf
      split
      · omega
      · have := hin.2.2 (by omega); omega
    simp (disch := first | assumption | omega | rfl | simp only [RH]) only [↓RP, RG, FX, RQ, ↓reduceIte, Nat.reduceEqDiff, reduceCtorEq, Nat.reduceBEq, Nat.reduceAdd, Nat.reduceLeDiff]
    exact ⟨k + 1, by omega, by simp [lastOf], by omega⟩
  obtain rfl : k = s.length := by omega
  simp (disch := first | assumption | omega | rfl | simp only [RH]) only [↓RP, RG, FX, RQ, ↓reduceIte, Nat.reduceEqDiff, reduceCtorEq, Nat.reduceBEq, Nat.reduceAdd, Nat.reduceLeDiff]
  refine callK_F 6 (hly) (by simp (disch := first | assumption | omega | rfl | simp only [RH]) only [↓RP, RG, FX, RQ, ↓reduceIte, Nat.reduceEqDiff, reduceCtorEq, Nat.reduceBEq, Nat.reduceAdd, Nat.reduceLeDiff, RA] <;> rfl) (.inl (by simp [allFresh, ints_fresh, bools_fresh])) ?_
  by_cases he : E.length = 0
  · rw [if_pos (.inl he)]
    simp (disch := first | assumption | omega | rfl | simp only [RH]) only [↓RP, RG, FX, RQ, ↓reduceIte, Nat.reduceEqDiff, reduceCtorEq, Nat.reduceBEq, Nat.reduceAdd, Nat.reduceLeDiff]
    rw [resVal_2 rfl]; simp (disch := first | assumption | omega | rfl | simp only [RH]) only [↓RP, RG, FX, RQ, ↓reduceIte, Nat.reduceEqDiff, reduceCtorEq, Nat.reduceBEq, Nat.reduceAdd, Nat.reduceLeDiff, RS]
  by_cases hp : P.length = 0
  · rw [if_pos (.inr hp)]
    simp (disch := first | assumption | omega | rfl | simp only [RH]) only [↓RP, RG, FX, RQ, ↓reduceIte, Nat.reduceEqDiff, reduceCtorEq, Nat.reduceBEq, Nat.reduceAdd, Nat.reduceLeDiff]
    rw [resVal_2 rfl]; simp (disch := first | assumption | omega | rfl | simp only [RH]) only [↓RP, RG, FX, RQ, ↓reduceIte, Nat.reduceEqDiff, reduceCtorEq, Nat.reduceBEq, Nat.reduceAdd, Nat.reduceLeDiff, RS]
  rw [if_neg (by omega)]
  simp (disch := first | assumption | omega | rfl | simp only [RH]) only [↓RP, RG, FX, RQ, ↓reduceIte, Nat.reduceEqDiff, reduceCtorEq, Nat.reduceBEq, Nat.reduceAdd, Nat.reduceLeDiff]
  have hpos := tabN_pos (show 0 < E.length by omega) (show 0 < P.length by omega) (uO w l E P)
  refine loopK_W [2, 4, 10, 11, 63, 64, 65] (fun y : Nat => y ≤ P.length) (fun y : Nat => ⟨[(2, .ptr 0 0 3), (4, .ptr 1 0 3), (10, .ptr 2 0 2), (11, .ptr 3 0 3), (63, LR P.isEmpty P), (64, I P.length), (65, I y)], [⟨24, 3, [I w, I h, BA b l]⟩, ⟨24, 3, [I 0, I 0, .cap0 true]⟩, ⟨52, 2, [LR E.isEmpty E, LR P.isEmpty P]⟩, ⟨24, 3, [I E.length, I P.length, gw true 4 (bools (tabN E.length (uO w l E P) (E.length * y)))]⟩, go 4 (bools (tabN E.length (uO w l E P) (E.length * y)))]⟩) (fun y => P.length - y) 0 (by omega) ?_ ?_
  · simp only [↓RP, RG, FX, RQ, ↓reduceIte, Nat.reduceEqDiff, reduceCtorEq, Nat.reduceBEq, Nat.reduceAdd, Nat.reduceLeDiff]
    exact Wk.weak (fun t => .refl _) (.cons _ _ _ _ (WL.refl _) (.cons _ _ _ _ (WL.refl _) (.cons _ _ _ _ (WL.refl _) (.cons _ _ _ _ (.cons (.refl _) (.cons (.refl _) (.cons (.nil _) .nil))) (.nil _ (by simp [go, bools, tabN]))))))
  intro y hy
  by_cases hy2 : y < P.length
  · simp (disch := first | assumption | omega | rfl | simp only [RH]) only [↓RP, RG, FX, RQ, ↓reduceIte, Nat.reduceEqDiff, reduceCtorEq, Nat.reduceBEq, Nat.reduceAdd, Nat.reduceLeDiff]
    refine loopK_I [2, 4, 10, 11, 13, 63, 64, 65, 70, 71, 72] (fun x : Nat => x ≤ E.length) (fun x : Nat => ⟨[(2, .ptr 0 0 3), (4, .ptr 1 0 3), (10, .ptr 2 0 2), (11, .ptr 3 0 3), (13, I (P.getD y 0)), (63, LR P.isEmpty P), (64, I P.length), (65, I y), (70, LR E.isEmpty E), (71, I E.length), (72, I x)], [⟨24, 3, [I w, I h, BA b l]⟩, ⟨24, 3, [I 0, I 0, .cap0 true]⟩, ⟨52, 2, [LR E.isEmpty E, LR P.isEmpty P]⟩, ⟨24, 3, [I E.length, I P.length, gw true 4 (bools (tabN E.length (uO w l E P) (E.length * y + x)))]⟩, go 4 (bools (tabN E.length (uO w l E P) (E.length * y + x)))]⟩) (fun x => E.length - x) 0 (by omega) (by simp only [↓RP, RG, FX, RQ, ↓reduceIte, Nat.reduceEqDiff, reduceCtorEq, Nat.reduceBEq, Nat.reduceAdd, Nat.reduceLeDiff]; rfl) ?_
    intro x hx
    by_cases hx2 : x < E.length
    · have he1 := hEi x hx2
      have hp1 := hPi y hy2
      have hcb := cell_bd (a := P.getD y 0) (b := E.getD x 0) (s := h) (t := w) hp1.1 (by omega) he1.1 he1.2
      have hcm := Int.mul_comm h w
      have hpr := prod64 (w := w) (h := h) (by omega) (by omega) (by omega) (by omega)
      have hb : (tabN E.length (uO w l E P) (E.length * y + x)).length ≤ 1000000000 := by
        rw [tabN_len]
        have : E.length * y ≤ 40 * 40 := Nat.mul_le_mul (by omega) (by omega)
        omega
      simp (disch := first | assumption | omega | rfl | simp only [RH]) only [↓RP, RG, FX, RQ, ↓reduceIte, Nat.reduceEqDiff, reduceCtorEq, Nat.reduceBEq, Nat.reduceAdd, Nat.reduceLeDiff, append_bool]
      exact ⟨x + 1, by omega, by rw [show E.length * y + (x + 1) = E.length * y + x + 1 from rfl, tabN_succ E.length (uO w l E P) hx2]; rfl, by omega⟩
    · obtain rfl : x = E.length := by omega
      simp (disch := first | assumption | omega | rfl | simp only [RH]) only [↓RP, RG, FX, RQ, ↓reduceIte, Nat.reduceEqDiff, reduceCtorEq, Nat.reduceBEq, Nat.reduceAdd, Nat.reduceLeDiff]
      exact ⟨y + 1, by omega, rfl, by omega⟩
  · obtain rfl : y = P.length := by omega
    simp (disch := first | assumption | omega | rfl | simp only [RH]) only [↓RP, RG, FX, RQ, ↓reduceIte, Nat.reduceEqDiff, reduceCtorEq, Nat.reduceBEq, Nat.reduceAdd, Nat.reduceLeDiff]
    rw [resVal_2 rfl]; simp (disch := first | assumption | omega | rfl | simp only [RH]) only [↓RP, RG, FX, RQ, ↓reduceIte, Nat.reduceEqDiff, reduceCtorEq, Nat.reduceBEq, Nat.reduceAdd, Nat.reduceLeDiff, RS]
    first | done | (rw [bools_isEmpty]; cases hT : tabN E.length (uO w l E P) (E.length * P.length) with | nil => rw [hT] at hpos; simp [bools] at hpos | cons a r => rfl)
end Go.Proofs.YtmfddbhemknkfaaDoor

/- Chapter 11: the cloths that its statements speak of. -/
set_option linter.unusedSimpArgs false
set_option linter.unusedVariables false
set_option maxRecDepth 100000
namespace Go.Proofs.YtmfddbhemknkfaaDoor
open Go Go.Proofs Go.AW

/-- A cloth that chapter 11's statements speak of. -/
def vlE (w h : Int) (l : List Bool) : Prop := ¬ 200 < (l.length : Int) ∧ gchk w h l.length = 0 ∧ w + h ≤ 24
theorem vlE_nat {w h : Int} {l : List Bool} (hv : vlE w h l) : ∃ W H n : Nat, w = W ∧ h = H ∧ W + H = n ∧ 0 < W ∧ 0 < H ∧ n ≤ 24 ∧ l.length = W * H := by
  obtain ⟨h1, hz, h2⟩ := hv
  obtain ⟨g1, g2, g3, g4, g5⟩ := gchk_iff.1 hz
  refine ⟨w.toNat, h.toNat, w.toNat + h.toNat, by omega, by omega, rfl, by omega, by omega, by omega, ?_⟩
  have e1 : ((w.toNat * h.toNat : Nat) : Int) = (w.toNat : Int) * h.toNat := Int.natCast_mul _ _
  rw [show ((w.toNat : Nat) : Int) = w by omega, show ((h.toNat : Nat) : Int) = h by omega] at e1
  omega
theorem valid11_c (w h : Int) (b : Bool) (l : List Bool) (r : Bool) (hr : r = true ↔ vlE w h l) : Contract Tryd.prog 5 [GA w h b l] (B r) := by
  have hno : ¬ vlE w h l → r = false := fun hn => by
    cases r with
    | false => rfl
    | true => exact absurd (hr.1 rfl) hn
  by_cases c1 : 200 < (l.length : Int)
  · obtain rfl := hno fun hv => hv.1 c1
    refine Contract.intro (effS [] false) 6 follows Tryd.func5 rfl rfl (by kernel_rfl) (Nat.le_of_ble_eq_true rfl) ?_
    simp (disch := first | assumption | omega | rfl | simp only [RH]) only [↓RP, RG, FX, RQ, ↓reduceIte, Nat.reduceEqDiff, reduceCtorEq, Nat.reduceBEq, Nat.reduceAdd, Nat.reduceLeDiff, args0_1]
    refine callK_F 6 (great10_a w h b l c1) (by simp (disch := first | assumption | omega | rfl | simp only [RH]) only [↓RP, RG, FX, RQ, ↓reduceIte, Nat.reduceEqDiff, reduceCtorEq, Nat.reduceBEq, Nat.reduceAdd, Nat.reduceLeDiff, RA] <;> rfl) (.inl (by simp [allFresh, ints_fresh, bools_fresh])) ?_
    simp (disch := first | assumption | omega | rfl | simp only [RH]) only [↓RP, RG, FX, RQ, ↓reduceIte, Nat.reduceEqDiff, reduceCtorEq, Nat.reduceBEq, Nat.reduceAdd, Nat.reduceLeDiff]
    rw [resVal_1 rfl]; simp (disch := first | assumption | omega | rfl | simp only [RH]) only [↓RP, RG, FX, RQ, ↓reduceIte, Nat.reduceEqDiff, reduceCtorEq, Nat.reduceBEq, Nat.reduceAdd, Nat.reduceLeDiff, RS]
  by_cases hz : gchk w h l.length = 0
  · obtain ⟨g1, g2, g3, g4, g5⟩ := gchk_iff.1 hz
    obtain ⟨W, rfl⟩ : ∃ W : Nat, w = W := ⟨w.toNat, by omega⟩
    obtain ⟨H, rfl⟩ : ∃ H : Nat, h = H := ⟨h.toNat, by omega⟩
    have hG := great10_c W H b l c1 hz (by omega) (by omega)
    by_cases c3 : 24 < (W : Int) + H
    · rw [decide_eq_true c3] at hG
      obtain rfl := hno fun hv => by have := hv.2.2; omega
      refine Contract.intro (effS [] false) 6 follows Tryd.func5 rfl rfl (by kernel_rfl) (Nat.le_of_ble_eq_true rfl) ?_
      simp (disch := first | assumption | omega | rfl | simp only [RH]) only [↓RP, RG, FX, RQ, ↓reduceIte, Nat.reduceEqDiff, reduceCtorEq, Nat.reduceBEq, Nat.reduceAdd, Nat.reduceLeDiff, args0_1]
      refine callK_F 6 (hG) (by simp (disch := first | assumption | omega | rfl | simp only [RH]) only [↓RP, RG, FX, RQ, ↓reduceIte, Nat.reduceEqDiff, reduceCtorEq, Nat.reduceBEq, Nat.reduceAdd, Nat.reduceLeDiff, RA] <;> rfl) (.inl (by simp [allFresh, ints_fresh, bools_fresh])) ?_
      simp (disch := first | assumption | omega | rfl | simp only [RH]) only [↓RP, RG, FX, RQ, ↓reduceIte, Nat.reduceEqDiff, reduceCtorEq, Nat.reduceBEq, Nat.reduceAdd, Nat.reduceLeDiff]
      rw [resVal_1 rfl]; simp (disch := first | assumption | omega | rfl | simp only [RH]) only [↓RP, RG, FX, RQ, ↓reduceIte, Nat.reduceEqDiff, reduceCtorEq, Nat.reduceBEq, Nat.reduceAdd, Nat.reduceLeDiff, RS]
    · rw [decide_eq_false c3] at hG
      obtain rfl := hr.2 ⟨c1, hz, by omega⟩
      refine Contract.intro (effS [] false) 6 follows Tryd.func5 rfl rfl (by kernel_rfl) (Nat.le_of_ble_eq_true rfl) ?_
      simp (disch := first | assumption | omega | rfl | simp only [RH]) only [↓RP, RG, FX, RQ, ↓reduceIte, Nat.reduceEqDiff, reduceCtorEq, Nat.reduceBEq, Nat.reduceAdd, Nat.reduceLeDiff, args0_1]
      refine callK_F 6 (hG) (by simp (disch := first | assumption | omega | rfl | simp only [RH]) only [↓RP, RG, FX, RQ, ↓reduceIte, Nat.reduceEqDiff, reduceCtorEq, Nat.reduceBEq, Nat.reduceAdd, Nat.reduceLeDiff, RA] <;> rfl) (.inl (by simp [allFresh, ints_fresh, bools_fresh])) ?_
      simp (disch := first | assumption | omega | rfl | simp only [RH]) only [↓RP, RG, FX, RQ, ↓reduceIte, Nat.reduceEqDiff, reduceCtorEq, Nat.reduceBEq, Nat.reduceAdd, Nat.reduceLeDiff]
      refine callK_F 6 (gcheckR_c W H b l) (by simp (disch := first | assumption | omega | rfl | simp only [RH]) only [↓RP, RG, FX, RQ, ↓reduceIte, Nat.reduceEqDiff, reduceCtorEq, Nat.reduceBEq, Nat.reduceAdd, Nat.reduceLeDiff, RA] <;> rfl) (.inl (by simp [allFresh, ints_fresh, bools_fresh])) ?_
      simp (disch := first | assumption | omega | rfl | simp only [RH]) only [↓RP, RG, FX, RQ, ↓reduceIte, Nat.reduceEqDiff, reduceCtorEq, Nat.reduceBEq, Nat.reduceAdd, Nat.reduceLeDiff, hz]
      rw [resVal_1 rfl]; simp (disch := first | assumption | omega | rfl | simp only [RH]) only [↓RP, RG, FX, RQ, ↓reduceIte, Nat.reduceEqDiff, reduceCtorEq, Nat.reduceBEq, Nat.reduceAdd, Nat.reduceLeDiff, RS]
  · obtain rfl := hno fun hv => hz hv.2.1
    refine Contract.intro (effS [] false) 6 follows Tryd.func5 rfl rfl (by kernel_rfl) (Nat.le_of_ble_eq_true rfl) ?_
    simp (disch := first | assumption | omega | rfl | simp only [RH]) only [↓RP, RG, FX, RQ, ↓reduceIte, Nat.reduceEqDiff, reduceCtorEq, Nat.reduceBEq, Nat.reduceAdd, Nat.reduceLeDiff, args0_1]
    refine callK_F 6 (great10_b w h b l c1 hz) (by simp (disch := first | assumption | omega | rfl | simp only [RH]) only [↓RP, RG, FX, RQ, ↓reduceIte, Nat.reduceEqDiff, reduceCtorEq, Nat.reduceBEq, Nat.reduceAdd, Nat.reduceLeDiff, RA] <;> rfl) (.inl (by simp [allFresh, ints_fresh, bools_fresh])) ?_
    simp (disch := first | assumption | omega | rfl | simp only [RH]) only [↓RP, RG, FX, RQ, ↓reduceIte, Nat.reduceEqDiff, reduceCtorEq, Nat.reduceBEq, Nat.reduceAdd, Nat.reduceLeDiff]
    refine callK_F 6 (gcheckR_c w h b l) (by simp (disch := first | assumption | omega | rfl | simp only [RH]) only [↓RP, RG, FX, RQ, ↓reduceIte, Nat.reduceEqDiff, reduceCtorEq, Nat.reduceBEq, Nat.reduceAdd, Nat.reduceLeDiff, RA] <;> rfl) (.inl (by simp [allFresh, ints_fresh, bools_fresh])) ?_
    simp (disch := first | assumption | omega | rfl | simp only [RH]) only [↓RP, RG, FX, RQ, ↓reduceIte, Nat.reduceEqDiff, reduceCtorEq, Nat.reduceBEq, Nat.reduceAdd, Nat.reduceLeDiff]
    rw [resVal_1 rfl]; simp (disch := first | assumption | omega | rfl | simp only [RH]) only [↓RP, RG, FX, RQ, ↓reduceIte, Nat.reduceEqDiff, reduceCtorEq, Nat.reduceBEq, Nat.reduceAdd, Nat.reduceLeDiff, RS]
    first | done | exact okF (by simpa using hz)
end Go.Proofs.YtmfddbhemknkfaaDoor

/- Chapter 11: it is alive. -/
set_option maxRecDepth 100000
namespace Go.Proofs.YtmfddbhemknkfaaDoor
open Go Go.Proofs Go.AW
noncomputable def g44 : AVal := .agg [I 4, I 4, .list false false 16 (bools [true, false, false, false, false, true, false, false, true, true, false, true, true, true, true, false])]
noncomputable def r44 : AVal := .tuple [.list true false 2 [.list true false 4 (ints [0, 1, 4, 5]), .list true false 4 (ints [2, 3, 6, 7])], I 0]
theorem p44 : Contract Tryd.prog 10 [g44] r44 := Contract.run xGood 5000 (by kernel_rfl)
noncomputable def t44 : AVal := .agg [I 4, I 4, .list true false 16 (bools [true, false, false, false, false, true, false, false, true, true, false, true, true, true, true, false])]
theorem two_c : Contract Tryd.prog 19 [] t44 := Contract.run xGood 5000 (by kernel_rfl)
noncomputable def orcL : List (Nat × List AVal × AVal) := [(19, [], t44), (10, [g44], r44)]
theorem orcL_ok : ∀ p ∈ orcL, Contract Tryd.prog p.1 p.2.1 p.2.2 := by
  intro p hp
  simp only [orcL, List.mem_cons, List.not_mem_nil, or_false] at hp
  rcases hp with rfl | rfl
  · exact two_c
  · exact p44
theorem xGoodL : XT.Good Tryd.prog { xT with orc := lookO orcL } := XT.withO xGood orcL_ok
theorem layersAlive_c : Contract Tryd.prog 7 [] (B true) := Contract.run xGoodL 5000 (by kernel_rfl)
end Go.Proofs.YtmfddbhemknkfaaDoor

/- The law LayersBack. -/
set_option linter.unusedSimpArgs false
set_option linter.unusedVariables false
set_option maxRecDepth 100000
namespace Go.Proofs.YtmfddbhemknkfaaDoor
open Go Go.Proofs Go.AW

theorem only_not {W H : Nat} {l : List Bool} {E P : List Int} (hE : ∀ j, j < E.length → 0 ≤ E.getD j 0 ∧ E.getD j 0 < W) (hP : ∀ j, j < P.length → 0 ≤ P.getD j 0 ∧ P.getD j 0 < H) : tabN E.length (uN E.length (tabN E.length (uO W l E P) (E.length * P.length))) (E.length * P.length) = tabN E.length (uO W (tabN W (uN W l) (W * H)) E P) (E.length * P.length) := by
  refine tabN_congr fun x y hx hy => ?_
  obtain ⟨e1, e2⟩ := hE x hx
  obtain ⟨p1, p2⟩ := hP y hy
  unfold uN uO
  rw [cellN, tabN_get _ _ hx (idx_lt hx hy)]
  obtain ⟨i, hi⟩ : ∃ i : Nat, E.getD x 0 = i := ⟨(E.getD x 0).toNat, by omega⟩
  obtain ⟨j, hj⟩ : ∃ j : Nat, P.getD y 0 = j := ⟨(P.getD y 0).toNat, by omega⟩
  rw [hi, hj, cellN W (tabN _ _ _), tabN_get W _ (show i < W by omega) (idx_lt (show i < W by omega) (show j < H by omega))]
theorem layersBack_c (w h : Int) (b : Bool) (l : List Bool) (b2 : Bool) (s : List Int) (dx dy : Int) : Contract Tryd.prog 4 [GA w h b l, LA b2 s, I dx, I dy] (B true) := by
  classical
  have hV := valid11_c w h b l (decide (vlE w h l)) decide_eq_true_iff
  by_cases hv : vlE w h l
  rotate_left
  · rw [decide_eq_false hv] at hV
    refine Contract.intro (effS [] false) 6 follows Tryd.func4 rfl rfl (by kernel_rfl) (Nat.le_of_ble_eq_true rfl) ?_
    simp (disch := first | assumption | omega | rfl | simp only [RH]) only [↓RP, RG, FX, RQ, ↓reduceIte, Nat.reduceEqDiff, reduceCtorEq, Nat.reduceBEq, Nat.reduceAdd, Nat.reduceLeDiff, args0_4]
    refine callK_F 6 (hV) (by simp (disch := first | assumption | omega | rfl | simp only [RH]) only [↓RP, RG, FX, RQ, ↓reduceIte, Nat.reduceEqDiff, reduceCtorEq, Nat.reduceBEq, Nat.reduceAdd, Nat.reduceLeDiff, RA] <;> rfl) (.inl (by simp [allFresh, ints_fresh, bools_fresh])) ?_
    simp (disch := first | assumption | omega | rfl | simp only [RH]) only [↓RP, RG, FX, RQ, ↓reduceIte, Nat.reduceEqDiff, reduceCtorEq, Nat.reduceBEq, Nat.reduceAdd, Nat.reduceLeDiff]
    refine callK_F 6 (layersAlive_c) (by simp (disch := first | assumption | omega | rfl | simp only [RH]) only [↓RP, RG, FX, RQ, ↓reduceIte, Nat.reduceEqDiff, reduceCtorEq, Nat.reduceBEq, Nat.reduceAdd, Nat.reduceLeDiff, RA] <;> rfl) (.inl (by simp [allFresh, ints_fresh, bools_fresh])) ?_
    simp (disch := first | assumption | omega | rfl | simp only [RH]) only [↓RP, RG, FX, RQ, ↓reduceIte, Nat.reduceEqDiff, reduceCtorEq, Nat.reduceBEq, Nat.reduceAdd, Nat.reduceLeDiff]
    rw [resVal_1 rfl]; simp (disch := first | assumption | omega | rfl | simp only [RH]) only [↓RP, RG, FX, RQ, ↓reduceIte, Nat.reduceEqDiff, reduceCtorEq, Nat.reduceBEq, Nat.reduceAdd, Nat.reduceLeDiff, RS]
  rw [decide_eq_true hv] at hV
  by_cases hsl : 40 < (s.length : Int)
  · refine Contract.intro (effS [] false) 6 follows Tryd.func4 rfl rfl (by kernel_rfl) (Nat.le_of_ble_eq_true rfl) ?_
    simp (disch := first | assumption | omega | rfl | simp only [RH]) only [↓RP, RG, FX, RQ, ↓reduceIte, Nat.reduceEqDiff, reduceCtorEq, Nat.reduceBEq, Nat.reduceAdd, Nat.reduceLeDiff, args0_4]
    refine callK_F 6 (hV) (by simp (disch := first | assumption | omega | rfl | simp only [RH]) only [↓RP, RG, FX, RQ, ↓reduceIte, Nat.reduceEqDiff, reduceCtorEq, Nat.reduceBEq, Nat.reduceAdd, Nat.reduceLeDiff, RA] <;> rfl) (.inl (by simp [allFresh, ints_fresh, bools_fresh])) ?_
    simp (disch := first | assumption | omega | rfl | simp only [RH]) only [↓RP, RG, FX, RQ, ↓reduceIte, Nat.reduceEqDiff, reduceCtorEq, Nat.reduceBEq, Nat.reduceAdd, Nat.reduceLeDiff]
    refine callK_F 6 (layersAlive_c) (by simp (disch := first | assumption | omega | rfl | simp only [RH]) only [↓RP, RG, FX, RQ, ↓reduceIte, Nat.reduceEqDiff, reduceCtorEq, Nat.reduceBEq, Nat.reduceAdd, Nat.reduceLeDiff, RA] <;> rfl) (.inl (by simp [allFresh, ints_fresh, bools_fresh])) ?_
    simp (disch := first | assumption | omega | rfl | simp only [RH]) only [↓RP, RG, FX, RQ, ↓reduceIte, Nat.reduceEqDiff, reduceCtorEq, Nat.reduceBEq, Nat.reduceAdd, Nat.reduceLeDiff]
    rw [resVal_1 rfl]; simp (disch := first | assumption | omega | rfl | simp only [RH]) only [↓RP, RG, FX, RQ, ↓reduceIte, Nat.reduceEqDiff, reduceCtorEq, Nat.reduceBEq, Nat.reduceAdd, Nat.reduceLeDiff, RS]
  obtain ⟨W, H, n, rfl, rfl, hN, hW0, hH0, hn24, hn⟩ := vlE_nat hv
  have hW : W ≤ 64 := by omega
  have hH : H ≤ 64 := by omega
  have hP := partsPP_c hN hW0 hH0 (by omega) b hn
  have hNt := notP_c hW0 hH0 hW hH b hn
  have hln : (tabN W (uN W l) (W * H)).length = W * H := tabN_len _ _ _
  have hPN := partsPP_c hN hW0 hH0 (by omega) false hln
  have hS := shiftP_c hW0 hH0 hW hH b hn dx dy
  have hlx : (tabN W (uS W H l (shN (arM dx W) W) (shN (arM dy H) H)) (W * H)).length = W * H := tabN_len _ _ _
  have hPS := partsPP_c hN hW0 hH0 (by omega) false hlx
  obtain ⟨q1, q2⟩ := parts_back (W' := W) (ov_not hN (l := l))
  have q3 := parts_shift hN hW0 hH0 l (arM dx W) (arM dy H)
  have hps := parts_len (W := W) (n := n) (l := l)
  have hrow : ∀ r ∈ PL W n l, r.length ≤ n := fun r hr => (PL_row hr).1
  obtain ⟨E, hE⟩ : ∃ E, E = endsOf W s s.length := ⟨_, rfl⟩
  obtain ⟨P, hPk⟩ : ∃ P, P = picksOf W s s.length := ⟨_, rfl⟩
  have hg : gOk W H l.length := ⟨by omega, by omega, by omega, by omega, by rw [hn, Int.natCast_mul]⟩
  have hgn : gOk W H (tabN W (uN W l) (W * H)).length := ⟨by omega, by omega, by omega, by omega, by rw [hln, Int.natCast_mul]⟩
  have hsum := endsOf_len W s s.length
  rw [← hE, ← hPk] at hsum
  have honly : (∃ e : Int, (e = 2 ∨ e = 22) ∧ Contract Tryd.prog 14 [GA W H b l, LA b2 s] (.tuple [GNo, I e]) ∧ Contract Tryd.prog 14 [GA W H false (tabN W (uN W l) (W * H)), LA b2 s] (.tuple [GNo, I e]))
      ∨ (0 < E.length ∧ 0 < P.length ∧ Contract Tryd.prog 14 [GA W H b l, LA b2 s] (.tuple [GR E.length P.length false (tabN E.length (uO W l E P) (E.length * P.length)), I 0]) ∧ Contract Tryd.prog 14 [GA W H false (tabN W (uN W l) (W * H)), LA b2 s] (.tuple [GR E.length P.length false (tabN E.length (uO W (tabN W (uN W l) (W * H)) E P) (E.length * P.length)), I 0])
        ∧ tabN E.length (uN E.length (tabN E.length (uO W l E P) (E.length * P.length))) (E.length * P.length) = tabN E.length (uO W (tabN W (uN W l) (W * H)) E P) (E.length * P.length)) := by
    by_cases hs : ascTo ((W : Int) + H) s s.length
    · have o1 := onlyP_ok W H b l b2 s hg (by omega) hs E P hE hPk
      have o2 := onlyP_ok W H false (tabN W (uN W l) (W * H)) b2 s hgn (by omega) hs E P hE hPk
      by_cases he : E.length = 0 ∨ P.length = 0
      · rw [if_pos he] at o1 o2
        exact .inl ⟨22, .inr rfl, o1, o2⟩
      · rw [if_neg he] at o1 o2
        refine .inr ⟨by omega, by omega, o1, o2, only_not (fun j hj => ?_) fun j hj => ?_⟩
        · rw [hE] at hj ⊢; exact endsOf_in hs j hj
        · rw [hPk] at hj ⊢
          have := picksOf_in hs j hj
          omega
    · exact .inl ⟨2, .inl rfl, onlyP_no W H b l b2 s hg (by omega) hs, onlyP_no W H false (tabN W (uN W l) (W * H)) b2 s hgn (by omega) hs⟩
  clear hE hPk hg hgn
  generalize PL W n (tabN W (uN W l) (W * H)) = pm at *
  generalize PL W n (tabN W (uS W H l (shN (arM dx W) W) (shN (arM dy H) H)) (W * H)) = pk at *
  generalize PL W n l = ps at *
  generalize tabN W (uS W H l (shN (arM dx W) W) (shN (arM dy H) H)) (W * H) = lx at *
  generalize tabN W (uN W l) (W * H) = ln at *
  refine Contract.intro (effS [] false) 6 follows Tryd.func4 rfl rfl (by kernel_rfl) (Nat.le_of_ble_eq_true rfl) ?_
  simp (disch := first | assumption | omega | rfl | simp only [RH]) only [↓RP, RG, FX, RQ, ↓reduceIte, Nat.reduceEqDiff, reduceCtorEq, Nat.reduceBEq, Nat.reduceAdd, Nat.reduceLeDiff, args0_4]
  refine callK_F 6 (hV) (by simp (disch := first | assumption | omega | rfl | simp only [RH]) only [↓RP, RG, FX, RQ, ↓reduceIte, Nat.reduceEqDiff, reduceCtorEq, Nat.reduceBEq, Nat.reduceAdd, Nat.reduceLeDiff, RA] <;> rfl) (.inl (by simp [allFresh, ints_fresh, bools_fresh])) ?_
  simp (disch := first | assumption | omega | rfl | simp only [RH]) only [↓RP, RG, FX, RQ, ↓reduceIte, Nat.reduceEqDiff, reduceCtorEq, Nat.reduceBEq, Nat.reduceAdd, Nat.reduceLeDiff]
  refine callK_F 6 hP (by simp (disch := first | assumption | omega | rfl | simp only [RH]) only [↓RP, RG, FX, RQ, ↓reduceIte, Nat.reduceEqDiff, reduceCtorEq, Nat.reduceBEq, Nat.reduceAdd, Nat.reduceLeDiff, RA] <;> rfl) (.inl (by simp [allFresh]; exact PV_fr 2 _)) ?_
  simp only [PV]
  simp (disch := first | assumption | omega | rfl | simp only [RH]) only [↓RP, RG, FX, RQ, ↓reduceIte, Nat.reduceEqDiff, reduceCtorEq, Nat.reduceBEq, Nat.reduceAdd, Nat.reduceLeDiff]
  refine callK_F 6 hNt (by simp (disch := first | assumption | omega | rfl | simp only [RH]) only [↓RP, RG, FX, RQ, ↓reduceIte, Nat.reduceEqDiff, reduceCtorEq, Nat.reduceBEq, Nat.reduceAdd, Nat.reduceLeDiff, RA] <;> rfl) (.inl (by simp [allFresh, bools_fresh])) ?_
  simp (disch := first | assumption | omega | rfl | simp only [RH]) only [↓RP, RG, FX, RQ, ↓reduceIte, Nat.reduceEqDiff, reduceCtorEq, Nat.reduceBEq, Nat.reduceAdd, Nat.reduceLeDiff]
  refine callK_F 6 hPN (by simp (disch := first | assumption | omega | rfl | simp only [RH]) only [↓RP, RG, FX, RQ, ↓reduceIte, Nat.reduceEqDiff, reduceCtorEq, Nat.reduceBEq, Nat.reduceAdd, Nat.reduceLeDiff, RA] <;> rfl) (.inl (by simp [allFresh]; exact PV_fr 2 _)) ?_
  simp only [PV]
  simp (disch := first | assumption | omega | rfl | simp only [RH]) only [↓RP, RG, FX, RQ, ↓reduceIte, Nat.reduceEqDiff, reduceCtorEq, Nat.reduceBEq, Nat.reduceAdd, Nat.reduceLeDiff]
  refine callK_F 6 hS (by simp (disch := first | assumption | omega | rfl | simp only [RH]) only [↓RP, RG, FX, RQ, ↓reduceIte, Nat.reduceEqDiff, reduceCtorEq, Nat.reduceBEq, Nat.reduceAdd, Nat.reduceLeDiff, RA] <;> rfl) (.inl (by simp [allFresh, bools_fresh])) ?_
  simp (disch := first | assumption | omega | rfl | simp only [RH]) only [↓RP, RG, FX, RQ, ↓reduceIte, Nat.reduceEqDiff, reduceCtorEq, Nat.reduceBEq, Nat.reduceAdd, Nat.reduceLeDiff]
  refine callK_F 6 hPS (by simp (disch := first | assumption | omega | rfl | simp only [RH]) only [↓RP, RG, FX, RQ, ↓reduceIte, Nat.reduceEqDiff, reduceCtorEq, Nat.reduceBEq, Nat.reduceAdd, Nat.reduceLeDiff, RA] <;> rfl) (.inl (by simp [allFresh]; exact PV_fr 2 _)) ?_
  simp only [PV]
  simp (disch := first | assumption | omega | rfl | simp only [RH]) only [↓RP, RG, FX, RQ, ↓reduceIte, Nat.reduceEqDiff, reduceCtorEq, Nat.reduceBEq, Nat.reduceAdd, Nat.reduceLeDiff]
  refine loopK_I [1, 4, 9, 11, 13, 19] (fun a : Nat => a ≤ ps.length) (fun a => ⟨[(1, LA b2 s), (4, .ptr 0 0 3), (9, .list true ps.isEmpty ps.length (rowsC ps)), (11, .ptr 1 0 3), (13, .list true pm.isEmpty pm.length (rowsC pm)), (19, I a)], [⟨24, 3, [I W, I H, BA b l]⟩, ⟨24, 3, [I W, I H, BR false ln]⟩, ⟨24, 3, [I W, I H, BR false lx]⟩]⟩) (fun a => ps.length - a) 0 (by omega) (by simp only [↓RP, RG, FX, RQ, ↓reduceIte, Nat.reduceEqDiff, reduceCtorEq, Nat.reduceBEq, Nat.reduceAdd, Nat.reduceLeDiff]; rfl) ?_
  intro a ha
  by_cases hlt : a < ps.length
  · have hrk := rowsC_at hlt
    have hmem : ps.getD a [] ∈ ps := by rw [List.getD_eq_getElem?_getD, List.getElem?_eq_getElem hlt]; exact List.getElem_mem hlt
    have hrl := hrow _ hmem
    have hrm := q2 _ hmem
    generalize ps.getD a [] = r at *
    have hrn := nI_len r
    obtain ⟨fnd, hfnd⟩ : ∃ fnd : Nat → Bool, fnd = fun i => decide (∃ q ∈ pm.take i, nI r = nI q) := ⟨_, rfl⟩
    have hf0 : fnd 0 = false := by rw [hfnd]; simp
    have hfe : fnd pm.length = true := by rw [hfnd]; simp only [List.take_length]; exact decide_eq_true ⟨r, hrm, rfl⟩
    have hfs : ∀ i, i < pm.length → fnd (i + 1) = (fnd i || decide (nI r = nI (pm.getD i []))) := fun i hi => by
      have htk : pm.take (i + 1) = pm.take i ++ [pm.getD i []] := by rw [List.take_add_one, List.getElem?_eq_getElem hi, List.getD_eq_getElem?_getD, List.getElem?_eq_getElem hi]; rfl
      rw [hfnd]
      simp only [htk, ← Bool.decide_or]
      refine decide_eq_decide.2 ?_
      constructor
      · rintro ⟨q, hq, h⟩
        rcases List.mem_append.1 hq with h1 | h1
        · exact .inl ⟨q, h1, h⟩
        · exact .inr (by rw [List.mem_singleton.1 h1] at h; exact h)
      · rintro (⟨q, hq, h⟩ | h)
        · exact ⟨q, List.mem_append_left _ hq, h⟩
        · exact ⟨_, List.mem_append_right _ (by simp), h⟩
    clear hfnd
    simp (disch := first | assumption | omega | rfl | simp only [RH]) only [↓RP, RG, FX, RQ, ↓reduceIte, Nat.reduceEqDiff, reduceCtorEq, Nat.reduceBEq, Nat.reduceAdd, Nat.reduceLeDiff, hrk, Int.toNat_natCast]
    refine loopK_I [1, 4, 9, 11, 13, 19, 20, 21] (fun i : Nat => i ≤ pm.length) (fun i => ⟨[(1, LA b2 s), (4, .ptr 0 0 3), (9, .list true ps.isEmpty ps.length (rowsC ps)), (11, .ptr 1 0 3), (13, .list true pm.isEmpty pm.length (rowsC pm)), (19, I a), (20, B (fnd i)), (21, I i)], [⟨24, 3, [I W, I H, BA b l]⟩, ⟨24, 3, [I W, I H, BR false ln]⟩, ⟨24, 3, [I W, I H, BR false lx]⟩]⟩) (fun i => pm.length - i) 0 (by omega) (by simp only [↓RP, RG, FX, RQ, ↓reduceIte, Nat.reduceEqDiff, reduceCtorEq, Nat.reduceBEq, Nat.reduceAdd, Nat.reduceLeDiff]; rw [hf0]; rfl) ?_
    intro i hi
    by_cases hli : i < pm.length
    · have hrk2 := rowsC_at hli
      have hfi := hfs i hli
      generalize pm.getD i [] = q at *
      have hsm := same02_c false false (nI r) (nI q) (by omega)
      cases hfc : fnd i with
      | true =>
        rw [hfc, Bool.true_or] at hfi
        simp (disch := first | assumption | omega | rfl | simp only [RH]) only [↓RP, RG, FX, RQ, ↓reduceIte, Nat.reduceEqDiff, reduceCtorEq, Nat.reduceBEq, Nat.reduceAdd, Nat.reduceLeDiff, hrk, hrk2, Int.toNat_natCast]
        exact ⟨i + 1, hli, by rw [hfi]; rfl, by omega⟩
      | false =>
        rw [hfc, Bool.false_or] at hfi
        simp (disch := first | assumption | omega | rfl | simp only [RH]) only [↓RP, RG, FX, RQ, ↓reduceIte, Nat.reduceEqDiff, reduceCtorEq, Nat.reduceBEq, Nat.reduceAdd, Nat.reduceLeDiff, hrk, hrk2, Int.toNat_natCast]
        refine callK_F 6 (hsm) (by simp (disch := first | assumption | omega | rfl | simp only [RH]) only [↓RP, RG, FX, RQ, ↓reduceIte, Nat.reduceEqDiff, reduceCtorEq, Nat.reduceBEq, Nat.reduceAdd, Nat.reduceLeDiff, RA] <;> rfl) (.inl (by simp [allFresh, ints_fresh, bools_fresh])) ?_
        simp (disch := first | assumption | omega | rfl | simp only [RH]) only [↓RP, RG, FX, RQ, ↓reduceIte, Nat.reduceEqDiff, reduceCtorEq, Nat.reduceBEq, Nat.reduceAdd, Nat.reduceLeDiff, hrk, hrk2, Int.toNat_natCast]
        exact ⟨i + 1, hli, by rw [hfi]; rfl, by omega⟩
    · obtain rfl : pm.length = i := by omega
      rw [hfe]
      simp (disch := first | assumption | omega | rfl | simp only [RH]) only [↓RP, RG, FX, RQ, ↓reduceIte, Nat.reduceEqDiff, reduceCtorEq, Nat.reduceBEq, Nat.reduceAdd, Nat.reduceLeDiff, hrk, Int.toNat_natCast]
      exact ⟨a + 1, hlt, rfl, by omega⟩
  · obtain rfl : ps.length = a := by omega
    simp (disch := first | assumption | omega | rfl | simp only [RH]) only [↓RP, RG, FX, RQ, ↓reduceIte, Nat.reduceEqDiff, reduceCtorEq, Nat.reduceBEq, Nat.reduceAdd, Nat.reduceLeDiff]
    rcases honly with ⟨e, he, o1, o2⟩ | ⟨hE0, hP0, o1, o2, hTq⟩
    · refine callK_F 6 o1 (by simp (disch := first | assumption | omega | rfl | simp only [RH]) only [↓RP, RG, FX, RQ, ↓reduceIte, Nat.reduceEqDiff, reduceCtorEq, Nat.reduceBEq, Nat.reduceAdd, Nat.reduceLeDiff, RA] <;> rfl) (.inl (by simp [allFresh])) ?_
      simp (disch := first | assumption | omega | rfl | simp only [RH]) only [↓RP, RG, FX, RQ, ↓reduceIte, Nat.reduceEqDiff, reduceCtorEq, Nat.reduceBEq, Nat.reduceAdd, Nat.reduceLeDiff]
      refine callK_F 6 o2 (by simp (disch := first | assumption | omega | rfl | simp only [RH]) only [↓RP, RG, FX, RQ, ↓reduceIte, Nat.reduceEqDiff, reduceCtorEq, Nat.reduceBEq, Nat.reduceAdd, Nat.reduceLeDiff, RA] <;> rfl) (.inl (by simp [allFresh])) ?_
      rcases he with rfl | rfl
      · simp (disch := first | assumption | omega | rfl | simp only [RH]) only [↓RP, RG, FX, RQ, ↓reduceIte, Nat.reduceEqDiff, reduceCtorEq, Nat.reduceBEq, Nat.reduceAdd, Nat.reduceLeDiff]
        refine callK_F 6 (layersAlive_c) (by simp (disch := first | assumption | omega | rfl | simp only [RH]) only [↓RP, RG, FX, RQ, ↓reduceIte, Nat.reduceEqDiff, reduceCtorEq, Nat.reduceBEq, Nat.reduceAdd, Nat.reduceLeDiff, RA] <;> rfl) (.inl (by simp [allFresh, ints_fresh, bools_fresh])) ?_
        simp (disch := first | assumption | omega | rfl | simp only [RH]) only [↓RP, RG, FX, RQ, ↓reduceIte, Nat.reduceEqDiff, reduceCtorEq, Nat.reduceBEq, Nat.reduceAdd, Nat.reduceLeDiff]
        rw [resVal_1 rfl]; simp (disch := first | assumption | omega | rfl | simp only [RH]) only [↓RP, RG, FX, RQ, ↓reduceIte, Nat.reduceEqDiff, reduceCtorEq, Nat.reduceBEq, Nat.reduceAdd, Nat.reduceLeDiff, RS]
      · simp (disch := first | assumption | omega | rfl | simp only [RH]) only [↓RP, RG, FX, RQ, ↓reduceIte, Nat.reduceEqDiff, reduceCtorEq, Nat.reduceBEq, Nat.reduceAdd, Nat.reduceLeDiff]
        refine callK_F 6 (layersAlive_c) (by simp (disch := first | assumption | omega | rfl | simp only [RH]) only [↓RP, RG, FX, RQ, ↓reduceIte, Nat.reduceEqDiff, reduceCtorEq, Nat.reduceBEq, Nat.reduceAdd, Nat.reduceLeDiff, RA] <;> rfl) (.inl (by simp [allFresh, ints_fresh, bools_fresh])) ?_
        simp (disch := first | assumption | omega | rfl | simp only [RH]) only [↓RP, RG, FX, RQ, ↓reduceIte, Nat.reduceEqDiff, reduceCtorEq, Nat.reduceBEq, Nat.reduceAdd, Nat.reduceLeDiff]
        rw [resVal_1 rfl]; simp (disch := first | assumption | omega | rfl | simp only [RH]) only [↓RP, RG, FX, RQ, ↓reduceIte, Nat.reduceEqDiff, reduceCtorEq, Nat.reduceBEq, Nat.reduceAdd, Nat.reduceLeDiff, RS]
    · have hEw : E.length ≤ 40 := by omega
      have hPw : P.length ≤ 40 := by omega
      have hT1 := tabN_len E.length (uO W l E P) (E.length * P.length)
      have hT2 := tabN_len E.length (uO W ln E P) (E.length * P.length)
      have hEP : E.length * P.length ≤ 40 * 40 := Nat.mul_le_mul hEw hPw
      have o3 := notP_c hE0 hP0 (by omega) (by omega) false hT1
      rw [hTq] at o3
      clear hTq
      generalize tabN E.length (uO W l E P) (E.length * P.length) = T1 at *
      generalize tabN E.length (uO W ln E P) (E.length * P.length) = T2 at *
      have o4 := sameR_c E.length P.length E.length P.length false false T2 T2 (by omega)
      rw [decide_eq_true ⟨rfl, rfl, rfl⟩] at o4
      refine callK_F 6 o1 (by simp (disch := first | assumption | omega | rfl | simp only [RH]) only [↓RP, RG, FX, RQ, ↓reduceIte, Nat.reduceEqDiff, reduceCtorEq, Nat.reduceBEq, Nat.reduceAdd, Nat.reduceLeDiff, RA] <;> rfl) (.inl (by simp [allFresh, bools_fresh])) ?_
      simp (disch := first | assumption | omega | rfl | simp only [RH]) only [↓RP, RG, FX, RQ, ↓reduceIte, Nat.reduceEqDiff, reduceCtorEq, Nat.reduceBEq, Nat.reduceAdd, Nat.reduceLeDiff]
      refine callK_F 6 o2 (by simp (disch := first | assumption | omega | rfl | simp only [RH]) only [↓RP, RG, FX, RQ, ↓reduceIte, Nat.reduceEqDiff, reduceCtorEq, Nat.reduceBEq, Nat.reduceAdd, Nat.reduceLeDiff, RA] <;> rfl) (.inl (by simp [allFresh, bools_fresh])) ?_
      simp (disch := first | assumption | omega | rfl | simp only [RH]) only [↓RP, RG, FX, RQ, ↓reduceIte, Nat.reduceEqDiff, reduceCtorEq, Nat.reduceBEq, Nat.reduceAdd, Nat.reduceLeDiff]
      refine callK_F 6 o3 (by simp (disch := first | assumption | omega | rfl | simp only [RH]) only [↓RP, RG, FX, RQ, ↓reduceIte, Nat.reduceEqDiff, reduceCtorEq, Nat.reduceBEq, Nat.reduceAdd, Nat.reduceLeDiff, RA] <;> rfl) (.inl (by simp [allFresh, bools_fresh])) ?_
      simp (disch := first | assumption | omega | rfl | simp only [RH]) only [↓RP, RG, FX, RQ, ↓reduceIte, Nat.reduceEqDiff, reduceCtorEq, Nat.reduceBEq, Nat.reduceAdd, Nat.reduceLeDiff]
      refine callK_F 6 o4 (by simp (disch := first | assumption | omega | rfl | simp only [RH]) only [↓RP, RG, FX, RQ, ↓reduceIte, Nat.reduceEqDiff, reduceCtorEq, Nat.reduceBEq, Nat.reduceAdd, Nat.reduceLeDiff, RA] <;> rfl) (.inl rfl) ?_
      simp (disch := first | assumption | omega | rfl | simp only [RH]) only [↓RP, RG, FX, RQ, ↓reduceIte, Nat.reduceEqDiff, reduceCtorEq, Nat.reduceBEq, Nat.reduceAdd, Nat.reduceLeDiff]
      refine callK_F 6 (layersAlive_c) (by simp (disch := first | assumption | omega | rfl | simp only [RH]) only [↓RP, RG, FX, RQ, ↓reduceIte, Nat.reduceEqDiff, reduceCtorEq, Nat.reduceBEq, Nat.reduceAdd, Nat.reduceLeDiff, RA] <;> rfl) (.inl (by simp [allFresh, ints_fresh, bools_fresh])) ?_
      simp (disch := first | assumption | omega | rfl | simp only [RH]) only [↓RP, RG, FX, RQ, ↓reduceIte, Nat.reduceEqDiff, reduceCtorEq, Nat.reduceBEq, Nat.reduceAdd, Nat.reduceLeDiff]
      rw [resVal_1 rfl]; simp (disch := first | assumption | omega | rfl | simp only [RH]) only [↓RP, RG, FX, RQ, ↓reduceIte, Nat.reduceEqDiff, reduceCtorEq, Nat.reduceBEq, Nat.reduceAdd, Nat.reduceLeDiff, RS]
end Go.Proofs.YtmfddbhemknkfaaDoor
