/- Part 2 of the proof's own texts: the contracts of functions, and what they rest on. -/
import Derived.Test.YtmfddbhemknkfaaDoorJ1
/- Chapter 11: the parts of a cloth, by the program. -/
set_option linter.unusedSimpArgs false
set_option linter.unusedVariables false
set_option maxRecDepth 100000
namespace Go.Proofs.YtmfddbhemknkfaaDoor
open Go Go.Proofs Go.AW

/-- Thread a is held by thread b. -/
def hdB (W n : Nat) (l : List Bool) (a b : Nat) : Bool := decide (0 ≤ (srch (adjT W n l) (far0 n a) [a]).getD b 0)
theorem adjT_in {W n : Nat} {l : List Bool} : ∀ x y, x < n → y ∈ adjT W n l x → y < n := fun _ _ _ h => adjT_lt h
theorem adjT_le (W n : Nat) (l : List Bool) (a : Nat) : (adjT W n l a).length ≤ n := by
  unfold adjT; exact Nat.le_trans (List.length_filter_le _ _) (by simp)
theorem hdB_iff {W n : Nat} {l : List Bool} {a b : Nat} (ha : a < n) (hb : b < n) : hdB W n l a b = true ↔ Wy (adjT W n l) a b := by
  unfold hdB
  rw [decide_eq_true_eq]
  constructor
  · intro h
    refine rch_in ha hb (M := fun x => Wy (adjT W n l) a x) (fun c hc hw x hx ho => ?_) (.refl a) h
    exact Wy.trans hw (.one (mem_adjT.2 ⟨hx, ho⟩))
  · intro h
    have hcl := rch_cl (W := W) l ha
    exact (h.closed (p := fun x => x < n ∧ Rch W n l a x) (fun x y hx hy => by
      obtain ⟨h1, h2⟩ := mem_adjT.1 hy
      exact ⟨h1, hcl x hx.1 hx.2 y h1 h2⟩) ⟨ha, rch_self l ha⟩).2
/-- The parts of a cloth in their order. -/
def PL (W n : Nat) (l : List Bool) : List (List Nat) := lsP (hdB W n l) n n fun _ => false
def PV (ps : List (List Nat)) : AVal := .list true ps.isEmpty ps.length (rowsC ps)
def nxV (o : Option Nat) : Int := match o with
  | none => -1
  | some p => (p : Int)
theorem fI_const (n : Nat) (v : Int) : fI n (fun _ => v) = List.replicate n v := by
  rw [List.eq_replicate_iff]
  exact ⟨fI_len _ _, fun x hx => by obtain ⟨_, _, rfl⟩ := List.mem_map.1 hx; rfl⟩
theorem LL_fr (k : Nat) (rs : List (List Int)) : ∀ x, x ∈ LL rs → allFresh (k + 2) x = true := by
  intro x hx
  obtain ⟨r, _, rfl⟩ := List.mem_map.1 hx
  simp [allFresh, ints_fresh]
/-- Rows, by parts. -/
def fL (m : Nat) (g : Nat → List Nat) : List (List Int) := (List.range m).map fun q => nI (g q)
theorem fL_len (m : Nat) (g : Nat → List Nat) : (fL m g).length = m := by simp [fL]
theorem fL_get {m : Nat} {g : Nat → List Nat} {q : Nat} (h : q < m) : (fL m g).getD q [] = nI (g q) := by simp [fL, List.getD_eq_getElem?_getD, h]
theorem fL_set {m : Nat} {g : Nat → List Nat} {q : Nat} (v : List Nat) : (fL m g).set q (nI v) = fL m (updN g q v) := by
  refine List.ext_getElem (by simp [fL]) fun i h1 h2 => ?_
  rw [List.getElem_set]
  simp only [fL, List.getElem_map, List.getElem_range]
  by_cases h : q = i
  · rw [if_pos h, h, updN_same]
  · rw [if_neg h, updN_other _ _ (fun e => h e.symm)]
theorem fL_nil (m : Nat) : fL m (fun _ => []) = List.replicate m [] := by
  rw [List.eq_replicate_iff]
  exact ⟨fL_len _ _, fun x hx => by obtain ⟨_, _, rfl⟩ := List.mem_map.1 hx; rfl⟩
section
variable {o0 o1 o2 o3 o4 o5 o6 o7 : AObj} {rs : List (List Int)} {tl : List AObj}
theorem h8_at {a : Nat} (ha : a < rs.length) : (o0 :: o1 :: o2 :: o3 :: o4 :: o5 :: o6 :: o7 :: (gos rs ++ tl))[8 + a]? = some (go 3 (ints (rs.getD a []))) := by
  rw [show 8 + a = a + 8 by omega]
  simp only [List.getElem?_cons_succ]
  rw [List.getElem?_append_left (by rw [gos_len]; exact ha)]
  exact gos_at ha
theorem h8_set {a : Nat} (ha : a < rs.length) (r : List Int) : (o0 :: o1 :: o2 :: o3 :: o4 :: o5 :: o6 :: o7 :: (gos rs ++ tl)).set (8 + a) (go 3 (ints r)) = o0 :: o1 :: o2 :: o3 :: o4 :: o5 :: o6 :: o7 :: (gos (rs.set a r) ++ tl) := by
  rw [show 8 + a = a + 8 by omega]
  simp only [List.set_cons_succ]
  rw [List.set_append_left _ _ (by rw [gos_len]; exact ha), gos_set]
theorem h8_tl {m k : Nat} (hm : rs.length = m) : (o0 :: o1 :: o2 :: o3 :: o4 :: o5 :: o6 :: o7 :: (gos rs ++ tl))[8 + m + k]? = tl[k]? := by
  rw [show 8 + m + k = m + k + 8 by omega]
  simp only [List.getElem?_cons_succ]
  rw [List.getElem?_append_right (by rw [gos_len]; omega), gos_len, hm, Nat.add_sub_cancel_left]
theorem h8_stl {m k : Nat} (hm : rs.length = m) (o : AObj) : (o0 :: o1 :: o2 :: o3 :: o4 :: o5 :: o6 :: o7 :: (gos rs ++ tl)).set (8 + m + k) o = o0 :: o1 :: o2 :: o3 :: o4 :: o5 :: o6 :: o7 :: (gos rs ++ tl.set k o) := by
  rw [show 8 + m + k = m + k + 8 by omega]
  simp only [List.set_cons_succ]
  rw [List.set_append_right _ _ (by rw [gos_len]; omega), gos_len, hm, Nat.add_sub_cancel_left]
end
theorem argOf_gwI {h : List AObj} {k e m : Nat} {l : List Int} (ho : h[k]? = some (go e (ints l))) : argOf h (m + 2) (gw true k (ints l)) = LA l.isEmpty l := by
  rw [argOf_gw, ho, gaA_go, ints_length, ints_arg]
  have : (ints l).isEmpty = l.isEmpty := by cases l <;> rfl
  rw [this]; rfl
theorem mem_nI {l : List Nat} {x : Nat} : (x : Int) ∈ nI l ↔ x ∈ l := by
  unfold nI
  rw [List.mem_map]
  constructor
  · rintro ⟨y, h1, h2⟩
    have : y = x := by omega
    exact this ▸ h1
  · intro h; exact ⟨x, h, rfl⟩
/-- Marks, by parts. -/
def fB (m : Nat) (D : Nat → Bool) : List Bool := (List.range m).map D
theorem fB_len (m : Nat) (D : Nat → Bool) : (fB m D).length = m := by simp [fB]
theorem fB_get {m : Nat} {D : Nat → Bool} {p : Nat} (h : p < m) : (fB m D).getD p false = D p := by simp [fB, List.getD_eq_getElem?_getD, h]
theorem fB_set {m : Nat} {D : Nat → Bool} {p : Nat} (v : Bool) : (fB m D).set p v = fB m (updN D p v) := by
  refine List.ext_getElem (by simp [fB]) fun i h1 h2 => ?_
  rw [List.getElem_set]
  simp only [fB, List.getElem_map, List.getElem_range]
  by_cases h : p = i
  · rw [if_pos h, h, updN_same]
  · rw [if_neg h, updN_other _ _ (fun e => h e.symm)]
theorem fB_none (m : Nat) : fB m (fun _ => false) = List.replicate m false := by
  rw [List.eq_replicate_iff]
  exact ⟨fB_len _ _, fun x hx => by obtain ⟨_, _, rfl⟩ := List.mem_map.1 hx; rfl⟩
theorem rowsC_at {ps : List (List Nat)} {i : Nat} (h : i < ps.length) : ((rowsC ps).drop i)[0]? = some (LR false (nI (ps.getD i []))) := by
  rw [List.getElem?_drop, Nat.add_zero, rowsC, List.getElem?_map, List.getElem?_eq_getElem h, List.getD_eq_getElem?_getD, List.getElem?_eq_getElem h]; rfl
section
variable {o0 o1 o2 o3 o4 o5 o6 o7 : AObj} {rs : List (List Int)} {tl : List AObj} {m : Nat}
theorem h8_t0 (hm : rs.length = m) : (o0 :: o1 :: o2 :: o3 :: o4 :: o5 :: o6 :: o7 :: (gos rs ++ tl))[m + 8]? = tl[0]? := by
  rw [show m + 8 = 8 + m + 0 by omega]; exact h8_tl hm
theorem h8_t1 (hm : rs.length = m) : (o0 :: o1 :: o2 :: o3 :: o4 :: o5 :: o6 :: o7 :: (gos rs ++ tl))[m + 9]? = tl[1]? := by
  rw [show m + 9 = 8 + m + 1 by omega]; exact h8_tl hm
theorem h8_s0 (hm : rs.length = m) (o : AObj) : (o0 :: o1 :: o2 :: o3 :: o4 :: o5 :: o6 :: o7 :: (gos rs ++ tl)).set (m + 8) o = o0 :: o1 :: o2 :: o3 :: o4 :: o5 :: o6 :: o7 :: (gos rs ++ tl.set 0 o) := by
  rw [show m + 8 = 8 + m + 0 by omega]; exact h8_stl hm o
theorem h8_s1 (hm : rs.length = m) (o : AObj) : (o0 :: o1 :: o2 :: o3 :: o4 :: o5 :: o6 :: o7 :: (gos rs ++ tl)).set (m + 9) o = o0 :: o1 :: o2 :: o3 :: o4 :: o5 :: o6 :: o7 :: (gos rs ++ tl.set 1 o) := by
  rw [show m + 9 = 8 + m + 1 by omega]; exact h8_stl hm o
end
theorem hdL_nI {q : List Nat} (h : 0 < q.length) : (nI q).getD 0 0 = (hdL q : Int) := by
  cases q with
  | nil => simp at h
  | cons a t => rfl
theorem rowsC_res (h : List AObj) (n : Nat) (ps : List (List Nat)) : (rowsC ps).map (resOf h (n + 2)) = rowsC ps := by
  unfold rowsC
  rw [List.map_map]
  refine List.map_congr_left fun l _ => ?_
  simp [resOf, resOf_list, ints_res]
theorem abv_len (W n : Nat) (l : List Bool) : (abv W n l).length = n := by simp [abv]
set_option maxHeartbeats 1000000 in
theorem partsP_c {W H n : Nat} (hN : W + H = n) (hW0 : 0 < W) (hH0 : 0 < H) (hn64 : n ≤ 64) (b : Bool) {l : List Bool} (hn : l.length = W * H) : Contract Tryd.prog 29 [GA W H b l] (PV (PL W n l)) := by
  have hab := aboveP_c hN hW0 hH0 (by omega) (by omega) b hn
  have hNi : ((W : Int) + (H : Int)).toNat = n := by omega
  have hNc : (W : Int) + (H : Int) = (n : Int) := by omega
  have hrl := abv_len W n l
  have hrow : ∀ a, a < n → (abv W n l).getD a [] = nI (adjT W n l a) := fun a ha => abv_adj ha
  have hS := tAll_scc (ov := adjT W n l) (n := n) adjT_in
  have hinv := tAll_inv (ov := adjT W n l) (n := n) adjT_in
  refine Contract.intro (effS [39] false [1] [0] [] (fun _ => true) [] [39]) 6 follows Tryd.func29 rfl rfl (by kernel_rfl) (Nat.le_of_ble_eq_true rfl) ?_
  simp (disch := first | assumption | omega | rfl | simp only [RH]) only [↓RP, RG, FX, RQ, ↓reduceIte, Nat.reduceEqDiff, reduceCtorEq, Nat.reduceBEq, Nat.reduceAdd, Nat.reduceLeDiff, args0_1, hNc]
  refine callK_F 6 hab (by simp (disch := first | assumption | omega | rfl | simp only [RH]) only [↓RP, RG, FX, RQ, ↓reduceIte, Nat.reduceEqDiff, reduceCtorEq, Nat.reduceBEq, Nat.reduceAdd, Nat.reduceLeDiff, RA] <;> rfl) (.inl (by simp [allFresh]; exact LL_fr 3 _)) ?_
  simp (disch := first | assumption | omega | rfl | simp only [RH]) only [↓RP, RG, FX, RQ, ↓reduceIte, Nat.reduceEqDiff, reduceCtorEq, Nat.reduceBEq, Nat.reduceAdd, Nat.reduceLeDiff, make_int, hNi, hNc]
  refine callK_M (o := ⟨3, 1, ints (List.replicate n (-1))⟩) (fun k => .ref k 0 n n) (.ref 0 n n) rfl rfl (fun h2 => repeat_s h2 (by omega) (by omega)) ?_ (by simp) (fun x hx => by
    simp only [ints, List.mem_map] at hx
    obtain ⟨u, _, rfl⟩ := hx
    exact ⟨_, rfl⟩)
  simp (disch := first | assumption | omega | rfl | simp only [RH]) only [↓RP, RG, FX, RQ, ↓reduceIte, Nat.reduceEqDiff, reduceCtorEq, Nat.reduceBEq, Nat.reduceAdd, Nat.reduceLeDiff]
  refine loopK_WW [3, 4, 35, 36] (fun a : Nat => a ≤ n) (fun a => ⟨[(3, I n), (4, .ptr 3 0 7), (35, I n), (36, I a)], FS (abv W n l) n (tAll (adjT W n l) n a)⟩) (fun a => n - a) 0 (by omega) ?_ ?_
  · simp only [↓RP, RG, FX, RQ, ↓reduceIte, Nat.reduceEqDiff, reduceCtorEq, Nat.reduceBEq, Nat.reduceAdd, Nat.reduceLeDiff]
    have e : FS (abv W n l) n (tAll (adjT W n l) n 0) = [⟨3, 1, ints (List.replicate n 0)⟩, ⟨3, 1, ints (List.replicate n 0)⟩, ⟨3, 1, ints (List.replicate n (-1))⟩, ⟨68, 7, [.list true false n (LL (abv W n l)), .ref 0 0 n n, .ref 1 0 n n, .ref 2 0 n n, .res 4, I 0, .res 5]⟩, ⟨0, 0, []⟩, ⟨0, 0, []⟩] := by
      rw [← fI_const, ← fI_const]; rfl
    rw [e]
    exact Wk.weak (fun t => .refl _) (.cons _ _ _ _ (WL.refl _) (.cons _ _ _ _ (WL.refl _) (.cons _ _ _ _ (WL.refl _) (.cons _ _ _ _ (.cons (.refl _) (.cons (.refl _) (.cons (.refl _) (.cons (.refl _) (.cons (.nil _) (.cons (.refl _) (.cons (.nil _) .nil))))))) (.nil _ (by simp))))))
  intro a ha
  obtain ⟨s, hs⟩ : ∃ s, tAll (adjT W n l) n a = s := ⟨_, rfl⟩
  have hsi := (hinv a ha).1
  rw [hs] at hsi
  simp only [hs]
  have m1 := fI_len n fun x => (s.ix x : Int)
  by_cases hlt : a < n
  · have gix : (fI n fun x => (s.ix x : Int)).getD a 0 = (s.ix a : Int) := fI_get hlt
    by_cases h0 : s.ix a = 0
    · have hnx : tAll (adjT W n l) n (a + 1) = tVis (adjT W n l) n s a := by
        show (if (tAll (adjT W n l) n a).ix a = 0 then _ else _) = _
        rw [hs, if_pos h0]
      have hg0 : (fI n fun x => (s.ix x : Int)).getD a 0 = 0 := by rw [gix, h0]; rfl
      unfold FS
      simp (disch := first | assumption | omega | rfl | simp only [RH]) only [↓RP, RG, FX, RQ, ↓reduceIte, Nat.reduceEqDiff, reduceCtorEq, Nat.reduceBEq, Nat.reduceAdd, Nat.reduceLeDiff, hg0, Int.toNat_natCast]
      refine callK_T rfl (visit_s (by omega) hrl hrow (fun a _ => adjT_le W n l a) adjT_in n s [] a hsi hlt h0 (fun g hg => by cases hg) (by have := hsi.mtc; omega)) ?_
      simp (disch := first | assumption | omega | rfl | simp only [RH]) only [↓RP, RG, FX, RQ, ↓reduceIte, Nat.reduceEqDiff, reduceCtorEq, Nat.reduceBEq, Nat.reduceAdd, Nat.reduceLeDiff]
      exact ⟨a + 1, hlt, Wk.of_eq (by rw [hnx]; rfl), by omega⟩
    · have hnx : tAll (adjT W n l) n (a + 1) = s := by
        show (if (tAll (adjT W n l) n a).ix a = 0 then _ else _) = _
        rw [hs, if_neg h0]
      have hg0 : ¬ (fI n fun x => (s.ix x : Int)).getD a 0 = 0 := by rw [gix]; omega
      unfold FS
      simp (disch := first | assumption | omega | rfl | simp only [RH]) only [↓RP, RG, FX, RQ, ↓reduceIte, Nat.reduceEqDiff, reduceCtorEq, Nat.reduceBEq, Nat.reduceAdd, Nat.reduceLeDiff, Int.toNat_natCast]
      exact ⟨a + 1, hlt, Wk.of_eq (by rw [hnx]; rfl), by omega⟩
  obtain rfl : n = a := by omega
  rw [hs] at hS
  have hpl : s.ps.length ≤ n := hS.len_le
  unfold FS
  obtain ⟨m, hm⟩ : ∃ m, s.ps.length = m := ⟨_, rfl⟩
  rw [hm] at hpl
  have hgs : gS (some (go 34 (rowsC s.ps))) (rowsC s.ps) = some (m, rowsC s.ps) := by rw [gS_go]; simp [rowsC, hm]
  have hmi : ((m : Nat) : Int).toNat = m := Int.toNat_natCast m
  have hcell : ofCell (.slice none 0 0) = .cap0 true := rfl
  -- which parts lie over which
  obtain ⟨P, hP⟩ : ∃ P : Nat → Nat, P = fun x => (s.pt x).toNat := ⟨_, rfl⟩
  obtain ⟨hF, hFn, hO⟩ := gAll_lies hS (m := m) hm.symm adjT_in (fun a _ => adjT_le W n l a)
  rw [← hP] at hF hFn hO
  have hPm : ∀ x, x < n → P x < m := fun x hx => by
    have h0 := hS.all x hx
    obtain ⟨l', h1, _⟩ := (hS.p1 x (s.pt x).toNat).1 (by omega)
    have := (List.getElem?_eq_some_iff.1 h1).1
    rw [hP]; simp only []; omega
  have hPt : ∀ x, x < n → s.pt x = (P x : Int) := fun x hx => by
    have h0 := hS.all x hx
    rw [hP]; simp only []; omega
  have hgi := gAt_inv (P := P) (n := n) (m := m) hPm adjT_in (fun a _ => adjT_le W n l a)
  simp (disch := first | assumption | omega | rfl | simp only [RH]) only [↓RP, RG, FX, RQ, ↓reduceIte, Nat.reduceEqDiff, reduceCtorEq, Nat.reduceBEq, Nat.reduceAdd, Nat.reduceLeDiff, sview_gw, hgs, make_int, make_one, hmi, hcell, ovV]
  generalize (⟨3, 1, ints (fI n fun x => (s.ix x : Int))⟩ : AObj) = o0
  generalize (⟨3, 1, ints (fI n fun x => (s.lo x : Int))⟩ : AObj) = o1
  generalize stO s.st s.jk = o4
  generalize stV 4 s.st s.jk = x4
  refine loopK_WW [3, 4, 6, 7, 57, 58, 59] (fun a : Nat => a ≤ n) (fun a => ⟨[(3, I n), (4, .ptr 3 0 7), (6, .ref 6 0 m m), (7, .ref 7 0 m m), (57, .list true false n (LL (abv W n l))), (58, I n), (59, I a)], o0 :: o1 :: ⟨3, 1, ints (fI n s.pt)⟩ :: ⟨68, 7, [.list true false n (LL (abv W n l)), .ref 0 0 n n, .ref 1 0 n n, .ref 2 0 n n, x4, I s.mt, gw true 5 (rowsC s.ps)]⟩ :: o4 :: go 34 (rowsC s.ps) :: ⟨3, 1, ints (fI m fun p => ((gAll (adjT W n l) P a).w p : Int))⟩ :: ⟨34, 1, gws 8 (fL m (gAll (adjT W n l) P a).f)⟩ :: (gos (fL m (gAll (adjT W n l) P a).f) ++ [])⟩) (fun a => n - a) 0 (by omega) ?_ ?_
  · simp only [↓RP, RG, FX, RQ, ↓reduceIte, Nat.reduceEqDiff, reduceCtorEq, Nat.reduceBEq, Nat.reduceAdd, Nat.reduceLeDiff]
    have e1 : (fI m fun p => ((gAll (adjT W n l) P 0).w p : Int)) = List.replicate m 0 := fI_const m 0
    have e2 : fL m (gAll (adjT W n l) P 0).f = List.replicate m [] := fL_nil m
    rw [e1, e2]
    exact Wk.weak (fun t => .refl _) (.app [o0, o1, _, _, o4, _, _] (.cons _ _ _ _ (WL_gws 8 m) (.nil _ (gos_nil m))))
  intro a ha
  by_cases hlt : a < n
  · have hra := LL_at (rs := abv W n l) (a := a) (by omega)
    rw [hrow a hlt] at hra
    have hal := adjT_le W n l a
    have hai : (nI (adjT W n l a)).length = (adjT W n l a).length := nI_len _
    simp (disch := first | assumption | omega | rfl | simp only [RH]) only [↓RP, RG, FX, RQ, ↓reduceIte, Nat.reduceEqDiff, reduceCtorEq, Nat.reduceBEq, Nat.reduceAdd, Nat.reduceLeDiff, hra, Int.toNat_natCast]
    refine loopK_I [3, 4, 6, 7, 8, 57, 58, 59, 64, 65, 66] (fun j : Nat => j ≤ (adjT W n l a).length) (fun j => ⟨[(3, I n), (4, .ptr 3 0 7), (6, .ref 6 0 m m), (7, .ref 7 0 m m), (8, I a), (57, .list true false n (LL (abv W n l))), (58, I n), (59, I a), (64, LR (nI (adjT W n l a)).isEmpty (nI (adjT W n l a))), (65, I (adjT W n l a).length), (66, I j)], o0 :: o1 :: ⟨3, 1, ints (fI n s.pt)⟩ :: ⟨68, 7, [.list true false n (LL (abv W n l)), .ref 0 0 n n, .ref 1 0 n n, .ref 2 0 n n, x4, I s.mt, gw true 5 (rowsC s.ps)]⟩ :: o4 :: go 34 (rowsC s.ps) :: ⟨3, 1, ints (fI m fun p => ((gRow (adjT W n l) P a (gAll (adjT W n l) P a) j).w p : Int))⟩ :: ⟨34, 1, gws 8 (fL m (gRow (adjT W n l) P a (gAll (adjT W n l) P a) j).f)⟩ :: (gos (fL m (gRow (adjT W n l) P a (gAll (adjT W n l) P a) j).f) ++ [])⟩) (fun j => (adjT W n l a).length - j) 0 (by omega) (by simp only [↓RP, RG, FX, RQ, ↓reduceIte, Nat.reduceEqDiff, reduceCtorEq, Nat.reduceBEq, Nat.reduceAdd, Nat.reduceLeDiff, hai]; rw [gRow_zero]; rfl) ?_
    intro j hj
    by_cases hlt2 : j < (adjT W n l a).length
    · obtain ⟨c, hc⟩ : ∃ c, (adjT W n l a)[j]? = some c := ⟨_, List.getElem?_eq_getElem hlt2⟩
      have hcn : c < n := adjT_lt (List.mem_of_getElem? hc)
      have hgc : (nI (adjT W n l a)).getD j 0 = (c : Int) := by simp [nI, List.getD_eq_getElem?_getD, hc]
      obtain ⟨_, hbd⟩ := (hgi a ha).2 hlt j hj
      have hnx := gRow_succ (P := P) (s := gAll (adjT W n l) P a) hc
      generalize gRow (adjT W n l) P a (gAll (adjT W n l) P a) j = t at *
      have hsq : a * n + j ≤ 64 * 64 + 64 := by
        have : a * n ≤ 64 * 64 := Nat.mul_le_mul (by omega) (by omega)
        omega
      have m3 := fI_len n s.pt
      have m4 := fI_len m fun p => (t.w p : Int)
      have gpa : (fI n s.pt).getD a 0 = (P a : Int) := by rw [fI_get hlt, hPt a hlt]
      have gpc : (fI n s.pt).getD c 0 = (P c : Int) := by rw [fI_get hcn, hPt c hcn]
      have hpa := hPm a hlt
      have hpc := hPm c hcn
      have gwp : (fI m fun p => (t.w p : Int)).getD (P a) 0 = (t.w (P a) : Int) := fI_get hpa
      have hwb := (hbd (P a)).2
      have hfb := (hbd (P c)).1
      have hfl := fL_len m t.f
      have gl : (gws 8 (fL m t.f)).length = m := by rw [gws_len, hfl]
      have a1 := gws_at (k := 8) (rs := fL m t.f) (a := P c) (by omega)
      rw [fL_get hpc] at a1
      by_cases hpq : P a = P c
      · have hst : gStep t (P a) (P c) = t := by unfold gStep; rw [if_neg (fun h => h.1 hpq)]
        rw [hst] at hnx
        have hpq2 : (P a : Int) = (P c : Int) := by omega
        simp (disch := first | assumption | omega | rfl | simp only [RH]) only [↓RP, RG, FX, RQ, ↓reduceIte, Nat.reduceEqDiff, reduceCtorEq, Nat.reduceBEq, Nat.reduceAdd, Nat.reduceLeDiff, hgc, gpa, gpc, Int.toNat_natCast]
        exact ⟨j + 1, hlt2, by rw [hnx]; rfl, by omega⟩
      · have hpq2 : ¬ (P a : Int) = (P c : Int) := by omega
        have oh := h8_at (o0 := o0) (o1 := o1) (o2 := ⟨3, 1, ints (fI n s.pt)⟩) (o3 := ⟨68, 7, [.list true false n (LL (abv W n l)), .ref 0 0 n n, .ref 1 0 n n, .ref 2 0 n n, x4, I s.mt, gw true 5 (rowsC s.ps)]⟩) (o4 := o4) (o5 := go 34 (rowsC s.ps)) (o6 := ⟨3, 1, ints (fI m fun p => (t.w p : Int))⟩) (o7 := ⟨34, 1, gws 8 (fL m t.f)⟩) (rs := fL m t.f) (tl := []) (a := P c) (by omega)
        rw [fL_get hpc, List.append_nil] at oh
        have hct := contains_c (nI (t.f (P c))).isEmpty (nI (t.f (P c))) (P a) (by rw [nI_len]; omega)
        by_cases hin : P a ∈ t.f (P c)
        · have hst : gStep t (P a) (P c) = t := by unfold gStep; rw [if_neg (fun h => h.2 hin)]
          rw [hst] at hnx
          rw [decide_eq_true (mem_nI.2 hin)] at hct
          simp (disch := first | assumption | omega | rfl | simp only [RH]) only [↓RP, RG, FX, RQ, ↓reduceIte, Nat.reduceEqDiff, reduceCtorEq, Nat.reduceBEq, Nat.reduceAdd, Nat.reduceLeDiff, hgc, gpa, gpc, cA_any, a1, Int.toNat_natCast]
          refine callK_F 6 hct (by simp only [List.map_cons, List.map_nil]; rw [argOf_gwI oh]; rfl) (.inl rfl) ?_
          simp (disch := first | assumption | omega | rfl | simp only [RH]) only [↓RP, RG, FX, RQ, ↓reduceIte, Nat.reduceEqDiff, reduceCtorEq, Nat.reduceBEq, Nat.reduceAdd, Nat.reduceLeDiff]
          exact ⟨j + 1, hlt2, by rw [hnx]; rfl, by omega⟩
        · have hst : gStep t (P a) (P c) = ⟨updN t.w (P a) (t.w (P a) + 1), updN t.f (P c) (t.f (P c) ++ [P a])⟩ := by unfold gStep; rw [if_pos ⟨hpq, hin⟩]
          rw [hst] at hnx
          rw [decide_eq_false (fun h => hin (mem_nI.1 h))] at hct
          have hil : (nI (t.f (P c))).length ≤ 1000000000 := by rw [nI_len]; omega
          have t1 : ∀ p0 p1 p2 p3 p4 p5 p6 p7 : AObj, (p0 :: p1 :: p2 :: p3 :: p4 :: p5 :: p6 :: p7 :: gos (fL m t.f)).set (8 + P c) (go 3 (ints (nI (t.f (P c)) ++ [(P a : Int)]))) = p0 :: p1 :: p2 :: p3 :: p4 :: p5 :: p6 :: p7 :: gos (fL m (updN t.f (P c) (t.f (P c) ++ [P a]))) := fun p0 p1 p2 p3 p4 p5 p6 p7 => by
            have := h8_set (o0 := p0) (o1 := p1) (o2 := p2) (o3 := p3) (o4 := p4) (o5 := p5) (o6 := p6) (o7 := p7) (rs := fL m t.f) (tl := []) (a := P c) (by omega) (nI (t.f (P c)) ++ [(P a : Int)])
            rw [List.append_nil, List.append_nil] at this
            rw [this, ← fL_set, nI_app2]; rfl
          have p1 : (gws 8 (fL m t.f)).set (P c) (gw true (8 + P c) (ints (nI (t.f (P c)) ++ [(P a : Int)]))) = gws 8 (fL m (updN t.f (P c) (t.f (P c) ++ [P a]))) := by
            rw [gws_set, ← fL_set, nI_app2]; rfl
          have e1 : (fI m fun p => (t.w p : Int)).set (P a) ((t.w (P a) : Int) + 1) = fI m fun p => ((updN t.w (P a) (t.w (P a) + 1) p : Nat) : Int) := by
            rw [fI_set, show (t.w (P a) : Int) + 1 = ((t.w (P a) + 1 : Nat) : Int) by omega, upd_cast]
          simp (disch := first | assumption | omega | rfl | simp only [RH]) only [↓RP, RG, FX, RQ, ↓reduceIte, Nat.reduceEqDiff, reduceCtorEq, Nat.reduceBEq, Nat.reduceAdd, Nat.reduceLeDiff, hgc, gpa, gpc, cA_any, a1, Int.toNat_natCast]
          refine callK_F 6 hct (by simp only [List.map_cons, List.map_nil]; rw [argOf_gwI oh]; rfl) (.inl rfl) ?_
          simp (disch := first | assumption | omega | rfl | simp only [RH]) only [↓RP, RG, FX, RQ, ↓reduceIte, Nat.reduceEqDiff, reduceCtorEq, Nat.reduceBEq, Nat.reduceAdd, Nat.reduceLeDiff, cA_any, a1, sX_gw, append_int, t1, p1, gwp, e1, Int.toNat_natCast]
          exact ⟨j + 1, hlt2, by rw [hnx]; rfl, by omega⟩
    · obtain rfl : (adjT W n l a).length = j := by omega
      simp (disch := first | assumption | omega | rfl | simp only [RH]) only [↓RP, RG, FX, RQ, ↓reduceIte, Nat.reduceEqDiff, reduceCtorEq, Nat.reduceBEq, Nat.reduceAdd, Nat.reduceLeDiff]
      exact ⟨a + 1, hlt, Wk.of_eq rfl, by omega⟩
  obtain rfl : n = a := by omega
  have hrc : (rowsC s.ps).length = m := by simp [rowsC, hm]
  obtain ⟨F, hFe⟩ : ∃ F, (gAll (adjT W n l) P n).f = F := ⟨_, rfl⟩
  obtain ⟨w0, hwe⟩ : ∃ w0, (gAll (adjT W n l) P n).w = w0 := ⟨_, rfl⟩
  rw [hFe, hwe] at hO
  rw [hFe] at hF hFn
  simp only [hFe, hwe]
  have hgl : (gos (fL m F)).length = m := by rw [gos_len, fL_len]
  simp (disch := first | assumption | omega | rfl | simp only [RH]) only [↓RP, RG, FX, RQ, ↓reduceIte, Nat.reduceEqDiff, reduceCtorEq, Nat.reduceBEq, Nat.reduceAdd, Nat.reduceLeDiff, make_bool, hrc, hgl, hmi]
  have hhd : ∀ a b, a < n → b < n → (hdB W n l a b = true ↔ Wy (adjT W n l) a b) := fun a b ha hb => hdB_iff ha hb
  have hoi := oAt_inv hS hhd hF hFn hO
  have hfin := oAt_all hS hhd hF hFn hO
  rw [hm] at hoi hfin
  have gl : (gws 8 (fL m F)).length = m := by rw [gws_len, fL_len]
  have fl := fL_len m F
  have t8 : ∀ (p0 p1 p2 p3 p4 p5 p6 p7 : AObj) (tl : List AObj), (p0 :: p1 :: p2 :: p3 :: p4 :: p5 :: p6 :: p7 :: (gos (fL m F) ++ tl))[m + 8]? = tl[0]? := fun _ _ _ _ _ _ _ _ _ => h8_t0 fl
  have t9 : ∀ (p0 p1 p2 p3 p4 p5 p6 p7 : AObj) (tl : List AObj), (p0 :: p1 :: p2 :: p3 :: p4 :: p5 :: p6 :: p7 :: (gos (fL m F) ++ tl))[m + 9]? = tl[1]? := fun _ _ _ _ _ _ _ _ _ => h8_t1 fl
  have s8 : ∀ (p0 p1 p2 p3 p4 p5 p6 p7 o : AObj) (tl : List AObj), (p0 :: p1 :: p2 :: p3 :: p4 :: p5 :: p6 :: p7 :: (gos (fL m F) ++ tl)).set (m + 8) o = p0 :: p1 :: p2 :: p3 :: p4 :: p5 :: p6 :: p7 :: (gos (fL m F) ++ tl.set 0 o) := fun _ _ _ _ _ _ _ _ _ _ => h8_s0 fl _
  have s9 : ∀ (p0 p1 p2 p3 p4 p5 p6 p7 o : AObj) (tl : List AObj), (p0 :: p1 :: p2 :: p3 :: p4 :: p5 :: p6 :: p7 :: (gos (fL m F) ++ tl)).set (m + 9) o = p0 :: p1 :: p2 :: p3 :: p4 :: p5 :: p6 :: p7 :: (gos (fL m F) ++ tl.set 1 o) := fun _ _ _ _ _ _ _ _ _ _ => h8_s1 fl _
  have hpos : ∀ i, i < m → 0 < (s.ps.getD i []).length := fun i hi => by
    rw [List.getD_eq_getElem?_getD, List.getElem?_eq_getElem (by omega), Option.getD_some]
    exact List.length_pos_iff.2 (hS.p2 _ (List.getElem_mem _)).1
  refine loopK_WW [4, 6, 7, 14, 15, 116, 117] (fun k : Nat => k ≤ m) (fun k => ⟨[(4, .ptr 3 0 7), (6, .ref 6 0 m m), (7, .ref 7 0 m m), (14, gw true (m + 9) (rowsC (oAt s.ps F w0 k).out)), (15, .ref (m + 8) 0 m m), (116, I m), (117, I k)], o0 :: o1 :: ⟨3, 1, ints (fI n s.pt)⟩ :: ⟨68, 7, [.list true false n (LL (abv W n l)), .ref 0 0 n n, .ref 1 0 n n, .ref 2 0 n n, x4, I s.mt, gw true 5 (rowsC s.ps)]⟩ :: o4 :: go 34 (rowsC s.ps) :: ⟨3, 1, ints (fI m fun p => (((oAt s.ps F w0 k).w) p : Int))⟩ :: ⟨34, 1, gws 8 (fL m F)⟩ :: (gos (fL m F) ++ [⟨4, 1, bools (fB m ((oAt s.ps F w0 k).D))⟩, go 34 (rowsC ((oAt s.ps F w0 k).out))])⟩) (fun k => m - k) 0 (by omega) ?_ ?_
  · simp only [↓RP, RG, FX, RQ, ↓reduceIte, Nat.reduceEqDiff, reduceCtorEq, Nat.reduceBEq, Nat.reduceAdd, Nat.reduceLeDiff]
    rw [← fB_none]
    refine Wk.weak (WE.cons _ (.refl _) (WE.cons _ (.refl _) (WE.cons _ (.refl _) (WE.cons _ (.nil _) (WE.cons _ (.refl _) (WE.cons _ (.refl _) (WE.cons _ (.refl _) WE.nil))))))) ?_
    have h9 := WO.app (o0 :: o1 :: ⟨3, 1, ints (fI n s.pt)⟩ :: ⟨68, 7, [.list true false n (LL (abv W n l)), .ref 0 0 n n, .ref 1 0 n n, .ref 2 0 n n, x4, I s.mt, gw true 5 (rowsC s.ps)]⟩ :: o4 :: go 34 (rowsC s.ps) :: ⟨3, 1, ints (fI m fun p => ((w0) p : Int))⟩ :: ⟨34, 1, gws 8 (fL m F)⟩ :: (gos (fL m F) ++ [⟨4, 1, bools (fB m (fun _ => false))⟩])) (r := []) (r' := [go 34 (rowsC [])]) (.nil _ (by simp [go, rowsC]))
    simp only [List.cons_append, List.append_assoc, List.nil_append, List.append_nil] at h9
    exact h9
  intro k hk
  obtain ⟨hok, hol, _⟩ := hoi k hk
  obtain ⟨O, hO'⟩ : ∃ O, oAt s.ps F w0 k = O := ⟨_, rfl⟩
  rw [hO'] at hok hol
  simp only [hO']
  have m5 := fI_len m fun p => (O.w p : Int)
  have m6 := fB_len m O.D
  by_cases hlt : k < m
  · obtain ⟨p, hp⟩ := hok.some hS hF (by omega)
    rw [hm] at hp
    obtain ⟨hpm, _, _⟩ := bstP_some hp
    have hnx : oAt s.ps F w0 (k + 1) = ⟨wDec O.w (F p), updN O.D p true, O.out ++ [s.ps.getD p []]⟩ := by
      show oStep s.ps F (oAt s.ps F w0 k) = _
      rw [hO']
      unfold oStep
      rw [hm, hp]
    simp (disch := first | assumption | omega | rfl | simp only [RH]) only [↓RP, RG, FX, RQ, ↓reduceIte, Nat.reduceEqDiff, reduceCtorEq, Nat.reduceBEq, Nat.reduceAdd, Nat.reduceLeDiff, sview_gw, hgs]
    refine loopK_I [4, 6, 7, 14, 15, 16, 116, 117, 121, 122] (fun i : Nat => i ≤ m) (fun i => ⟨[(4, .ptr 3 0 7), (6, .ref 6 0 m m), (7, .ref 7 0 m m), (14, gw true (m + 9) (rowsC O.out)), (15, .ref (m + 8) 0 m m), (16, I (nxV (bstP s.ps (cdW O.w O.D) i))), (116, I m), (117, I k), (121, I m), (122, I i)], o0 :: o1 :: ⟨3, 1, ints (fI n s.pt)⟩ :: ⟨68, 7, [.list true false n (LL (abv W n l)), .ref 0 0 n n, .ref 1 0 n n, .ref 2 0 n n, x4, I s.mt, gw true 5 (rowsC s.ps)]⟩ :: o4 :: go 34 (rowsC s.ps) :: ⟨3, 1, ints (fI m fun p => ((O.w) p : Int))⟩ :: ⟨34, 1, gws 8 (fL m F)⟩ :: (gos (fL m F) ++ [⟨4, 1, bools (fB m (O.D))⟩, go 34 (rowsC (O.out))])⟩) (fun i => m - i) 0 (by omega) (by simp only [↓RP, RG, FX, RQ, ↓reduceIte, Nat.reduceEqDiff, reduceCtorEq, Nat.reduceBEq, Nat.reduceAdd, Nat.reduceLeDiff, hrc]; rfl) ?_
    intro i hi
    by_cases hlt2 : i < m
    · have gdi : (fB m O.D).getD i false = O.D i := fB_get hlt2
      have gwi : (fI m fun p => (O.w p : Int)).getD i 0 = (O.w i : Int) := fI_get hlt2
      have hbs : bstP s.ps (cdW O.w O.D) (i + 1) = if (cdW O.w O.D i && btr s.ps (bstP s.ps (cdW O.w O.D) i) i) = true then some i else bstP s.ps (cdW O.w O.D) i := rfl
      have hcdd : cdW O.w O.D i = (!O.D i && decide (O.w i = 0)) := rfl
      obtain ⟨B, hB⟩ : ∃ B, bstP s.ps (cdW O.w O.D) i = B := ⟨_, rfl⟩
      rw [hB] at hbs
      simp only [hB]
      by_cases hd : O.D i = true
      · have hnx2 : bstP s.ps (cdW O.w O.D) (i + 1) = B := by rw [hbs, hcdd, hd]; rfl
        have gd : (fB m O.D).getD i false = true := by rw [gdi, hd]
        simp (disch := first | assumption | omega | rfl | simp only [RH]) only [↓RP, RG, FX, RQ, ↓reduceIte, Nat.reduceEqDiff, reduceCtorEq, Nat.reduceBEq, Nat.reduceAdd, Nat.reduceLeDiff, t8, gd, Int.toNat_natCast]
        exact ⟨i + 1, hlt2, by rw [hnx2]; rfl, by omega⟩
      · have hd' : O.D i = false := by simpa using hd
        have gd : (fB m O.D).getD i false = false := by rw [gdi, hd']
        by_cases hw : O.w i = 0
        · have hw2 : (fI m fun p => (O.w p : Int)).getD i 0 = 0 := by rw [gwi, hw]; rfl
          have hcd : cdW O.w O.D i = true := by rw [hcdd, hd', hw]; rfl
          have hri := rowsC_at (ps := s.ps) (i := i) (by omega)
          cases B with
          | none =>
            have hnx2 : bstP s.ps (cdW O.w O.D) (i + 1) = some i := by rw [hbs, hcd]; rfl
            simp only [nxV]
            simp (disch := first | assumption | omega | rfl | simp only [RH]) only [↓RP, RG, FX, RQ, ↓reduceIte, Nat.reduceEqDiff, reduceCtorEq, Nat.reduceBEq, Nat.reduceAdd, Nat.reduceLeDiff, t8, gd, hw2, Int.toNat_natCast]
            exact ⟨i + 1, hlt2, by rw [hnx2]; rfl, by omega⟩
          | some p' =>
            obtain ⟨hpi, _, _⟩ := bstP_some hB
            have hrp := rowsC_at (ps := s.ps) (i := p') (by omega)
            have hni := hpos i (by omega)
            have hnp := hpos p' (by omega)
            have hgi2 := hdL_nI hni
            have hgp2 := hdL_nI hnp
            have hz0 : Int.toNat 0 = 0 := rfl
            have hli : (nI (s.ps.getD i [])).length = (s.ps.getD i []).length := nI_len _
            have hlp : (nI (s.ps.getD p' [])).length = (s.ps.getD p' []).length := nI_len _
            by_cases hc : hdL (s.ps.getD i []) < hdL (s.ps.getD p' [])
            · have hnx2 : bstP s.ps (cdW O.w O.D) (i + 1) = some i := by
                rw [hbs, hcd, if_pos]
                simp only [btr, Bool.true_and, decide_eq_true_eq]; exact hc
              simp only [nxV]
              generalize s.ps.getD i [] = qi at *
              generalize s.ps.getD p' [] = qp at *
              simp (disch := first | assumption | omega | rfl | simp only [RH]) only [↓RP, RG, FX, RQ, ↓reduceIte, Nat.reduceEqDiff, reduceCtorEq, Nat.reduceBEq, Nat.reduceAdd, Nat.reduceLeDiff, t8, gd, hw2, hri, hrp, hgi2, hgp2, hz0, sview_gw, hgs, Int.toNat_natCast]
              exact ⟨i + 1, hlt2, by rw [hnx2]; rfl, by omega⟩
            · have hnx2 : bstP s.ps (cdW O.w O.D) (i + 1) = some p' := by
                rw [hbs, hcd, if_neg]
                simp only [btr, Bool.true_and, decide_eq_true_eq]; exact hc
              simp only [nxV]
              generalize s.ps.getD i [] = qi at *
              generalize s.ps.getD p' [] = qp at *
              simp (disch := first | assumption | omega | rfl | simp only [RH]) only [↓RP, RG, FX, RQ, ↓reduceIte, Nat.reduceEqDiff, reduceCtorEq, Nat.reduceBEq, Nat.reduceAdd, Nat.reduceLeDiff, t8, gd, hw2, hri, hrp, hgi2, hgp2, hz0, sview_gw, hgs, Int.toNat_natCast]
              exact ⟨i + 1, hlt2, by rw [hnx2]; rfl, by omega⟩
        · have hw2 : ¬ (fI m fun p => (O.w p : Int)).getD i 0 = 0 := by rw [gwi]; omega
          have hnx2 : bstP s.ps (cdW O.w O.D) (i + 1) = B := by rw [hbs, hcdd, hd', decide_eq_false hw]; rfl
          simp (disch := first | assumption | omega | rfl | simp only [RH]) only [↓RP, RG, FX, RQ, ↓reduceIte, Nat.reduceEqDiff, reduceCtorEq, Nat.reduceBEq, Nat.reduceAdd, Nat.reduceLeDiff, t8, gd, hw2, Int.toNat_natCast]
          exact ⟨i + 1, hlt2, by rw [hnx2]; rfl, by omega⟩
    · obtain rfl : m = i := by omega
      rw [hp]
      simp only [nxV]
      have gp : (fB m O.D).set p true = fB m (updN O.D p true) := fB_set true
      have a1 := gws_at (k := 8) (rs := fL m F) (a := p) (by omega)
      rw [fL_get hpm] at a1
      have oh : ∀ (p0 p1 p2 p3 p4 p5 p6 p7 : AObj) (tl : List AObj), (p0 :: p1 :: p2 :: p3 :: p4 :: p5 :: p6 :: p7 :: (gos (fL m F) ++ tl))[8 + p]? = some (go 3 (ints (nI (F p)))) := fun p0 p1 p2 p3 p4 p5 p6 p7 tl => by
        have := h8_at (o0 := p0) (o1 := p1) (o2 := p2) (o3 := p3) (o4 := p4) (o5 := p5) (o6 := p6) (o7 := p7) (rs := fL m F) (tl := tl) (a := p) (by omega)
        rw [fL_get hpm] at this
        exact this
      have hfl : (F p).length ≤ 64 * 64 := by
        have h1 := ((hgi n (Nat.le_refl _)).1.2 p).1
        rw [hFe] at h1
        exact Nat.le_trans h1 (Nat.mul_le_mul hn64 hn64)
      have hfl2 := nI_len (F p)
      have hpm2 : p ≤ 64 := by omega
      simp (disch := first | assumption | omega | rfl | simp only [RH]) only [↓RP, RG, FX, RQ, ↓reduceIte, Nat.reduceEqDiff, reduceCtorEq, Nat.reduceBEq, Nat.reduceAdd, Nat.reduceLeDiff, t8, s8, gp, cA_any, a1, oh, Int.toNat_natCast]
      obtain ⟨D1, hD1⟩ : ∃ D1, updN O.D p true = D1 := ⟨_, rfl⟩
      simp only [hD1] at hnx ⊢
      have hOw : ∀ r, O.w r ≤ m := fun r => by
        rw [hok.o1, hm]
        exact Nat.le_trans List.countP_le_length (by simp)
      have hwr : ∀ i r, (F p)[i]? = some r → r < m ∧ 1 ≤ wDec O.w ((F p).take i) r ∧ wDec O.w ((F p).take i) r ≤ m := fun i r hr => by
        have hmem := List.mem_of_getElem? hr
        have hl := (hF r p).1 hmem
        have h2 := (hS.lies_lt hl).2
        have hnd := hFn p
        obtain ⟨hil, he⟩ := List.getElem?_eq_some_iff.1 hr
        have hnt : ¬ r ∈ (F p).take i := fun h => by
          obtain ⟨j, hj, hje⟩ := List.mem_iff_getElem.1 h
          rw [List.getElem_take] at hje
          rw [List.length_take] at hj
          exact List.pairwise_iff_getElem.1 hnd j i _ _ (by omega) (hje.trans he.symm)
        rw [wDec_get ((List.take_sublist _ _).nodup hnd), if_neg hnt]
        refine ⟨by omega, ?_, hOw r⟩
        rw [hok.o1]
        refine List.countP_pos_iff.2 ⟨p, List.mem_range.2 (by omega), ?_⟩
        have hcp := (bstP_some hp).2.1
        unfold cdW at hcp
        rw [Bool.and_eq_true] at hcp ⊢
        exact ⟨hcp.1, decide_eq_true hmem⟩
      refine loopK_I [4, 6, 7, 14, 15, 16, 116, 117, 166, 167, 168] (fun i : Nat => i ≤ (F p).length) (fun i => ⟨[(4, .ptr 3 0 7), (6, .ref 6 0 m m), (7, .ref 7 0 m m), (14, gw true (m + 9) (rowsC O.out)), (15, .ref (m + 8) 0 m m), (16, I p), (116, I m), (117, I k), (166, gw true (8 + p) (ints (nI (F p)))), (167, I (F p).length), (168, I i)], o0 :: o1 :: ⟨3, 1, ints (fI n s.pt)⟩ :: ⟨68, 7, [.list true false n (LL (abv W n l)), .ref 0 0 n n, .ref 1 0 n n, .ref 2 0 n n, x4, I s.mt, gw true 5 (rowsC s.ps)]⟩ :: o4 :: go 34 (rowsC s.ps) :: ⟨3, 1, ints (fI m fun x => ((wDec O.w ((F p).take i)) x : Int))⟩ :: ⟨34, 1, gws 8 (fL m F)⟩ :: (gos (fL m F) ++ [⟨4, 1, bools (fB m D1)⟩, go 34 (rowsC (O.out))])⟩) (fun i => (F p).length - i) 0 (by omega) (by simp only [↓RP, RG, FX, RQ, ↓reduceIte, Nat.reduceEqDiff, reduceCtorEq, Nat.reduceBEq, Nat.reduceAdd, Nat.reduceLeDiff, hfl2]; rfl) ?_
      intro i hi
      by_cases hlt3 : i < (F p).length
      · obtain ⟨r, hr⟩ : ∃ r, (F p)[i]? = some r := ⟨_, List.getElem?_eq_getElem hlt3⟩
        obtain ⟨hrm, hw1, hw2⟩ := hwr i r hr
        have hws : wDec O.w ((F p).take (i + 1)) = updN (wDec O.w ((F p).take i)) r (wDec O.w ((F p).take i) r - 1) := by
          unfold wDec
          rw [List.take_add_one, hr, Option.toList_some, List.foldl_append]; rfl
        generalize wDec O.w ((F p).take i) = w at *
        have hgr : (nI (F p)).getD i 0 = (r : Int) := by simp [nI, List.getD_eq_getElem?_getD, hr]
        have gw0 : (fI m fun x => (w x : Int)).getD r 0 = (w r : Int) := fI_get hrm
        have m7 := fI_len m fun x => (w x : Int)
        have e1 : (fI m fun x => (w x : Int)).set r ((w r : Int) - 1) = fI m fun x => ((updN w r (w r - 1) x : Nat) : Int) := by
          rw [fI_set, show (w r : Int) - 1 = ((w r - 1 : Nat) : Int) by omega, upd_cast]
        have hix : (i : Int) < ((ints (nI (F p))).length : Int) := by rw [ints_length, hfl2]; omega
        have hcA : cA (some (go 3 (ints (nI (F p))))) (nI (F p)).length = some (ints (nI (F p))) := cA_go (ints_length _)
        simp (disch := first | assumption | omega | rfl | simp only [RH]) only [↓RP, RG, FX, RQ, ↓reduceIte, Nat.reduceEqDiff, reduceCtorEq, Nat.reduceBEq, Nat.reduceAdd, Nat.reduceLeDiff, idx_gw, cA_any, hcA, oh, hgr, gw0, e1, Int.toNat_natCast]
        exact ⟨i + 1, hlt3, by rw [hws]; rfl, by omega⟩
      · obtain rfl : (F p).length = i := by omega
        rw [List.take_length]
        have hrp := rowsC_at (ps := s.ps) (i := p) (by omega)
        have hro : rowsC O.out ++ [AVal.list true false (nI (s.ps.getD p [])).length (ints (nI (s.ps.getD p [])))] = rowsC (O.out ++ [s.ps.getD p []]) := by simp [rowsC]
        have hap : ∀ p0 p1 p2 p3 p4 p5 p6 p7 tt : AObj, aAppend Tryd.prog 31 (p0 :: p1 :: p2 :: p3 :: p4 :: p5 :: p6 :: p7 :: (gos (fL m F) ++ [tt, go 34 (rowsC O.out)])) (gw true (m + 9) (rowsC O.out)) (.lit 1 [.list true false (nI (s.ps.getD p [])).length (ints (nI (s.ps.getD p [])))]) = some (gw true (m + 9) (rowsC (O.out ++ [s.ps.getD p []])), p0 :: p1 :: p2 :: p3 :: p4 :: p5 :: p6 :: p7 :: (gos (fL m F) ++ [tt, go 34 (rowsC (O.out ++ [s.ps.getD p []]))])) := fun p0 p1 p2 p3 p4 p5 p6 p7 tt => by
          rw [append_list (e := 34) (xs := rowsC O.out) (by rw [t9]; rfl) (by simp [rowsC, hol]; omega), s9, hro]; rfl
        simp (disch := first | assumption | omega | rfl | simp only [RH]) only [↓RP, RG, FX, RQ, ↓reduceIte, Nat.reduceEqDiff, reduceCtorEq, Nat.reduceBEq, Nat.reduceAdd, Nat.reduceLeDiff, hrp, t9, s9, hap, sview_gw, hgs, Int.toNat_natCast]
        exact ⟨k + 1, hlt, Wk.of_eq (by rw [hnx]; rfl), by omega⟩
  · obtain rfl : m = k := by omega
    rw [hO'] at hfin
    simp (disch := first | assumption | omega | rfl | simp only [RH]) only [↓RP, RG, FX, RQ, ↓reduceIte, Nat.reduceEqDiff, reduceCtorEq, Nat.reduceBEq, Nat.reduceAdd, Nat.reduceLeDiff]
    rw [resVal_1 rfl]; simp (disch := first | assumption | omega | rfl | simp only [RH]) only [↓RP, RG, FX, RQ, ↓reduceIte, Nat.reduceEqDiff, reduceCtorEq, Nat.reduceBEq, Nat.reduceAdd, Nat.reduceLeDiff, RS]
    have hgx : (gos (fL m F) ++ [⟨4, 1, bools (fB m O.D)⟩, go 34 (rowsC O.out)])[m + 1]? = some (go 34 (rowsC O.out)) := by
      rw [List.getElem?_append_right (by rw [hgl]; omega), hgl, Nat.add_sub_cancel_left]; rfl
    rw [hgx, gaR_go, rowsC_res, hfin]
    simp only [PV, PL, rowsC, List.length_map, Bool.true_and, List.isEmpty_map]
end Go.Proofs.YtmfddbhemknkfaaDoor

/- Chapter 11: the reference's table of what holds what. -/
set_option linter.unusedSimpArgs false
set_option linter.unusedVariables false
set_option maxRecDepth 100000
namespace Go.Proofs.YtmfddbhemknkfaaDoor
open Go Go.Proofs Go.AW

section
variable {p0 p1 : AObj} {g : Nat → List Bool} {i : Nat} {tl : List AObj}
end
end Go.Proofs.YtmfddbhemknkfaaDoor

/- Chapter 11: the reference's list of the parts. -/
set_option linter.unusedSimpArgs false
set_option linter.unusedVariables false
set_option maxRecDepth 100000
namespace Go.Proofs.YtmfddbhemknkfaaDoor
open Go Go.Proofs Go.AW

end Go.Proofs.YtmfddbhemknkfaaDoor

/- Chapter 11: the reference's list, part by part. Plain. -/
set_option linter.unusedSimpArgs false
set_option linter.unusedVariables false
set_option maxRecDepth 100000
namespace Go.Proofs.YtmfddbhemknkfaaDoor
open Go Go.Proofs Go.AW

def lSt (hd : Nat → Nat → Bool) (n : Nat) : Nat → List (List Nat) × (Nat → Bool)
  | 0 => ([], fun _ => false)
  | k + 1 => match (List.range n).find? (cnd hd n (lSt hd n k).2) with
    | none => lSt hd n k
    | some a => ((lSt hd n k).1 ++ [mtl hd n a], fun b => (lSt hd n k).2 b || (hd a b && hd b a))
def lCt (hd : Nat → Nat → Bool) (n k : Nat) : Nat := (List.range n).countP (lSt hd n k).2
theorem countP_or {α : Type} {p q : α → Bool} : ∀ (l : List α), (∀ x ∈ l, q x = true → p x = false) → l.countP (fun x => p x || q x) = l.countP p + (l.filter q).length
  | [], _ => rfl
  | x :: l, h => by
    have ih := countP_or l fun y hy => h y (List.mem_cons_of_mem _ hy)
    have hx := h x List.mem_cons_self
    cases hp : p x with
    | true =>
      cases hq : q x with
      | true => rw [hx hq] at hp; cases hp
      | false =>
        rw [List.countP_cons_of_pos (by simp [hp]), List.countP_cons_of_pos hp, List.filter_cons_of_neg (by simp [hq]), ih]; omega
    | false =>
      cases hq : q x with
      | true =>
        rw [List.countP_cons_of_pos (by simp [hq]), List.countP_cons_of_neg (by simp [hp]), List.filter_cons_of_pos hq, List.length_cons, ih]; omega
      | false =>
        rw [List.countP_cons_of_neg (by simp [hp, hq]), List.countP_cons_of_neg (by simp [hp]), List.filter_cons_of_neg (by simp [hq]), ih]
section
variable {ov : Nat → List Nat} {n : Nat} {ps : List (List Nat)} {pt : Nat → Int} {hd : Nat → Nat → Bool} {F : Nat → List Nat} {w : Nat → Nat}
theorem lSt_step (S : Scc ov n ps pt) (hhd : ∀ a b, a < n → b < n → (hd a b = true ↔ Wy ov a b)) (hF : ∀ p q, p ∈ F q ↔ lies ov pt p q) (hFn : ∀ q, (F q).Nodup) (O : OInv ov n ps pt F 0 w fun _ => false) {k : Nat} (hk : k < ps.length)
    (i1 : (lSt hd n k).1 = (oAt ps F w k).out) (i2 : ∀ b (q : Nat), pt b = (q : Int) → (lSt hd n k).2 b = (oAt ps F w k).D q) :
    (∃ a, a < n ∧ (List.range n).find? (cnd hd n (lSt hd n k).2) = some a ∧ (∀ b, b < n → hd a b = true → hd b a = true → (lSt hd n k).2 b = false) ∧ hd a a = true) ∧
    (lSt hd n (k + 1)).1 = (oAt ps F w (k + 1)).out ∧ ∀ b (q : Nat), pt b = (q : Int) → (lSt hd n (k + 1)).2 b = (oAt ps F w (k + 1)).D q := by
  obtain ⟨o1, _, _⟩ := oAt_inv S hhd hF hFn O k (by omega)
  obtain ⟨p, hp⟩ := o1.some S hF hk
  obtain ⟨a, ha, hpa, hfind⟩ := S.next_is hhd i2 o1.o2 (fun p _ => o1.cd_iff S hF) hp
  have hs : oAt ps F w (k + 1) = ⟨wDec (oAt ps F w k).w (F p), updN (oAt ps F w k).D p true, (oAt ps F w k).out ++ [ps.getD p []]⟩ := by
    show oStep ps F (oAt ps F w k) = _
    unfold oStep; rw [hp]
  have hl : lSt hd n (k + 1) = ((lSt hd n k).1 ++ [mtl hd n a], fun b => (lSt hd n k).2 b || (hd a b && hd b a)) := by
    rw [lSt, hfind]
  have hm : ∀ b, b < n → ∀ q : Nat, pt b = (q : Int) → ((hd a b && hd b a) = true ↔ q = p) := fun b hbn q hq => by
    rw [Bool.and_eq_true, hhd a b ha hbn, hhd b a hbn ha, ← S.p3 a b (by omega), hq, hpa]
    omega
  refine ⟨⟨a, ha, hfind, fun b hb h1 h2 => ?_, (hhd a a ha ha).2 (.refl a)⟩, ?_, fun b q hq => ?_⟩
  · have h0 := S.all b hb
    have hq : pt b = ((pt b).toNat : Int) := by omega
    have := (hm b hb _ hq).1 (by rw [h1, h2]; rfl)
    rw [i2 b _ hq, this]
    have := (bstP_some hp).2.1
    unfold cdW at this
    rw [Bool.and_eq_true] at this
    simpa using this.1
  · rw [hl, hs]
    show _ ++ _ = _ ++ _
    rw [i1, S.part_is hhd ha hpa]
  · have hbn : b < n := S.lt b (by omega)
    rw [hl, hs]
    show ((lSt hd n k).2 b || (hd a b && hd b a)) = updN _ p true q
    have hmm := hm b hbn q hq
    by_cases hqp : q = p
    · rw [hqp, updN_same, hmm.2 hqp]; simp
    · rw [updN_other _ _ hqp, i2 b q hq]
      have : (hd a b && hd b a) = false := by
        cases h : (hd a b && hd b a) with
        | false => rfl
        | true => exact absurd (hmm.1 h) hqp
      rw [this]; simp
theorem lSt_inv (S : Scc ov n ps pt) (hhd : ∀ a b, a < n → b < n → (hd a b = true ↔ Wy ov a b)) (hF : ∀ p q, p ∈ F q ↔ lies ov pt p q) (hFn : ∀ q, (F q).Nodup) (O : OInv ov n ps pt F 0 w fun _ => false) :
    ∀ k, k ≤ ps.length → (lSt hd n k).1 = (oAt ps F w k).out ∧ ∀ b (q : Nat), pt b = (q : Int) → (lSt hd n k).2 b = (oAt ps F w k).D q
  | 0, _ => ⟨rfl, fun _ _ _ => rfl⟩
  | k + 1, hk => by
    obtain ⟨i1, i2⟩ := lSt_inv S hhd hF hFn O k (by omega)
    exact (lSt_step S hhd hF hFn O (by omega) i1 i2).2
theorem lSt_run (S : Scc ov n ps pt) (hhd : ∀ a b, a < n → b < n → (hd a b = true ↔ Wy ov a b)) (hF : ∀ p q, p ∈ F q ↔ lies ov pt p q) (hFn : ∀ q, (F q).Nodup) (O : OInv ov n ps pt F 0 w fun _ => false) :
    (∀ k, k < ps.length → lCt hd n k < n ∧ ∃ a, a < n ∧ (List.range n).find? (cnd hd n (lSt hd n k).2) = some a ∧ hd a a = true ∧ lCt hd n (k + 1) = lCt hd n k + (mtl hd n a).length ∧ (∀ b, b < n → hd a b = true → hd b a = true → (lSt hd n k).2 b = false)) ∧
    lCt hd n ps.length = n ∧ (lSt hd n ps.length).1 = lsP hd n n fun _ => false := by
  refine ⟨fun k hk => ?_, ?_, ?_⟩
  · obtain ⟨i1, i2⟩ := lSt_inv S hhd hF hFn O k (by omega)
    obtain ⟨⟨a, ha, hf, hz, haa⟩, _⟩ := lSt_step S hhd hF hFn O hk i1 i2
    have hl : lSt hd n (k + 1) = ((lSt hd n k).1 ++ [mtl hd n a], fun b => (lSt hd n k).2 b || (hd a b && hd b a)) := by
      rw [lSt, hf]
    have hct : lCt hd n (k + 1) = lCt hd n k + (mtl hd n a).length := by
      unfold lCt
      rw [hl]
      refine countP_or _ fun x hx hq => ?_
      rw [Bool.and_eq_true] at hq
      exact hz x (List.mem_range.1 hx) hq.1 hq.2
    have hle : lCt hd n (k + 1) ≤ n := by
      unfold lCt
      exact Nat.le_trans List.countP_le_length (by simp)
    have hpos : 0 < (mtl hd n a).length := List.length_pos_iff.2 fun h => by
      have : a ∈ mtl hd n a := by rw [mtl, List.mem_filter, haa]; exact ⟨List.mem_range.2 ha, rfl⟩
      rw [h] at this; cases this
    exact ⟨by omega, a, ha, hf, haa, hct, hz⟩
  · obtain ⟨_, i2⟩ := lSt_inv S hhd hF hFn O ps.length (Nat.le_refl _)
    obtain ⟨o1, _, _⟩ := oAt_inv S hhd hF hFn O ps.length (Nat.le_refl _)
    have hall : ∀ p, p < ps.length → (oAt ps F w ps.length).D p = true := by
      have h2 : (List.range ps.length).countP (oAt ps F w ps.length).D = (List.range ps.length).length := by rw [o1.o3]; simp
      exact fun p hp => (List.countP_eq_length.1 h2) p (List.mem_range.2 hp)
    unfold lCt
    have : (List.range n).countP (lSt hd n ps.length).2 = (List.range n).length := List.countP_eq_length.2 fun b hb => by
      have hbn := List.mem_range.1 hb
      have h0 := S.all b hbn
      obtain ⟨l, h1, _⟩ := (S.p1 b (pt b).toNat).1 (by omega)
      have hlt := (List.getElem?_eq_some_iff.1 h1).1
      rw [i2 b (pt b).toNat (by omega)]
      exact hall _ hlt
    rw [this]; simp
  · rw [(lSt_inv S hhd hF hFn O ps.length (Nat.le_refl _)).1]
    exact oAt_all S hhd hF hFn O
end
end Go.Proofs.YtmfddbhemknkfaaDoor

/- Chapter 11: the reference's list of the parts. -/
set_option linter.unusedSimpArgs false
set_option linter.unusedVariables false
set_option maxRecDepth 100000
namespace Go.Proofs.YtmfddbhemknkfaaDoor
open Go Go.Proofs Go.AW

theorem lists_run (W n : Nat) (l : List Bool) : ∃ m, m ≤ n ∧ (∀ k, k < m → lCt (hdB W n l) n k < n ∧ ∃ a, a < n ∧ (List.range n).find? (cnd (hdB W n l) n (lSt (hdB W n l) n k).2) = some a ∧ hdB W n l a a = true ∧ lCt (hdB W n l) n (k + 1) = lCt (hdB W n l) n k + (mtl (hdB W n l) n a).length ∧ (∀ b, b < n → hdB W n l a b = true → hdB W n l b a = true → (lSt (hdB W n l) n k).2 b = false)) ∧
    lCt (hdB W n l) n m = n ∧ (lSt (hdB W n l) n m).1 = PL W n l := by
  have hS := tAll_scc (ov := adjT W n l) (n := n) adjT_in
  obtain ⟨hF, hFn, hO⟩ := gAll_lies hS (m := (tAll (adjT W n l) n n).ps.length) rfl adjT_in (fun a _ => adjT_le W n l a)
  have h := lSt_run hS (fun a b ha hb => hdB_iff ha hb) hF hFn hO
  exact ⟨_, hS.len_le, h.1, h.2.1, h.2.2⟩
section
variable {p0 p1 p2 : AObj} {rs : List (List Int)} {i : Nat} {tl : List AObj}
end
theorem lSt_len {hd : Nat → Nat → Bool} {n m : Nat} (h : ∀ k, k < m → ∃ a, (List.range n).find? (cnd hd n (lSt hd n k).2) = some a) : ∀ k, k ≤ m → (lSt hd n k).1.length = k
  | 0, _ => rfl
  | k + 1, hk => by
    obtain ⟨a, ha⟩ := h k (by omega)
    rw [lSt, ha]
    show ((lSt hd n k).1 ++ [mtl hd n a]).length = _
    rw [List.length_append, lSt_len h k (by omega)]; rfl
end Go.Proofs.YtmfddbhemknkfaaDoor

/- Chapter 11: the parts hold each thread once. -/
set_option linter.unusedSimpArgs false
set_option linter.unusedVariables false
set_option maxRecDepth 100000
namespace Go.Proofs.YtmfddbhemknkfaaDoor
open Go Go.Proofs Go.AW

theorem lSt_flat {hd : Nat → Nat → Bool} {n m : Nat} (h : ∀ k, k < m → ∃ a, a < n ∧ (List.range n).find? (cnd hd n (lSt hd n k).2) = some a ∧ (∀ b, b < n → hd a b = true → hd b a = true → (lSt hd n k).2 b = false)) : ∀ k, k ≤ m → (lSt hd n k).1.flatten.Nodup ∧ ∀ x, x ∈ (lSt hd n k).1.flatten ↔ x < n ∧ (lSt hd n k).2 x = true
  | 0, _ => ⟨List.nodup_nil, fun x => ⟨(fun h => by cases h), fun h => by cases h.2⟩⟩
  | k + 1, hk => by
    obtain ⟨i1, i2⟩ := lSt_flat h k (by omega)
    obtain ⟨a, ha, hf, hz⟩ := h k (by omega)
    have hs : lSt hd n (k + 1) = ((lSt hd n k).1 ++ [mtl hd n a], fun b => (lSt hd n k).2 b || (hd a b && hd b a)) := by
      rw [lSt, hf]
    rw [hs]
    have hm : ∀ x, x ∈ mtl hd n a ↔ x < n ∧ hd a x = true ∧ hd x a = true := fun x => by
      rw [mtl, List.mem_filter, List.mem_range, Bool.and_eq_true]
    have he : ((lSt hd n k).1 ++ [mtl hd n a]).flatten = (lSt hd n k).1.flatten ++ mtl hd n a := by simp
    show ((lSt hd n k).1 ++ [mtl hd n a]).flatten.Nodup ∧ ∀ x, x ∈ ((lSt hd n k).1 ++ [mtl hd n a]).flatten ↔ x < n ∧ ((lSt hd n k).2 x || (hd a x && hd x a)) = true
    rw [he]
    refine ⟨List.nodup_append.2 ⟨i1, List.Pairwise.filter _ List.nodup_range, fun x hx y hy e => ?_⟩, fun x => ?_⟩
    · subst e
      have h1 := (i2 x).1 hx
      have h2 := (hm x).1 hy
      rw [hz x h2.1 h2.2.1 h2.2.2] at h1
      cases h1.2
    · rw [List.mem_append, i2, hm, Bool.or_eq_true, Bool.and_eq_true]
      constructor
      · rintro (⟨h1, h2⟩ | ⟨h1, h2⟩)
        · exact ⟨h1, .inl h2⟩
        · exact ⟨h1, .inr h2⟩
      · rintro ⟨h1, h2 | h2⟩
        · exact .inl ⟨h1, h2⟩
        · exact .inr ⟨h1, h2⟩
theorem PL_flat (W n : Nat) (l : List Bool) : (PL W n l).flatten.Nodup ∧ ∀ x, x ∈ (PL W n l).flatten ↔ x < n := by
  obtain ⟨m, hmn, hst, hcm, hfin⟩ := lists_run W n l
  obtain ⟨h1, h2⟩ := lSt_flat (m := m) (fun k hk => (hst k hk).2.imp fun a h => ⟨h.1, h.2.1, h.2.2.2.2⟩) m (Nat.le_refl _)
  rw [hfin] at h1 h2
  refine ⟨h1, fun x => ⟨fun h => ((h2 x).1 h).1, fun h => (h2 x).2 ⟨h, ?_⟩⟩⟩
  unfold lCt at hcm
  have : (List.range n).countP (lSt (hdB W n l) n m).2 = (List.range n).length := by rw [hcm]; simp
  exact List.countP_eq_length.1 this x (List.mem_range.2 h)
theorem PL_row {W n : Nat} {l : List Bool} {r : List Nat} (hr : r ∈ PL W n l) : r.length ≤ n ∧ ∀ x ∈ r, x < n := by
  obtain ⟨h1, h2⟩ := PL_flat W n l
  have hs : ∀ x ∈ r, x < n := fun x hx => (h2 x).1 (List.mem_flatten.2 ⟨r, hr, hx⟩)
  exact ⟨nodup_lt n r ((List.sublist_flatten_of_mem hr).nodup h1) hs, hs⟩
end Go.Proofs.YtmfddbhemknkfaaDoor

/- Chapter 11: what holds a thread, by both. -/
set_option linter.unusedSimpArgs false
set_option linter.unusedVariables false
set_option maxRecDepth 100000
namespace Go.Proofs.YtmfddbhemknkfaaDoor
open Go Go.Proofs Go.AW

def hldV (W n : Nat) (l : List Bool) (a c : Int) : Bool × Int := if 0 ≤ a ∧ a < n ∧ 0 ≤ c ∧ c < n then (hdB W n l a.toNat c.toNat, 0) else (false, 2)
/-- What the search has met. -/
structure Met (ov : Nat → List Nat) (n a : Nat) (q : List Nat) : Prop where
  nd : q.Nodup
  wy : ∀ x ∈ q, x < n ∧ Wy ov a x
  me : a ∈ q
theorem Met.len {ov : Nat → List Nat} {n a : Nat} {q : List Nat} (h : Met ov n a q) : q.length ≤ n :=
  nodup_lt n q h.nd fun x hx => (h.wy x hx).1
theorem Met.push {ov : Nat → List Nat} {n a : Nat} {q : List Nat} (h : Met ov n a q) {c y : Nat} (hc : c ∈ q) (hy : y ∈ ov c) (hyn : y < n) (hq : ¬ y ∈ q) : Met ov n a (q ++ [y]) :=
  ⟨List.nodup_append.2 ⟨h.nd, by simp, fun x hx z hz e => hq (by rw [List.mem_singleton] at hz; rw [← hz, ← e]; exact hx)⟩,
   fun x hx => by
    rcases List.mem_append.1 hx with h1 | h1
    · exact h.wy x h1
    · rw [List.mem_singleton.1 h1]; exact ⟨hyn, (h.wy c hc).2.trans (.one hy)⟩,
   List.mem_append_left _ h.me⟩
theorem heldP_c {W H n : Nat} (hN : W + H = n) (hW0 : 0 < W) (hH0 : 0 < H) (hn64 : n ≤ 64) (b : Bool) {l : List Bool} (hn : l.length = W * H) (a c : Int) :
    Contract Tryd.prog 8 [GA W H b l, I a, I c] (.tuple [B (hldV W n l a c).1, I (hldV W n l a c).2]) := by
  have hNc : (W : Int) + (H : Int) = (n : Int) := by omega
  have hz : gchk W H l.length = 0 := gchk_ok ⟨by omega, by omega, by omega, by omega, by rw [hn, Int.natCast_mul]⟩
  by_cases h1 : 0 ≤ a ∧ 0 ≤ c
  rotate_left
  · have e : hldV W n l a c = (false, 2) := by unfold hldV; rw [if_neg (fun h => h1 ⟨h.1, h.2.2.1⟩)]
    rw [e]
    have hmin : min a c < 0 := by omega
    refine Contract.intro (effS [] false) 6 follows Tryd.func8 rfl rfl (by kernel_rfl) (Nat.le_of_ble_eq_true rfl) ?_
    simp (disch := first | assumption | omega | rfl | simp only [RH]) only [↓RP, RG, FX, RQ, ↓reduceIte, Nat.reduceEqDiff, reduceCtorEq, Nat.reduceBEq, Nat.reduceAdd, Nat.reduceLeDiff, args0_3]
    refine callK_F 6 (gcheckP_c W H b l) (by simp (disch := first | assumption | omega | rfl | simp only [RH]) only [↓RP, RG, FX, RQ, ↓reduceIte, Nat.reduceEqDiff, reduceCtorEq, Nat.reduceBEq, Nat.reduceAdd, Nat.reduceLeDiff, RA] <;> rfl) (.inl (by simp [allFresh, ints_fresh, bools_fresh])) ?_
    simp (disch := first | assumption | omega | rfl | simp only [RH]) only [↓RP, RG, FX, RQ, ↓reduceIte, Nat.reduceEqDiff, reduceCtorEq, Nat.reduceBEq, Nat.reduceAdd, Nat.reduceLeDiff, hz]
    rw [resVal_2 rfl]; simp (disch := first | assumption | omega | rfl | simp only [RH]) only [↓RP, RG, FX, RQ, ↓reduceIte, Nat.reduceEqDiff, reduceCtorEq, Nat.reduceBEq, Nat.reduceAdd, Nat.reduceLeDiff, RS]
  by_cases h2 : a < (W : Int) + H ∧ c < (W : Int) + H
  rotate_left
  · have e : hldV W n l a c = (false, 2) := by unfold hldV; rw [if_neg (fun h => h2 ⟨by omega, by omega⟩)]
    rw [e]
    have hmin : ¬ min a c < 0 := by omega
    have hmax : (W : Int) + H ≤ max a c := by omega
    refine Contract.intro (effS [] false) 6 follows Tryd.func8 rfl rfl (by kernel_rfl) (Nat.le_of_ble_eq_true rfl) ?_
    simp (disch := first | assumption | omega | rfl | simp only [RH]) only [↓RP, RG, FX, RQ, ↓reduceIte, Nat.reduceEqDiff, reduceCtorEq, Nat.reduceBEq, Nat.reduceAdd, Nat.reduceLeDiff, args0_3]
    refine callK_F 6 (gcheckP_c W H b l) (by simp (disch := first | assumption | omega | rfl | simp only [RH]) only [↓RP, RG, FX, RQ, ↓reduceIte, Nat.reduceEqDiff, reduceCtorEq, Nat.reduceBEq, Nat.reduceAdd, Nat.reduceLeDiff, RA] <;> rfl) (.inl (by simp [allFresh, ints_fresh, bools_fresh])) ?_
    simp (disch := first | assumption | omega | rfl | simp only [RH]) only [↓RP, RG, FX, RQ, ↓reduceIte, Nat.reduceEqDiff, reduceCtorEq, Nat.reduceBEq, Nat.reduceAdd, Nat.reduceLeDiff, hz]
    rw [resVal_2 rfl]; simp (disch := first | assumption | omega | rfl | simp only [RH]) only [↓RP, RG, FX, RQ, ↓reduceIte, Nat.reduceEqDiff, reduceCtorEq, Nat.reduceBEq, Nat.reduceAdd, Nat.reduceLeDiff, RS]
  obtain ⟨x, rfl⟩ : ∃ x : Nat, a = x := ⟨a.toNat, by omega⟩
  obtain ⟨y, rfl⟩ : ∃ y : Nat, c = y := ⟨c.toNat, by omega⟩
  have e : hldV W n l x y = (hdB W n l x y, 0) := by unfold hldV; rw [if_pos (by omega)]; rfl
  rw [e]
  have hxn : x < n := by omega
  have hyn : y < n := by omega
  have hdd : hdB W n l x y = true ↔ Wy (adjT W n l) x y := hdB_iff hxn hyn
  have hab := aboveP_c hN hW0 hH0 (by omega) (by omega) b hn
  have hrl := abv_len W n l
  have hrow : ∀ a, a < n → (abv W n l).getD a [] = nI (adjT W n l a) := fun a ha => abv_adj ha
  generalize hdB W n l x y = R at *
  have hmin : ¬ min (x : Int) y < 0 := by omega
  have hmax : ¬ (W : Int) + H ≤ max (x : Int) y := by omega
  have hnn : (n : Int).toNat = n := Int.toNat_natCast n
  have e0 : (List.replicate n false).set x true = fB n fun z => decide (z ∈ [x]) := by
    rw [← fB_none, fB_set]
    unfold fB
    refine List.map_congr_left fun z _ => ?_
    by_cases hzx : z = x
    · subst hzx; rw [updN_same]; simp
    · rw [updN_other _ _ hzx]; simp [hzx]
  refine Contract.intro (effS [] false) 6 follows Tryd.func8 rfl rfl (by kernel_rfl) (Nat.le_of_ble_eq_true rfl) ?_
  simp (disch := first | assumption | omega | rfl | simp only [RH]) only [↓RP, RG, FX, RQ, ↓reduceIte, Nat.reduceEqDiff, reduceCtorEq, Nat.reduceBEq, Nat.reduceAdd, Nat.reduceLeDiff, args0_3]
  refine callK_F 6 (gcheckP_c W H b l) (by simp (disch := first | assumption | omega | rfl | simp only [RH]) only [↓RP, RG, FX, RQ, ↓reduceIte, Nat.reduceEqDiff, reduceCtorEq, Nat.reduceBEq, Nat.reduceAdd, Nat.reduceLeDiff, RA] <;> rfl) (.inl (by simp [allFresh, ints_fresh, bools_fresh])) ?_
  simp (disch := first | assumption | omega | rfl | simp only [RH]) only [↓RP, RG, FX, RQ, ↓reduceIte, Nat.reduceEqDiff, reduceCtorEq, Nat.reduceBEq, Nat.reduceAdd, Nat.reduceLeDiff, hz]
  refine callK_F 6 hab (by simp (disch := first | assumption | omega | rfl | simp only [RH]) only [↓RP, RG, FX, RQ, ↓reduceIte, Nat.reduceEqDiff, reduceCtorEq, Nat.reduceBEq, Nat.reduceAdd, Nat.reduceLeDiff, RA] <;> rfl) (.inl (by simp [allFresh]; exact LL_fr 3 _)) ?_
  have hrp : (List.replicate n false).length = n := by simp
  simp (disch := first | assumption | omega | rfl | simp only [RH]) only [↓RP, RG, FX, RQ, ↓reduceIte, Nat.reduceEqDiff, reduceCtorEq, Nat.reduceBEq, Nat.reduceAdd, Nat.reduceLeDiff, make_bool, hnn, e0, cA_any, Int.toNat_natCast]
  refine loopK_I [2, 10, 11, 12, 13] (fun s : List Nat × Nat × Bool => Met (adjT W n l) n x s.1 ∧ s.2.1 ≤ s.1.length ∧ (∀ j, j < s.2.1 → ∀ z ∈ adjT W n l (s.1.getD j 0), z ∈ s.1) ∧ (s.2.2 = false → s.1.length = 1))
    (fun s => ⟨[(2, I y), (10, .list true false n (LL (abv W n l))), (11, .ref 1 0 n n), (12, qv s.2.2 s.1), (13, I s.2.1)], ⟨24, 3, [I W, I H, BA b l]⟩ :: ⟨4, 1, bools (fB n fun z => decide (z ∈ s.1))⟩ :: qh s.2.2 s.1⟩) (fun s => n + 1 - s.2.1) ([x], 0, false) ⟨⟨by simp, fun z hz => by rw [List.mem_singleton.1 hz]; exact ⟨hxn, .refl x⟩, by simp⟩, by simp, fun j hj => by simp at hj, fun _ => rfl⟩ (by simp only [↓RP, RG, FX, RQ, ↓reduceIte, Nat.reduceEqDiff, reduceCtorEq, Nat.reduceBEq, Nat.reduceAdd, Nat.reduceLeDiff]; rfl) ?_
  rintro ⟨q, i, p⟩ ⟨i1, i2, i3, i4⟩
  simp only at i1 i2 i3 i4 ⊢
  have hqm := i1.len
  have hql : (ints (nI q)).length = q.length := by rw [ints_length, nI_len]
  have hqn := nI_len q
  have hfl := fB_len n fun z => decide (z ∈ q)
  by_cases hlt : i < q.length
  · have hgi := nI_get q i
    have hcm : q.getD i 0 ∈ q := by
      rw [List.getD_eq_getElem?_getD, List.getElem?_eq_getElem hlt]; exact List.getElem_mem hlt
    obtain ⟨u, hu⟩ : ∃ u, q.getD i 0 = u := ⟨_, rfl⟩
    rw [hu] at hgi hcm
    have hun := (i1.wy u hcm).1
    have hra := LL_at (rs := abv W n l) (a := u) (by omega)
    rw [hrow u hun] at hra
    have hal := adjT_le W n l u
    have hai : (nI (adjT W n l u)).length = (adjT W n l u).length := nI_len _
    cases p
    · simp (disch := first | assumption | omega | rfl | simp only [RH]) only [↓RP, RG, FX, RQ, ↓reduceIte, Nat.reduceEqDiff, reduceCtorEq, Nat.reduceBEq, Nat.reduceAdd, Nat.reduceLeDiff, qv, qh, hql, hgi, hra, Int.toNat_natCast]
      refine loopK_I [2, 10, 11, 12, 13, 59, 60, 61] (fun s : Nat × List Nat × Bool => s.1 ≤ (adjT W n l u).length ∧ Met (adjT W n l) n x s.2.1 ∧ (∃ t, s.2.1 = q ++ t) ∧ (∀ z ∈ (adjT W n l u).take s.1, z ∈ s.2.1) ∧ (s.2.2 = false → s.2.1.length = 1))
        (fun s => ⟨[(2, I y), (10, .list true false n (LL (abv W n l))), (11, .ref 1 0 n n), (12, qv s.2.2 s.2.1), (13, I i), (59, LR (nI (adjT W n l u)).isEmpty (nI (adjT W n l u))), (60, I (adjT W n l u).length), (61, I s.1)], ⟨24, 3, [I W, I H, BA b l]⟩ :: ⟨4, 1, bools (fB n fun z => decide (z ∈ s.2.1))⟩ :: qh s.2.2 s.2.1⟩) (fun s => (adjT W n l u).length - s.1) (0, q, false) ⟨by omega, i1, ⟨[], by simp⟩, by simp, i4⟩ (by simp only [↓RP, RG, FX, RQ, ↓reduceIte, Nat.reduceEqDiff, reduceCtorEq, Nat.reduceBEq, Nat.reduceAdd, Nat.reduceLeDiff, hai]; rfl) ?_
      rintro ⟨j, q', p'⟩ ⟨j1, j2, j3, j4, j5⟩
      simp only at j1 j2 j3 j4 j5 ⊢
      have hqm' := j2.len
      have hql' : (ints (nI q')).length = q'.length := by rw [ints_length, nI_len]
      have hqn' := nI_len q'
      have hfl' := fB_len n fun z => decide (z ∈ q')
      by_cases hlt2 : j < (adjT W n l u).length
      · obtain ⟨v, hv⟩ : ∃ v, (adjT W n l u)[j]? = some v := ⟨_, List.getElem?_eq_getElem hlt2⟩
        have hvn : v < n := adjT_lt (List.mem_of_getElem? hv)
        have hgv : (nI (adjT W n l u)).getD j 0 = (v : Int) := by simp [nI, List.getD_eq_getElem?_getD, hv]
        have htk : (adjT W n l u).take (j + 1) = (adjT W n l u).take j ++ [v] := by rw [List.take_add_one, hv]; rfl
        have gv : (fB n fun z => decide (z ∈ q')).getD v false = decide (v ∈ q') := fB_get hvn
        have hcm' : u ∈ q' := by
          obtain ⟨t, ht⟩ := j3
          rw [ht]; exact List.mem_append_left _ hcm
        by_cases hin : v ∈ q'
        · rw [decide_eq_true hin] at gv
          simp (disch := first | assumption | omega | rfl | simp only [RH]) only [↓RP, RG, FX, RQ, ↓reduceIte, Nat.reduceEqDiff, reduceCtorEq, Nat.reduceBEq, Nat.reduceAdd, Nat.reduceLeDiff, hgv, gv, Int.toNat_natCast]
          refine ⟨(j + 1, q', p'), ⟨hlt2, j2, j3, fun z hz => ?_, j5⟩, rfl, by simp only; omega⟩
          simp only [htk, List.mem_append, List.mem_singleton] at hz
          rcases hz with h | h
          · exact j4 z h
          · rw [h]; exact hin
        · rw [decide_eq_false hin] at gv
          have hnew : (j + 1 ≤ (adjT W n l u).length) ∧ Met (adjT W n l) n x (q' ++ [v]) ∧ (∃ t, q' ++ [v] = q ++ t) ∧ (∀ z ∈ (adjT W n l u).take (j + 1), z ∈ q' ++ [v]) ∧ (true = false → (q' ++ [v]).length = 1) := by
            refine ⟨hlt2, j2.push hcm' (List.mem_of_getElem? hv) hvn hin, ?_, fun z hz => ?_, fun h => by cases h⟩
            · obtain ⟨t, ht⟩ := j3
              exact ⟨t ++ [v], by rw [ht, List.append_assoc]⟩
            · rw [htk] at hz
              rcases List.mem_append.1 hz with h | h
              · exact List.mem_append_left _ (j4 z h)
              · exact List.mem_append_right _ h
          have e1 : (fB n fun z => decide (z ∈ q')).set v true = fB n fun z => decide (z ∈ q' ++ [v]) := by
            rw [fB_set]
            unfold fB
            refine List.map_congr_left fun z _ => ?_
            by_cases hzv : z = v
            · subst hzv; rw [updN_same]; simp
            · rw [updN_other _ _ hzv]; simp [hzv]
          have e2 : nI q' ++ [(v : Int)] = nI (q' ++ [v]) := (nI_app _ _).symm
          have e3 : (q' ++ [v]).length = q'.length + 1 := by simp
          cases p'
          · obtain ⟨z, hz0⟩ := List.length_eq_one_iff.1 (j5 rfl)
            have hap1 : AVal.lit q'.length (ints (nI q')) = .lit 1 [.val (.int .i64 (z : Int))] := by rw [hz0]; rfl
            simp (disch := first | assumption | omega | rfl | simp only [RH]) only [↓RP, RG, FX, RQ, ↓reduceIte, Nat.reduceEqDiff, reduceCtorEq, Nat.reduceBEq, Nat.reduceAdd, Nat.reduceLeDiff, qv, qh, hgv, gv, hql', e1, Int.toNat_natCast]
            rw [hap1]
            simp (disch := first | assumption | omega | rfl | simp only [RH]) only [↓RP, RG, FX, RQ, ↓reduceIte, Nat.reduceEqDiff, reduceCtorEq, Nat.reduceBEq, Nat.reduceAdd, Nat.reduceLeDiff, append_litI]
            exact ⟨(j + 1, q' ++ [v], true), hnew, by rw [hz0]; rfl, by simp only; omega⟩
          · simp (disch := first | assumption | omega | rfl | simp only [RH]) only [↓RP, RG, FX, RQ, ↓reduceIte, Nat.reduceEqDiff, reduceCtorEq, Nat.reduceBEq, Nat.reduceAdd, Nat.reduceLeDiff, qv, qh, hgv, gv, hql', e1, append_ref1, apRI_ints, Int.toNat_natCast]
            exact ⟨(j + 1, q' ++ [v], true), hnew, by simp only [qv, qh, nI_app, List.length_append, List.length_singleton]; rfl, by simp only; omega⟩
      · obtain rfl : (adjT W n l u).length = j := by omega
        simp (disch := first | assumption | omega | rfl | simp only [RH]) only [↓RP, RG, FX, RQ, ↓reduceIte, Nat.reduceEqDiff, reduceCtorEq, Nat.reduceBEq, Nat.reduceAdd, Nat.reduceLeDiff]
        obtain ⟨t, ht⟩ := j3
        have hqt : q'.length = q.length + t.length := by rw [ht, List.length_append]
        refine ⟨(q', i + 1, p'), ⟨j2, by simp only; omega, fun j hj z hz => ?_, j5⟩, rfl, by simp only; omega⟩
        simp only at hj hz ⊢
        have hgj : q'.getD j 0 = q.getD j 0 := by
          rw [ht, List.getD_eq_getElem?_getD, List.getD_eq_getElem?_getD, List.getElem?_append_left (by omega)]
        rw [hgj] at hz
        by_cases hji : j = i
        · subst hji
          rw [hu] at hz
          exact j4 z (by rw [List.take_length]; exact hz)
        · rw [ht]
          exact List.mem_append_left _ (i3 j (by omega) z hz)
    · simp (disch := first | assumption | omega | rfl | simp only [RH]) only [↓RP, RG, FX, RQ, ↓reduceIte, Nat.reduceEqDiff, reduceCtorEq, Nat.reduceBEq, Nat.reduceAdd, Nat.reduceLeDiff, qv, qh, hql, hgi, hra, Int.toNat_natCast]
      refine loopK_I [2, 10, 11, 12, 13, 59, 60, 61] (fun s : Nat × List Nat × Bool => s.1 ≤ (adjT W n l u).length ∧ Met (adjT W n l) n x s.2.1 ∧ (∃ t, s.2.1 = q ++ t) ∧ (∀ z ∈ (adjT W n l u).take s.1, z ∈ s.2.1) ∧ (s.2.2 = false → s.2.1.length = 1))
        (fun s => ⟨[(2, I y), (10, .list true false n (LL (abv W n l))), (11, .ref 1 0 n n), (12, qv s.2.2 s.2.1), (13, I i), (59, LR (nI (adjT W n l u)).isEmpty (nI (adjT W n l u))), (60, I (adjT W n l u).length), (61, I s.1)], ⟨24, 3, [I W, I H, BA b l]⟩ :: ⟨4, 1, bools (fB n fun z => decide (z ∈ s.2.1))⟩ :: qh s.2.2 s.2.1⟩) (fun s => (adjT W n l u).length - s.1) (0, q, true) ⟨by omega, i1, ⟨[], by simp⟩, by simp, i4⟩ (by simp only [↓RP, RG, FX, RQ, ↓reduceIte, Nat.reduceEqDiff, reduceCtorEq, Nat.reduceBEq, Nat.reduceAdd, Nat.reduceLeDiff, hai]; rfl) ?_
      rintro ⟨j, q', p'⟩ ⟨j1, j2, j3, j4, j5⟩
      simp only at j1 j2 j3 j4 j5 ⊢
      have hqm' := j2.len
      have hql' : (ints (nI q')).length = q'.length := by rw [ints_length, nI_len]
      have hqn' := nI_len q'
      have hfl' := fB_len n fun z => decide (z ∈ q')
      by_cases hlt2 : j < (adjT W n l u).length
      · obtain ⟨v, hv⟩ : ∃ v, (adjT W n l u)[j]? = some v := ⟨_, List.getElem?_eq_getElem hlt2⟩
        have hvn : v < n := adjT_lt (List.mem_of_getElem? hv)
        have hgv : (nI (adjT W n l u)).getD j 0 = (v : Int) := by simp [nI, List.getD_eq_getElem?_getD, hv]
        have htk : (adjT W n l u).take (j + 1) = (adjT W n l u).take j ++ [v] := by rw [List.take_add_one, hv]; rfl
        have gv : (fB n fun z => decide (z ∈ q')).getD v false = decide (v ∈ q') := fB_get hvn
        have hcm' : u ∈ q' := by
          obtain ⟨t, ht⟩ := j3
          rw [ht]; exact List.mem_append_left _ hcm
        by_cases hin : v ∈ q'
        · rw [decide_eq_true hin] at gv
          simp (disch := first | assumption | omega | rfl | simp only [RH]) only [↓RP, RG, FX, RQ, ↓reduceIte, Nat.reduceEqDiff, reduceCtorEq, Nat.reduceBEq, Nat.reduceAdd, Nat.reduceLeDiff, hgv, gv, Int.toNat_natCast]
          refine ⟨(j + 1, q', p'), ⟨hlt2, j2, j3, fun z hz => ?_, j5⟩, rfl, by simp only; omega⟩
          simp only [htk, List.mem_append, List.mem_singleton] at hz
          rcases hz with h | h
          · exact j4 z h
          · rw [h]; exact hin
        · rw [decide_eq_false hin] at gv
          have hnew : (j + 1 ≤ (adjT W n l u).length) ∧ Met (adjT W n l) n x (q' ++ [v]) ∧ (∃ t, q' ++ [v] = q ++ t) ∧ (∀ z ∈ (adjT W n l u).take (j + 1), z ∈ q' ++ [v]) ∧ (true = false → (q' ++ [v]).length = 1) := by
            refine ⟨hlt2, j2.push hcm' (List.mem_of_getElem? hv) hvn hin, ?_, fun z hz => ?_, fun h => by cases h⟩
            · obtain ⟨t, ht⟩ := j3
              exact ⟨t ++ [v], by rw [ht, List.append_assoc]⟩
            · rw [htk] at hz
              rcases List.mem_append.1 hz with h | h
              · exact List.mem_append_left _ (j4 z h)
              · exact List.mem_append_right _ h
          have e1 : (fB n fun z => decide (z ∈ q')).set v true = fB n fun z => decide (z ∈ q' ++ [v]) := by
            rw [fB_set]
            unfold fB
            refine List.map_congr_left fun z _ => ?_
            by_cases hzv : z = v
            · subst hzv; rw [updN_same]; simp
            · rw [updN_other _ _ hzv]; simp [hzv]
          have e2 : nI q' ++ [(v : Int)] = nI (q' ++ [v]) := (nI_app _ _).symm
          have e3 : (q' ++ [v]).length = q'.length + 1 := by simp
          cases p'
          · obtain ⟨z, hz0⟩ := List.length_eq_one_iff.1 (j5 rfl)
            have hap1 : AVal.lit q'.length (ints (nI q')) = .lit 1 [.val (.int .i64 (z : Int))] := by rw [hz0]; rfl
            simp (disch := first | assumption | omega | rfl | simp only [RH]) only [↓RP, RG, FX, RQ, ↓reduceIte, Nat.reduceEqDiff, reduceCtorEq, Nat.reduceBEq, Nat.reduceAdd, Nat.reduceLeDiff, qv, qh, hgv, gv, hql', e1, Int.toNat_natCast]
            rw [hap1]
            simp (disch := first | assumption | omega | rfl | simp only [RH]) only [↓RP, RG, FX, RQ, ↓reduceIte, Nat.reduceEqDiff, reduceCtorEq, Nat.reduceBEq, Nat.reduceAdd, Nat.reduceLeDiff, append_litI]
            exact ⟨(j + 1, q' ++ [v], true), hnew, by rw [hz0]; rfl, by simp only; omega⟩
          · simp (disch := first | assumption | omega | rfl | simp only [RH]) only [↓RP, RG, FX, RQ, ↓reduceIte, Nat.reduceEqDiff, reduceCtorEq, Nat.reduceBEq, Nat.reduceAdd, Nat.reduceLeDiff, qv, qh, hgv, gv, hql', e1, append_ref1, apRI_ints, Int.toNat_natCast]
            exact ⟨(j + 1, q' ++ [v], true), hnew, by simp only [qv, qh, nI_app, List.length_append, List.length_singleton]; rfl, by simp only; omega⟩
      · obtain rfl : (adjT W n l u).length = j := by omega
        simp (disch := first | assumption | omega | rfl | simp only [RH]) only [↓RP, RG, FX, RQ, ↓reduceIte, Nat.reduceEqDiff, reduceCtorEq, Nat.reduceBEq, Nat.reduceAdd, Nat.reduceLeDiff]
        obtain ⟨t, ht⟩ := j3
        have hqt : q'.length = q.length + t.length := by rw [ht, List.length_append]
        refine ⟨(q', i + 1, p'), ⟨j2, by simp only; omega, fun j hj z hz => ?_, j5⟩, rfl, by simp only; omega⟩
        simp only at hj hz ⊢
        have hgj : q'.getD j 0 = q.getD j 0 := by
          rw [ht, List.getD_eq_getElem?_getD, List.getD_eq_getElem?_getD, List.getElem?_append_left (by omega)]
        rw [hgj] at hz
        by_cases hji : j = i
        · subst hji
          rw [hu] at hz
          exact j4 z (by rw [List.take_length]; exact hz)
        · rw [ht]
          exact List.mem_append_left _ (i3 j (by omega) z hz)
  · obtain rfl : q.length = i := by omega
    have hcl : ∀ z, z ∈ q ↔ Wy (adjT W n l) x z := fun z => ⟨fun h => (i1.wy z h).2, fun h => h.closed (p := fun z => z ∈ q) (fun v w hv hw => by
      obtain ⟨j, hj, rfl⟩ := List.mem_iff_getElem.1 hv
      refine i3 j hj w ?_
      rw [List.getD_eq_getElem?_getD, List.getElem?_eq_getElem hj]; exact hw) i1.me⟩
    have gy : (fB n fun z => decide (z ∈ q)).getD y false = decide (y ∈ q) := fB_get hyn
    have hR : decide (y ∈ q) = R := by
      cases R with
      | true => exact decide_eq_true ((hcl y).2 (hdd.1 rfl))
      | false => exact decide_eq_false fun h => by have := hdd.2 ((hcl y).1 h); cases this
    rw [hR] at gy
    cases p
    · simp (disch := first | assumption | omega | rfl | simp only [RH]) only [↓RP, RG, FX, RQ, ↓reduceIte, Nat.reduceEqDiff, reduceCtorEq, Nat.reduceBEq, Nat.reduceAdd, Nat.reduceLeDiff, qv, qh, hql, gy, Int.toNat_natCast]
      rw [resVal_2 rfl]; simp (disch := first | assumption | omega | rfl | simp only [RH]) only [↓RP, RG, FX, RQ, ↓reduceIte, Nat.reduceEqDiff, reduceCtorEq, Nat.reduceBEq, Nat.reduceAdd, Nat.reduceLeDiff, RS]
    · simp (disch := first | assumption | omega | rfl | simp only [RH]) only [↓RP, RG, FX, RQ, ↓reduceIte, Nat.reduceEqDiff, reduceCtorEq, Nat.reduceBEq, Nat.reduceAdd, Nat.reduceLeDiff, qv, qh, hql, gy, Int.toNat_natCast]
      rw [resVal_2 rfl]; simp (disch := first | assumption | omega | rfl | simp only [RH]) only [↓RP, RG, FX, RQ, ↓reduceIte, Nat.reduceEqDiff, reduceCtorEq, Nat.reduceBEq, Nat.reduceAdd, Nat.reduceLeDiff, RS]
end Go.Proofs.YtmfddbhemknkfaaDoor

/- Chapter 11: the parts, by both. -/
set_option linter.unusedSimpArgs false
set_option linter.unusedVariables false
set_option maxRecDepth 100000
namespace Go.Proofs.YtmfddbhemknkfaaDoor
open Go Go.Proofs Go.AW

theorem rowsC_fr (k : Nat) (ps : List (List Nat)) : ∀ x, x ∈ rowsC ps → allFresh (k + 2) x = true := by
  intro x hx
  obtain ⟨r, _, rfl⟩ := List.mem_map.1 hx
  simp [allFresh, ints_fresh]
theorem PV_fr (k : Nat) (ps : List (List Nat)) : allFresh (k + 3) (PV ps) = true := by
  show ((true || (rowsC ps).isEmpty) && (rowsC ps).all (allFresh (k + 2))) = true
  rw [Bool.true_or, Bool.true_and, List.all_eq_true]
  exact rowsC_fr k ps
theorem PV_res (h : List AObj) (k : Nat) (ps : List (List Nat)) : resOf h (k + 3) (PV ps) = PV ps := by
  show resOf h (k + 2 + 1) (.list true _ _ (rowsC ps)) = _
  rw [resOf_list, rowsC_res]; rfl
theorem parts_len {W n : Nat} {l : List Bool} : (PL W n l).length ≤ n := by
  obtain ⟨m, hmn, hst, hcm, hfin⟩ := lists_run W n l
  rw [← hfin, lSt_len (m := m) (fun k hk => (hst k hk).2.imp fun a h => h.2.1) m (Nat.le_refl _)]
  exact hmn
theorem partsPP_c {W H n : Nat} (hN : W + H = n) (hW0 : 0 < W) (hH0 : 0 < H) (hn64 : n ≤ 64) (b : Bool) {l : List Bool} (hn : l.length = W * H) : Contract Tryd.prog 10 [GA W H b l] (.tuple [PV (PL W n l), I 0]) := by
  have hz : gchk W H l.length = 0 := gchk_ok ⟨by omega, by omega, by omega, by omega, by rw [hn, Int.natCast_mul]⟩
  refine Contract.intro (effS [] false) 6 follows Tryd.func10 rfl rfl (by kernel_rfl) (Nat.le_of_ble_eq_true rfl) ?_
  simp (disch := first | assumption | omega | rfl | simp only [RH]) only [↓RP, RG, FX, RQ, ↓reduceIte, Nat.reduceEqDiff, reduceCtorEq, Nat.reduceBEq, Nat.reduceAdd, Nat.reduceLeDiff, args0_1]
  refine callK_F 6 (gcheckP_c W H b l) (by simp (disch := first | assumption | omega | rfl | simp only [RH]) only [↓RP, RG, FX, RQ, ↓reduceIte, Nat.reduceEqDiff, reduceCtorEq, Nat.reduceBEq, Nat.reduceAdd, Nat.reduceLeDiff, RA] <;> rfl) (.inl (by simp [allFresh, ints_fresh, bools_fresh])) ?_
  simp (disch := first | assumption | omega | rfl | simp only [RH]) only [↓RP, RG, FX, RQ, ↓reduceIte, Nat.reduceEqDiff, reduceCtorEq, Nat.reduceBEq, Nat.reduceAdd, Nat.reduceLeDiff, hz]
  refine callK_F 6 (partsP_c hN hW0 hH0 hn64 b hn) (by simp (disch := first | assumption | omega | rfl | simp only [RH]) only [↓RP, RG, FX, RQ, ↓reduceIte, Nat.reduceEqDiff, reduceCtorEq, Nat.reduceBEq, Nat.reduceAdd, Nat.reduceLeDiff, RA] <;> rfl) (.inl (PV_fr 3 _)) ?_
  simp (disch := first | assumption | omega | rfl | simp only [RH]) only [↓RP, RG, FX, RQ, ↓reduceIte, Nat.reduceEqDiff, reduceCtorEq, Nat.reduceBEq, Nat.reduceAdd, Nat.reduceLeDiff]
  rw [resVal_2 rfl]; simp (disch := first | assumption | omega | rfl | simp only [RH]) only [↓RP, RG, FX, RQ, ↓reduceIte, Nat.reduceEqDiff, reduceCtorEq, Nat.reduceBEq, Nat.reduceAdd, Nat.reduceLeDiff, RS]
  first | done | (simp only [PV_res])
end Go.Proofs.YtmfddbhemknkfaaDoor

/- Chapter 11: a layer of a part, by both. -/
set_option linter.unusedSimpArgs false
set_option linter.unusedVariables false
set_option maxRecDepth 100000
namespace Go.Proofs.YtmfddbhemknkfaaDoor
open Go Go.Proofs Go.AW

def layE (W : Nat) (r : List Nat) : List Nat := r.filter fun x => decide (x < W)
def layP (W : Nat) (r : List Nat) : List Nat := (r.filter fun x => !decide (x < W)).map fun x => x - W
end Go.Proofs.YtmfddbhemknkfaaDoor

/- Chapter 11: the cloth of one part hangs together. Plain. -/
set_option linter.unusedSimpArgs false
set_option linter.unusedVariables false
set_option maxRecDepth 100000
namespace Go.Proofs.YtmfddbhemknkfaaDoor
open Go Go.Proofs Go.AW

theorem lSt_mtl {hd : Nat → Nat → Bool} {n m : Nat} (h : ∀ k, k < m → ∃ a, a < n ∧ (List.range n).find? (cnd hd n (lSt hd n k).2) = some a) : ∀ k, k ≤ m → ∀ r ∈ (lSt hd n k).1, ∃ a, a < n ∧ r = mtl hd n a
  | 0, _, r, hr => by cases hr
  | k + 1, hk, r, hr => by
    obtain ⟨a, ha0, ha⟩ := h k (by omega)
    rw [lSt, ha] at hr
    rcases List.mem_append.1 (show r ∈ (lSt hd n k).1 ++ [mtl hd n a] from hr) with h1 | h1
    · exact lSt_mtl h k (by omega) r h1
    · exact ⟨a, ha0, List.mem_singleton.1 h1⟩
/-- A part: the threads that hold each other. -/
structure Part (W n : Nat) (l : List Bool) (r : List Nat) : Prop where
  inc : r.Pairwise (· < ·)
  lt : ∀ x ∈ r, x < n
  ne : r ≠ []
  mu : ∀ x y, x ∈ r → (y ∈ r ↔ Wy (adjT W n l) x y ∧ Wy (adjT W n l) y x)
theorem adj_lt {W n : Nat} {l : List Bool} {x y : Nat} (h : Wy (adjT W n l) x y) (hx : x < n) : y < n := h.closed (p := fun z => z < n) (fun _ _ _ hm => adjT_lt hm) hx
theorem mtl_part {W n : Nat} {l : List Bool} {a : Nat} (ha : a < n) : Part W n l (mtl (hdB W n l) n a) := by
  have hm : ∀ x, x ∈ mtl (hdB W n l) n a ↔ Wy (adjT W n l) a x ∧ Wy (adjT W n l) x a := fun x => by
    rw [mtl, List.mem_filter, List.mem_range, Bool.and_eq_true]
    constructor
    · rintro ⟨h1, h2, h3⟩
      exact ⟨(hdB_iff ha h1).1 h2, (hdB_iff h1 ha).1 h3⟩
    · rintro ⟨h1, h2⟩
      have hx := adj_lt h1 ha
      exact ⟨hx, (hdB_iff ha hx).2 h1, (hdB_iff hx ha).2 h2⟩
  refine ⟨List.Pairwise.filter _ List.pairwise_lt_range, fun x hx => adj_lt ((hm x).1 hx).1 ha, fun he => ?_, fun x y hx => ?_⟩
  · have : a ∈ mtl (hdB W n l) n a := (hm a).2 ⟨.refl a, .refl a⟩
    rw [he] at this; cases this
  · obtain ⟨h1, h2⟩ := (hm x).1 hx
    rw [hm]
    exact ⟨fun ⟨h3, h4⟩ => ⟨h2.trans h3, h4.trans h1⟩, fun ⟨h3, h4⟩ => ⟨h1.trans h3, h4.trans h2⟩⟩
theorem PL_part {W n : Nat} {l : List Bool} {r : List Nat} (hr : r ∈ PL W n l) : Part W n l r := by
  obtain ⟨m, hmn, hst, hcm, hfin⟩ := lists_run W n l
  rw [← hfin] at hr
  obtain ⟨a, ha, rfl⟩ := lSt_mtl (m := m) (fun k hk => (hst k hk).2.imp fun a h => ⟨h.1, h.2.1⟩) m (Nat.le_refl _) r hr
  exact mtl_part ha
theorem Part.step {W n : Nat} {l : List Bool} {r : List Nat} (h : Part W n l r) {a b c : Nat} (ha : a ∈ r) (hb : b ∈ r) (hc : c ∈ adjT W n l a) (hw : Wy (adjT W n l) c b) : c ∈ r :=
  (h.mu a c ha).2 ⟨.one hc, hw.trans ((h.mu a b ha).1 hb).2⟩
/-- What holds along ways within a part. -/
theorem Part.along {W n : Nat} {l : List Bool} {r : List Nat} (h : Part W n l r) {p : Nat → Prop} (hp : ∀ x y, x ∈ r → y ∈ r → p x → y ∈ adjT W n l x → p y) {a b : Nat} (ha : a ∈ r) (hb : b ∈ r) (h0 : p a) : p b := by
  have hw := ((h.mu a b ha).1 hb).1
  induction hw with
  | refl a => exact h0
  | step hc hr ih =>
    have hcr := h.step ha hb hc hr
    exact ih hcr hb (hp _ _ ha hcr h0 hc)
theorem lay_split {r : List Nat} (h : r.Pairwise (· < ·)) (W : Nat) : r = layE W r ++ (layP W r).map (· + W) := by
  have hm : (layP W r).map (· + W) = r.filter fun x => !decide (x < W) := by
    unfold layP
    rw [List.map_map]
    conv => rhs; rw [← List.map_id (r.filter fun x => !decide (x < W))]
    refine List.map_congr_left fun x hx => ?_
    have := (List.mem_filter.1 hx).2
    simp at this
    show x - W + W = x
    omega
  rw [hm]
  refine incN_ext _ _ h (List.pairwise_append.2 ⟨List.Pairwise.filter _ h, List.Pairwise.filter _ h, fun x hx y hy => ?_⟩) fun x => ?_
  · have h1 := (List.mem_filter.1 hx).2
    have h2 := (List.mem_filter.1 hy).2
    simp at h1 h2
    omega
  · unfold layE
    rw [List.mem_append, List.mem_filter, List.mem_filter]
    by_cases hx : x < W <;> simp [hx]
/-- Both kinds of threads are in a part of two. -/
theorem Part.both {W n : Nat} {l : List Bool} {r : List Nat} (h : Part W n l r) (h1 : 1 < r.length) : 0 < (layE W r).length ∧ 0 < (layP W r).length := by
  obtain ⟨x, y, t, rfl⟩ : ∃ x y t, r = x :: y :: t := by
    match r, h1 with
    | x :: y :: t, _ => exact ⟨x, y, t, rfl⟩
  have hxy : x ≠ y := by
    have := h.inc; rw [List.pairwise_cons] at this
    have := this.1 y (by simp); omega
  have hw := ((h.mu x y (by simp)).1 (by simp)).1
  obtain ⟨c, hc, hcr⟩ : ∃ c, c ∈ adjT W n l x ∧ c ∈ x :: y :: t := by
    cases hw with
    | refl => exact absurd rfl hxy
    | step hc hr => exact ⟨_, hc, h.step (by simp) (by simp) hc hr⟩
  have hov := (mem_adjT.1 hc).2
  have hE : ∀ z, z ∈ x :: y :: t → z < W → 0 < (layE W (x :: y :: t)).length := fun z hz hzW => List.length_pos_of_mem (List.mem_filter.2 ⟨hz, decide_eq_true hzW⟩)
  have hP : ∀ z, z ∈ x :: y :: t → ¬ z < W → 0 < (layP W (x :: y :: t)).length := fun z hz hzW => by
    unfold layP
    rw [List.length_map]
    exact List.length_pos_of_mem (List.mem_filter.2 ⟨hz, by simp [hzW]⟩)
  unfold ov at hov
  by_cases hcW : c < W
  · by_cases hxW : x < W
    · rw [if_pos hcW, if_pos hxW] at hov; cases hov
    · exact ⟨hE c hcr hcW, hP x (by simp) hxW⟩
  · by_cases hxW : x < W
    · exact ⟨hE x (by simp) hxW, hP c hcr hcW⟩
    · rw [if_neg hcW, if_neg hxW] at hov; cases hov
/-- The place of a thread of the smaller cloth in the whole one. -/
def subT (W : Nat) (r : List Nat) (c : Nat) : Nat := if c < (layE W r).length then (layE W r).getD c 0 else (layP W r).getD (c - (layE W r).length) 0 + W
def subL (W : Nat) (l : List Bool) (r : List Nat) : List Bool := tabN (layE W r).length (fun x y => l.getD (W * (layP W r).getD y 0 + (layE W r).getD x 0) false) ((layE W r).length * (layP W r).length)
theorem subT_get {r : List Nat} (h : r.Pairwise (· < ·)) (W : Nat) {c : Nat} (hc : c < r.length) : subT W r c = r.getD c 0 := by
  have hs := lay_split h W
  have hl : r.length = (layE W r).length + (layP W r).length := by
    conv => lhs; rw [hs]
    simp
  unfold subT
  conv => rhs; rw [hs]
  by_cases hcE : c < (layE W r).length
  · rw [if_pos hcE, List.getD_eq_getElem?_getD, List.getD_eq_getElem?_getD, List.getElem?_append_left hcE]
  · rw [if_neg hcE, List.getD_eq_getElem?_getD, List.getD_eq_getElem?_getD, List.getElem?_append_right (by omega), List.getElem?_map]
    have : c - (layE W r).length < (layP W r).length := by omega
    rw [List.getElem?_eq_getElem this]; rfl
theorem layE_lt {W : Nat} {r : List Nat} {c : Nat} (hc : c < (layE W r).length) : (layE W r).getD c 0 < W := by
  rw [List.getD_eq_getElem?_getD, List.getElem?_eq_getElem hc]
  have := (List.mem_filter.1 (List.getElem_mem hc)).2
  simpa using this
theorem sub_ov {W : Nat} (l : List Bool) {r : List Nat} {c d : Nat} (hc : c < (layE W r).length + (layP W r).length) (hd : d < (layE W r).length + (layP W r).length) : ov (layE W r).length (subL W l r) c d = ov W l (subT W r c) (subT W r d) := by
  have hE := fun c => layE_lt (W := W) (r := r) (c := c)
  unfold subL subT
  generalize layE W r = E at *
  generalize layP W r = P at *
  have hget : ∀ x y, x < E.length → y < P.length → (tabN E.length (fun x y => l.getD (W * P.getD y 0 + E.getD x 0) false) (E.length * P.length)).getD (E.length * y + x) false = l.getD (W * P.getD y 0 + E.getD x 0) false := fun x y hx hy => by
    refine tabN_get _ _ hx ?_
    have := Nat.mul_le_mul_left E.length (show y + 1 ≤ P.length by omega)
    rw [Nat.mul_succ] at this
    omega
  have hn : ∀ z : Nat, ¬ z + W < W := fun z => by omega
  unfold ov
  by_cases h1 : c < E.length
  · have e1 := hE c h1
    rw [if_pos h1, if_pos h1, if_pos e1]
    by_cases h2 : d < E.length
    · rw [if_pos h2, if_pos h2, if_pos (hE d h2)]
    · rw [if_neg h2, if_neg h2, if_neg (hn _), hget c (d - E.length) h1 (by omega), Nat.add_sub_cancel]
  · rw [if_neg h1, if_neg h1, if_neg (hn _)]
    by_cases h2 : d < E.length
    · have e2 := hE d h2
      rw [if_pos h2, if_pos h2, if_pos e2, hget d (c - E.length) h2 (by omega), Nat.add_sub_cancel]
    · rw [if_neg h2, if_neg h2, if_neg (hn _)]
theorem lay_len {r : List Nat} (h : r.Pairwise (· < ·)) (W : Nat) : (layE W r).length + (layP W r).length = r.length := by
  have hs := lay_split h W
  conv => rhs; rw [hs]
  simp
/-- The cloth of one part hangs together. -/
theorem Part.hg {W n : Nat} {l : List Bool} {r : List Nat} (h : Part W n l r) : Hg (layE W r).length r.length (subL W l r) := by
  intro M hM ⟨c0, hc0, hM0⟩ x hx
  have hll := lay_len h.inc W
  have hT : ∀ c, c < r.length → subT W r c = r.getD c 0 := fun c hc => subT_get h.inc W hc
  have hmem : ∀ c, c < r.length → r.getD c 0 ∈ r := fun c hc => by rw [List.getD_eq_getElem?_getD, List.getElem?_eq_getElem hc]; exact List.getElem_mem hc
  have key : (fun z => ∃ c, c < r.length ∧ r.getD c 0 = z ∧ M c) (r.getD x 0) := by
    refine h.along (p := fun z => ∃ c, c < r.length ∧ r.getD c 0 = z ∧ M c) (fun a b ha hb => ?_) (hmem c0 hc0) (hmem x hx) ⟨c0, hc0, rfl, hM0⟩
    rintro ⟨c, hc, rfl, hMc⟩ hba
    obtain ⟨d, hd, rfl⟩ := List.mem_iff_getElem.1 hb
    have hdd : r.getD d 0 = r[d] := by rw [List.getD_eq_getElem?_getD, List.getElem?_eq_getElem hd]; rfl
    refine ⟨d, hd, hdd, hM c hc hMc d hd ?_⟩
    rw [sub_ov l (by omega) (by omega), hT d hd, hT c hc, hdd]
    exact (mem_adjT.1 hba).2
  obtain ⟨c, hc, he, hMc⟩ := key
  have : c = x := by
    rw [List.getD_eq_getElem?_getD, List.getD_eq_getElem?_getD, List.getElem?_eq_getElem hc, List.getElem?_eq_getElem hx] at he
    have hi := List.pairwise_iff_getElem.1 h.inc
    rcases Nat.lt_trichotomy c x with h1 | h1 | h1
    · have := hi c x hc hx h1; simp at he; omega
    · exact h1
    · have := hi x c hx hc h1; simp at he; omega
  rw [← this]; exact hMc
end Go.Proofs.YtmfddbhemknkfaaDoor

/- Chapter 11: the parts are listed from below. Plain. -/
set_option linter.unusedSimpArgs false
set_option linter.unusedVariables false
set_option maxRecDepth 100000
namespace Go.Proofs.YtmfddbhemknkfaaDoor
open Go Go.Proofs Go.AW

theorem lSt_pre {hd : Nat → Nat → Bool} {n : Nat} (i : Nat) : ∀ d, ∃ t, (lSt hd n (i + d)).1 = (lSt hd n i).1 ++ t
  | 0 => ⟨[], by simp⟩
  | d + 1 => by
    obtain ⟨t, ht⟩ := lSt_pre (hd := hd) (n := n) i d
    show ∃ t, (lSt hd n ((i + d) + 1)).1 = _
    rw [lSt]
    split
    · exact ⟨t, ht⟩
    · rename_i a _
      exact ⟨t ++ [mtl hd n a], by show (lSt hd n (i + d)).1 ++ _ = _; rw [ht, List.append_assoc]⟩
/-- What holds a thread of a part is in that part, or in one listed ahead of it. -/
theorem PL_below {W n : Nat} {l : List Bool} {i : Nat} (hi : i < (PL W n l).length) {a b : Nat} (ha : a ∈ (PL W n l).getD i []) (hb : b < n) (hw : Wy (adjT W n l) a b) : ∃ j, j ≤ i ∧ b ∈ (PL W n l).getD j [] := by
  obtain ⟨m, hmn, hst, hcm, hfin⟩ := lists_run W n l
  have hlen := lSt_len (m := m) (fun k hk => (hst k hk).2.imp fun a h => h.2.1)
  have hflat := lSt_flat (m := m) (fun k hk => (hst k hk).2.imp fun a h => ⟨h.1, h.2.1, h.2.2.2.2⟩)
  have hml : (PL W n l).length = m := by rw [← hfin, hlen m (Nat.le_refl _)]
  rw [hml] at hi
  obtain ⟨_, a0, ha0, hf, haa, _⟩ := hst i hi
  have hs : (lSt (hdB W n l) n (i + 1)).1 = (lSt (hdB W n l) n i).1 ++ [mtl (hdB W n l) n a0] := by rw [lSt, hf]
  obtain ⟨t, ht⟩ := lSt_pre (hd := hdB W n l) (n := n) (i + 1) (m - (i + 1))
  rw [show i + 1 + (m - (i + 1)) = m by omega, hs, hfin] at ht
  have hli := hlen i (by omega)
  have hgi : (PL W n l).getD i [] = mtl (hdB W n l) n a0 := by
    rw [ht, List.append_assoc, List.getD_eq_getElem?_getD, List.getElem?_append_right (by omega), hli, Nat.sub_self]; rfl
  rw [hgi] at ha
  have hp := mtl_part (W := W) (l := l) ha0
  have ha0m : a0 ∈ mtl (hdB W n l) n a0 := by rw [mtl, List.mem_filter, haa]; exact ⟨List.mem_range.2 ha0, rfl⟩
  have hw0 : Wy (adjT W n l) a0 b := ((hp.mu a0 a ha0m).1 ha).1.trans hw
  obtain ⟨hf1, _, _⟩ := List.find?_range_eq_some.1 hf
  unfold cnd at hf1
  rw [Bool.and_eq_true] at hf1
  have hq := List.all_eq_true.1 hf1.2 b (List.mem_range.2 hb)
  rw [(hdB_iff ha0 hb).2 hw0] at hq
  cases hL : (lSt (hdB W n l) n i).2 b with
  | true =>
    have hbf := ((hflat i (by omega)).2 b).2 ⟨hb, hL⟩
    obtain ⟨r, hr, hbr⟩ := List.mem_flatten.1 hbf
    obtain ⟨j, hj, rfl⟩ := List.mem_iff_getElem.1 hr
    refine ⟨j, by omega, ?_⟩
    rw [ht, List.append_assoc, List.getD_eq_getElem?_getD, List.getElem?_append_left hj, List.getElem?_eq_getElem hj]
    exact hbr
  | false =>
    rw [hL] at hq
    have hba : hdB W n l b a0 = true := by simpa using hq
    refine ⟨i, Nat.le_refl _, ?_⟩
    rw [hgi, mtl, List.mem_filter, (hdB_iff ha0 hb).2 hw0, hba]
    exact ⟨List.mem_range.2 hb, rfl⟩
theorem PL_one {W n : Nat} {l : List Bool} {i j x : Nat} (hi : i < (PL W n l).length) (hj : j < (PL W n l).length) (h1 : x ∈ (PL W n l).getD i []) (h2 : x ∈ (PL W n l).getD j []) : i = j := by
  have hd := (List.pairwise_flatten.1 (PL_flat W n l).1).2
  rw [List.getD_eq_getElem?_getD, List.getElem?_eq_getElem hi] at h1
  rw [List.getD_eq_getElem?_getD, List.getElem?_eq_getElem hj] at h2
  have hp := List.pairwise_iff_getElem.1 hd
  rcases Nat.lt_trichotomy i j with h | h | h
  · exact absurd rfl (hp i j hi hj h x h1 x h2)
  · exact h
  · exact absurd rfl (hp j i hj hi h x h2 x h1)
/-- The place of a thread among the first parts, or none. -/
def pOf (ps : List (List Nat)) (x : Nat) : Nat → Int
  | 0 => -1
  | i + 1 => if x ∈ ps.getD i [] then (i : Int) else pOf ps x i
theorem pOf_at {ps : List (List Nat)} {x k : Nat} (hx : x ∈ ps.getD k []) (hu : ∀ j, j < ps.length → x ∈ ps.getD j [] → j = k) : ∀ i, i ≤ ps.length → pOf ps x i = if k < i then (k : Int) else -1
  | 0, _ => by simp [pOf]
  | i + 1, hi => by
    rw [pOf, pOf_at hx hu i (by omega)]
    by_cases hm : x ∈ ps.getD i []
    · have := hu i (by omega) hm
      rw [if_pos hm, if_pos (by omega), this]
    · have : k ≠ i := fun e => hm (e ▸ hx)
      rw [if_neg hm]
      by_cases hk : k < i
      · rw [if_pos hk, if_pos (by omega)]
      · rw [if_neg hk, if_neg (by omega)]
/-- Where the threads are, and what that tells. -/
theorem PL_place {W n : Nat} {l : List Bool} {x : Nat} (hx : x < n) : ∃ k, k < (PL W n l).length ∧ x ∈ (PL W n l).getD k [] ∧ pOf (PL W n l) x (PL W n l).length = k := by
  obtain ⟨r, hr, hxr⟩ := List.mem_flatten.1 (((PL_flat W n l).2 x).2 hx)
  obtain ⟨k, hk, rfl⟩ := List.mem_iff_getElem.1 hr
  have hxk : x ∈ (PL W n l).getD k [] := by rw [List.getD_eq_getElem?_getD, List.getElem?_eq_getElem hk]; exact hxr
  refine ⟨k, hk, hxk, ?_⟩
  rw [pOf_at hxk (fun j hj h => PL_one hj hk h hxk) _ (Nat.le_refl _), if_pos hk]
theorem PL_same {W n : Nat} {l : List Bool} {a b : Nat} (ha : a < n) (hb : b < n) : (pOf (PL W n l) a (PL W n l).length = pOf (PL W n l) b (PL W n l).length ↔ Wy (adjT W n l) a b ∧ Wy (adjT W n l) b a) ∧ (Wy (adjT W n l) a b → pOf (PL W n l) b (PL W n l).length ≤ pOf (PL W n l) a (PL W n l).length) := by
  obtain ⟨i, hi, hai, hpa⟩ := PL_place (W := W) (l := l) ha
  obtain ⟨j, hj, hbj, hpb⟩ := PL_place (W := W) (l := l) hb
  rw [hpa, hpb]
  have hp := PL_part (W := W) (n := n) (l := l) (r := (PL W n l).getD i []) (by rw [List.getD_eq_getElem?_getD, List.getElem?_eq_getElem hi]; exact List.getElem_mem hi)
  constructor
  · rw [← hp.mu a b hai]
    constructor
    · intro h
      have : i = j := by omega
      rw [this]; exact hbj
    · intro h
      have := PL_one hi hj h hbj
      omega
  · intro hw
    obtain ⟨k, hk, hbk⟩ := PL_below hi hai hb hw
    have := PL_one (show k < (PL W n l).length by omega) hj hbk hbj
    omega
end Go.Proofs.YtmfddbhemknkfaaDoor

/- Chapter 11: the layers, by both. -/
set_option linter.unusedSimpArgs false
set_option linter.unusedVariables false
set_option maxRecDepth 100000
namespace Go.Proofs.YtmfddbhemknkfaaDoor
open Go Go.Proofs Go.AW

end Go.Proofs.YtmfddbhemknkfaaDoor

/- Chapter 11: layers compared. -/
set_option linter.unusedSimpArgs false
set_option linter.unusedVariables false
set_option maxRecDepth 100000
namespace Go.Proofs.YtmfddbhemknkfaaDoor
open Go Go.Proofs Go.AW

end Go.Proofs.YtmfddbhemknkfaaDoor

/- Chapter 11: the cloths that its statements speak of. -/
set_option linter.unusedSimpArgs false
set_option linter.unusedVariables false
set_option maxRecDepth 100000
namespace Go.Proofs.YtmfddbhemknkfaaDoor
open Go Go.Proofs Go.AW

/-- A cloth that chapter 11's statements speak of. -/
def vlE (w h : Int) (l : List Bool) : Prop := ¬ 200 < (l.length : Int) ∧ gchk w h l.length = 0 ∧ w + h ≤ 24
theorem vlE_nat {w h : Int} {l : List Bool} (hv : vlE w h l) : ∃ W H n : Nat, w = W ∧ h = H ∧ W + H = n ∧ 0 < W ∧ 0 < H ∧ n ≤ 24 ∧ l.length = W * H := by
  obtain ⟨h1, hz, h2⟩ := hv
  obtain ⟨g1, g2, g3, g4, g5⟩ := gchk_iff.1 hz
  refine ⟨w.toNat, h.toNat, w.toNat + h.toNat, by omega, by omega, rfl, by omega, by omega, by omega, ?_⟩
  have e1 : ((w.toNat * h.toNat : Nat) : Int) = (w.toNat : Int) * h.toNat := Int.natCast_mul _ _
  rw [show ((w.toNat : Nat) : Int) = w by omega, show ((h.toNat : Nat) : Int) = h by omega] at e1
  omega
theorem valid11_c (w h : Int) (b : Bool) (l : List Bool) (r : Bool) (hr : r = true ↔ vlE w h l) : Contract Tryd.prog 5 [GA w h b l] (B r) := by
  have hno : ¬ vlE w h l → r = false := fun hn => by
    cases r with
    | false => rfl
    | true => exact absurd (hr.1 rfl) hn
  by_cases c1 : 200 < (l.length : Int)
  · obtain rfl := hno fun hv => hv.1 c1
    refine Contract.intro (effS [] false) 6 follows Tryd.func5 rfl rfl (by kernel_rfl) (Nat.le_of_ble_eq_true rfl) ?_
    simp (disch := first | assumption | omega | rfl | simp only [RH]) only [↓RP, RG, FX, RQ, ↓reduceIte, Nat.reduceEqDiff, reduceCtorEq, Nat.reduceBEq, Nat.reduceAdd, Nat.reduceLeDiff, args0_1]
    refine callK_F 6 (great10_a w h b l c1) (by simp (disch := first | assumption | omega | rfl | simp only [RH]) only [↓RP, RG, FX, RQ, ↓reduceIte, Nat.reduceEqDiff, reduceCtorEq, Nat.reduceBEq, Nat.reduceAdd, Nat.reduceLeDiff, RA] <;> rfl) (.inl (by simp [allFresh, ints_fresh, bools_fresh])) ?_
    simp (disch := first | assumption | omega | rfl | simp only [RH]) only [↓RP, RG, FX, RQ, ↓reduceIte, Nat.reduceEqDiff, reduceCtorEq, Nat.reduceBEq, Nat.reduceAdd, Nat.reduceLeDiff]
    rw [resVal_1 rfl]; simp (disch := first | assumption | omega | rfl | simp only [RH]) only [↓RP, RG, FX, RQ, ↓reduceIte, Nat.reduceEqDiff, reduceCtorEq, Nat.reduceBEq, Nat.reduceAdd, Nat.reduceLeDiff, RS]
  by_cases hz : gchk w h l.length = 0
  · obtain ⟨g1, g2, g3, g4, g5⟩ := gchk_iff.1 hz
    obtain ⟨W, rfl⟩ : ∃ W : Nat, w = W := ⟨w.toNat, by omega⟩
    obtain ⟨H, rfl⟩ : ∃ H : Nat, h = H := ⟨h.toNat, by omega⟩
    have hG := great10_c W H b l c1 hz (by omega) (by omega)
    by_cases c3 : 24 < (W : Int) + H
    · rw [decide_eq_true c3] at hG
      obtain rfl := hno fun hv => by have := hv.2.2; omega
      refine Contract.intro (effS [] false) 6 follows Tryd.func5 rfl rfl (by kernel_rfl) (Nat.le_of_ble_eq_true rfl) ?_
      simp (disch := first | assumption | omega | rfl | simp only [RH]) only [↓RP, RG, FX, RQ, ↓reduceIte, Nat.reduceEqDiff, reduceCtorEq, Nat.reduceBEq, Nat.reduceAdd, Nat.reduceLeDiff, args0_1]
      refine callK_F 6 (hG) (by simp (disch := first | assumption | omega | rfl | simp only [RH]) only [↓RP, RG, FX, RQ, ↓reduceIte, Nat.reduceEqDiff, reduceCtorEq, Nat.reduceBEq, Nat.reduceAdd, Nat.reduceLeDiff, RA] <;> rfl) (.inl (by simp [allFresh, ints_fresh, bools_fresh])) ?_
      simp (disch := first | assumption | omega | rfl | simp only [RH]) only [↓RP, RG, FX, RQ, ↓reduceIte, Nat.reduceEqDiff, reduceCtorEq, Nat.reduceBEq, Nat.reduceAdd, Nat.reduceLeDiff]
      rw [resVal_1 rfl]; simp (disch := first | assumption | omega | rfl | simp only [RH]) only [↓RP, RG, FX, RQ, ↓reduceIte, Nat.reduceEqDiff, reduceCtorEq, Nat.reduceBEq, Nat.reduceAdd, Nat.reduceLeDiff, RS]
    · rw [decide_eq_false c3] at hG
      obtain rfl := hr.2 ⟨c1, hz, by omega⟩
      refine Contract.intro (effS [] false) 6 follows Tryd.func5 rfl rfl (by kernel_rfl) (Nat.le_of_ble_eq_true rfl) ?_
      simp (disch := first | assumption | omega | rfl | simp only [RH]) only [↓RP, RG, FX, RQ, ↓reduceIte, Nat.reduceEqDiff, reduceCtorEq, Nat.reduceBEq, Nat.reduceAdd, Nat.reduceLeDiff, args0_1]
      refine callK_F 6 (hG) (by simp (disch := first | assumption | omega | rfl | simp only [RH]) only [↓RP, RG, FX, RQ, ↓reduceIte, Nat.reduceEqDiff, reduceCtorEq, Nat.reduceBEq, Nat.reduceAdd, Nat.reduceLeDiff, RA] <;> rfl) (.inl (by simp [allFresh, ints_fresh, bools_fresh])) ?_
      simp (disch := first | assumption | omega | rfl | simp only [RH]) only [↓RP, RG, FX, RQ, ↓reduceIte, Nat.reduceEqDiff, reduceCtorEq, Nat.reduceBEq, Nat.reduceAdd, Nat.reduceLeDiff]
      refine callK_F 6 (gcheckR_c W H b l) (by simp (disch := first | assumption | omega | rfl | simp only [RH]) only [↓RP, RG, FX, RQ, ↓reduceIte, Nat.reduceEqDiff, reduceCtorEq, Nat.reduceBEq, Nat.reduceAdd, Nat.reduceLeDiff, RA] <;> rfl) (.inl (by simp [allFresh, ints_fresh, bools_fresh])) ?_
      simp (disch := first | assumption | omega | rfl | simp only [RH]) only [↓RP, RG, FX, RQ, ↓reduceIte, Nat.reduceEqDiff, reduceCtorEq, Nat.reduceBEq, Nat.reduceAdd, Nat.reduceLeDiff, hz]
      rw [resVal_1 rfl]; simp (disch := first | assumption | omega | rfl | simp only [RH]) only [↓RP, RG, FX, RQ, ↓reduceIte, Nat.reduceEqDiff, reduceCtorEq, Nat.reduceBEq, Nat.reduceAdd, Nat.reduceLeDiff, RS]
  · obtain rfl := hno fun hv => hz hv.2.1
    refine Contract.intro (effS [] false) 6 follows Tryd.func5 rfl rfl (by kernel_rfl) (Nat.le_of_ble_eq_true rfl) ?_
    simp (disch := first | assumption | omega | rfl | simp only [RH]) only [↓RP, RG, FX, RQ, ↓reduceIte, Nat.reduceEqDiff, reduceCtorEq, Nat.reduceBEq, Nat.reduceAdd, Nat.reduceLeDiff, args0_1]
    refine callK_F 6 (great10_b w h b l c1 hz) (by simp (disch := first | assumption | omega | rfl | simp only [RH]) only [↓RP, RG, FX, RQ, ↓reduceIte, Nat.reduceEqDiff, reduceCtorEq, Nat.reduceBEq, Nat.reduceAdd, Nat.reduceLeDiff, RA] <;> rfl) (.inl (by simp [allFresh, ints_fresh, bools_fresh])) ?_
    simp (disch := first | assumption | omega | rfl | simp only [RH]) only [↓RP, RG, FX, RQ, ↓reduceIte, Nat.reduceEqDiff, reduceCtorEq, Nat.reduceBEq, Nat.reduceAdd, Nat.reduceLeDiff]
    refine callK_F 6 (gcheckR_c w h b l) (by simp (disch := first | assumption | omega | rfl | simp only [RH]) only [↓RP, RG, FX, RQ, ↓reduceIte, Nat.reduceEqDiff, reduceCtorEq, Nat.reduceBEq, Nat.reduceAdd, Nat.reduceLeDiff, RA] <;> rfl) (.inl (by simp [allFresh, ints_fresh, bools_fresh])) ?_
    simp (disch := first | assumption | omega | rfl | simp only [RH]) only [↓RP, RG, FX, RQ, ↓reduceIte, Nat.reduceEqDiff, reduceCtorEq, Nat.reduceBEq, Nat.reduceAdd, Nat.reduceLeDiff]
    rw [resVal_1 rfl]; simp (disch := first | assumption | omega | rfl | simp only [RH]) only [↓RP, RG, FX, RQ, ↓reduceIte, Nat.reduceEqDiff, reduceCtorEq, Nat.reduceBEq, Nat.reduceAdd, Nat.reduceLeDiff, RS]
    first | done | exact okF (by simpa using hz)
end Go.Proofs.YtmfddbhemknkfaaDoor

/- Chapter 11: it is alive. -/
set_option maxRecDepth 100000
namespace Go.Proofs.YtmfddbhemknkfaaDoor
open Go Go.Proofs Go.AW
noncomputable def g44 : AVal := .agg [I 4, I 4, .list false false 16 (bools [true, false, false, false, false, true, false, false, true, true, false, true, true, true, true, false])]
noncomputable def r44 : AVal := .tuple [.list true false 2 [.list true false 4 (ints [0, 1, 4, 5]), .list true false 4 (ints [2, 3, 6, 7])], I 0]
theorem p44 : Contract Tryd.prog 10 [g44] r44 := Contract.run xGood 5000 (by kernel_rfl)
noncomputable def t44 : AVal := .agg [I 4, I 4, .list true false 16 (bools [true, false, false, false, false, true, false, false, true, true, false, true, true, true, true, false])]
theorem two_c : Contract Tryd.prog 19 [] t44 := Contract.run xGood 5000 (by kernel_rfl)
noncomputable def orcL : List (Nat × List AVal × AVal) := [(19, [], t44), (10, [g44], r44)]
theorem orcL_ok : ∀ p ∈ orcL, Contract Tryd.prog p.1 p.2.1 p.2.2 := by
  intro p hp
  simp only [orcL, List.mem_cons, List.not_mem_nil, or_false] at hp
  rcases hp with rfl | rfl
  · exact two_c
  · exact p44
theorem xGoodL : XT.Good Tryd.prog { xT with orc := lookO orcL } := XT.withO xGood orcL_ok
theorem layersAlive_c : Contract Tryd.prog 7 [] (B true) := Contract.run xGoodL 5000 (by kernel_rfl)
end Go.Proofs.YtmfddbhemknkfaaDoor

/- The law LayersHeld. -/
set_option linter.unusedSimpArgs false
set_option linter.unusedVariables false
set_option maxRecDepth 100000
namespace Go.Proofs.YtmfddbhemknkfaaDoor
open Go Go.Proofs Go.AW

theorem ite_snoc {p x : Nat} {l : List Nat} {a b : Int} : (if p ∈ l ++ [x] then a else b) = if (x : Int) = p then a else if p ∈ l then a else b := by
  by_cases c : (x : Int) = p
  · rw [if_pos c, if_pos (List.mem_append_right _ (by rw [List.mem_singleton]; omega))]
  · rw [if_neg c]
    by_cases d : p ∈ l
    · rw [if_pos d, if_pos (List.mem_append_left _ d)]
    · rw [if_neg d, if_neg]
      rintro h
      rcases List.mem_append.1 h with h | h
      · exact d h
      · rw [List.mem_singleton] at h; omega
set_option maxHeartbeats 4000000 in
theorem layersHeld_c (w h : Int) (b : Bool) (l : List Bool) (x y z : Int) : Contract Tryd.prog 3 [GA w h b l, I x, I y, I z] (B true) := by
  classical
  have hV := valid11_c w h b l (decide (vlE w h l)) decide_eq_true_iff
  by_cases hv : vlE w h l
  rotate_left
  · rw [decide_eq_false hv] at hV
    refine Contract.intro (effS [] false) 6 follows Tryd.func3 rfl rfl (by kernel_rfl) (Nat.le_of_ble_eq_true rfl) ?_
    simp (disch := first | assumption | omega | rfl | simp only [RH]) only [↓RP, RG, FX, RQ, ↓reduceIte, Nat.reduceEqDiff, reduceCtorEq, Nat.reduceBEq, Nat.reduceAdd, Nat.reduceLeDiff, args0_4]
    refine callK_F 6 (hV) (by simp (disch := first | assumption | omega | rfl | simp only [RH]) only [↓RP, RG, FX, RQ, ↓reduceIte, Nat.reduceEqDiff, reduceCtorEq, Nat.reduceBEq, Nat.reduceAdd, Nat.reduceLeDiff, RA] <;> rfl) (.inl (by simp [allFresh, ints_fresh, bools_fresh])) ?_
    simp (disch := first | assumption | omega | rfl | simp only [RH]) only [↓RP, RG, FX, RQ, ↓reduceIte, Nat.reduceEqDiff, reduceCtorEq, Nat.reduceBEq, Nat.reduceAdd, Nat.reduceLeDiff]
    refine callK_F 6 (layersAlive_c) (by simp (disch := first | assumption | omega | rfl | simp only [RH]) only [↓RP, RG, FX, RQ, ↓reduceIte, Nat.reduceEqDiff, reduceCtorEq, Nat.reduceBEq, Nat.reduceAdd, Nat.reduceLeDiff, RA] <;> rfl) (.inl (by simp [allFresh, ints_fresh, bools_fresh])) ?_
    simp (disch := first | assumption | omega | rfl | simp only [RH]) only [↓RP, RG, FX, RQ, ↓reduceIte, Nat.reduceEqDiff, reduceCtorEq, Nat.reduceBEq, Nat.reduceAdd, Nat.reduceLeDiff]
    rw [resVal_1 rfl]; simp (disch := first | assumption | omega | rfl | simp only [RH]) only [↓RP, RG, FX, RQ, ↓reduceIte, Nat.reduceEqDiff, reduceCtorEq, Nat.reduceBEq, Nat.reduceAdd, Nat.reduceLeDiff, RS]
  rw [decide_eq_true hv] at hV
  obtain ⟨W, H, n, rfl, rfl, hN, hW0, hH0, hn24, hn⟩ := vlE_nat hv
  have hW : W ≤ 64 := by omega
  have hH : H ≤ 64 := by omega
  by_cases hx : 0 ≤ x ∧ x < (W : Int) + H
  rotate_left
  · refine Contract.intro (effS [] false) 6 follows Tryd.func3 rfl rfl (by kernel_rfl) (Nat.le_of_ble_eq_true rfl) ?_
    simp (disch := first | assumption | omega | rfl | simp only [RH]) only [↓RP, RG, FX, RQ, ↓reduceIte, Nat.reduceEqDiff, reduceCtorEq, Nat.reduceBEq, Nat.reduceAdd, Nat.reduceLeDiff, args0_4]
    refine callK_F 6 (hV) (by simp (disch := first | assumption | omega | rfl | simp only [RH]) only [↓RP, RG, FX, RQ, ↓reduceIte, Nat.reduceEqDiff, reduceCtorEq, Nat.reduceBEq, Nat.reduceAdd, Nat.reduceLeDiff, RA] <;> rfl) (.inl (by simp [allFresh, ints_fresh, bools_fresh])) ?_
    simp (disch := first | assumption | omega | rfl | simp only [RH]) only [↓RP, RG, FX, RQ, ↓reduceIte, Nat.reduceEqDiff, reduceCtorEq, Nat.reduceBEq, Nat.reduceAdd, Nat.reduceLeDiff]
    refine callK_F 6 (is_c W H b l x hW hH) (by simp (disch := first | assumption | omega | rfl | simp only [RH]) only [↓RP, RG, FX, RQ, ↓reduceIte, Nat.reduceEqDiff, reduceCtorEq, Nat.reduceBEq, Nat.reduceAdd, Nat.reduceLeDiff, RA] <;> rfl) (.inl (by simp [allFresh, ints_fresh, bools_fresh])) ?_
    simp (disch := first | assumption | omega | rfl | simp only [RH]) only [↓RP, RG, FX, RQ, ↓reduceIte, Nat.reduceEqDiff, reduceCtorEq, Nat.reduceBEq, Nat.reduceAdd, Nat.reduceLeDiff, decide_eq_false hx]
    refine callK_F 6 (layersAlive_c) (by simp (disch := first | assumption | omega | rfl | simp only [RH]) only [↓RP, RG, FX, RQ, ↓reduceIte, Nat.reduceEqDiff, reduceCtorEq, Nat.reduceBEq, Nat.reduceAdd, Nat.reduceLeDiff, RA] <;> rfl) (.inl (by simp [allFresh, ints_fresh, bools_fresh])) ?_
    simp (disch := first | assumption | omega | rfl | simp only [RH]) only [↓RP, RG, FX, RQ, ↓reduceIte, Nat.reduceEqDiff, reduceCtorEq, Nat.reduceBEq, Nat.reduceAdd, Nat.reduceLeDiff]
    rw [resVal_1 rfl]; simp (disch := first | assumption | omega | rfl | simp only [RH]) only [↓RP, RG, FX, RQ, ↓reduceIte, Nat.reduceEqDiff, reduceCtorEq, Nat.reduceBEq, Nat.reduceAdd, Nat.reduceLeDiff, RS]
  by_cases hy : 0 ≤ y ∧ y < (W : Int) + H
  rotate_left
  · refine Contract.intro (effS [] false) 6 follows Tryd.func3 rfl rfl (by kernel_rfl) (Nat.le_of_ble_eq_true rfl) ?_
    simp (disch := first | assumption | omega | rfl | simp only [RH]) only [↓RP, RG, FX, RQ, ↓reduceIte, Nat.reduceEqDiff, reduceCtorEq, Nat.reduceBEq, Nat.reduceAdd, Nat.reduceLeDiff, args0_4]
    refine callK_F 6 (hV) (by simp (disch := first | assumption | omega | rfl | simp only [RH]) only [↓RP, RG, FX, RQ, ↓reduceIte, Nat.reduceEqDiff, reduceCtorEq, Nat.reduceBEq, Nat.reduceAdd, Nat.reduceLeDiff, RA] <;> rfl) (.inl (by simp [allFresh, ints_fresh, bools_fresh])) ?_
    simp (disch := first | assumption | omega | rfl | simp only [RH]) only [↓RP, RG, FX, RQ, ↓reduceIte, Nat.reduceEqDiff, reduceCtorEq, Nat.reduceBEq, Nat.reduceAdd, Nat.reduceLeDiff]
    refine callK_F 6 (is_c W H b l x hW hH) (by simp (disch := first | assumption | omega | rfl | simp only [RH]) only [↓RP, RG, FX, RQ, ↓reduceIte, Nat.reduceEqDiff, reduceCtorEq, Nat.reduceBEq, Nat.reduceAdd, Nat.reduceLeDiff, RA] <;> rfl) (.inl (by simp [allFresh, ints_fresh, bools_fresh])) ?_
    simp (disch := first | assumption | omega | rfl | simp only [RH]) only [↓RP, RG, FX, RQ, ↓reduceIte, Nat.reduceEqDiff, reduceCtorEq, Nat.reduceBEq, Nat.reduceAdd, Nat.reduceLeDiff, decide_eq_true hx]
    refine callK_F 6 (is_c W H b l y hW hH) (by simp (disch := first | assumption | omega | rfl | simp only [RH]) only [↓RP, RG, FX, RQ, ↓reduceIte, Nat.reduceEqDiff, reduceCtorEq, Nat.reduceBEq, Nat.reduceAdd, Nat.reduceLeDiff, RA] <;> rfl) (.inl (by simp [allFresh, ints_fresh, bools_fresh])) ?_
    simp (disch := first | assumption | omega | rfl | simp only [RH]) only [↓RP, RG, FX, RQ, ↓reduceIte, Nat.reduceEqDiff, reduceCtorEq, Nat.reduceBEq, Nat.reduceAdd, Nat.reduceLeDiff, decide_eq_false hy]
    refine callK_F 6 (layersAlive_c) (by simp (disch := first | assumption | omega | rfl | simp only [RH]) only [↓RP, RG, FX, RQ, ↓reduceIte, Nat.reduceEqDiff, reduceCtorEq, Nat.reduceBEq, Nat.reduceAdd, Nat.reduceLeDiff, RA] <;> rfl) (.inl (by simp [allFresh, ints_fresh, bools_fresh])) ?_
    simp (disch := first | assumption | omega | rfl | simp only [RH]) only [↓RP, RG, FX, RQ, ↓reduceIte, Nat.reduceEqDiff, reduceCtorEq, Nat.reduceBEq, Nat.reduceAdd, Nat.reduceLeDiff]
    rw [resVal_1 rfl]; simp (disch := first | assumption | omega | rfl | simp only [RH]) only [↓RP, RG, FX, RQ, ↓reduceIte, Nat.reduceEqDiff, reduceCtorEq, Nat.reduceBEq, Nat.reduceAdd, Nat.reduceLeDiff, RS]
  by_cases hzz : 0 ≤ z ∧ z < (W : Int) + H
  rotate_left
  · refine Contract.intro (effS [] false) 6 follows Tryd.func3 rfl rfl (by kernel_rfl) (Nat.le_of_ble_eq_true rfl) ?_
    simp (disch := first | assumption | omega | rfl | simp only [RH]) only [↓RP, RG, FX, RQ, ↓reduceIte, Nat.reduceEqDiff, reduceCtorEq, Nat.reduceBEq, Nat.reduceAdd, Nat.reduceLeDiff, args0_4]
    refine callK_F 6 (hV) (by simp (disch := first | assumption | omega | rfl | simp only [RH]) only [↓RP, RG, FX, RQ, ↓reduceIte, Nat.reduceEqDiff, reduceCtorEq, Nat.reduceBEq, Nat.reduceAdd, Nat.reduceLeDiff, RA] <;> rfl) (.inl (by simp [allFresh, ints_fresh, bools_fresh])) ?_
    simp (disch := first | assumption | omega | rfl | simp only [RH]) only [↓RP, RG, FX, RQ, ↓reduceIte, Nat.reduceEqDiff, reduceCtorEq, Nat.reduceBEq, Nat.reduceAdd, Nat.reduceLeDiff]
    refine callK_F 6 (is_c W H b l x hW hH) (by simp (disch := first | assumption | omega | rfl | simp only [RH]) only [↓RP, RG, FX, RQ, ↓reduceIte, Nat.reduceEqDiff, reduceCtorEq, Nat.reduceBEq, Nat.reduceAdd, Nat.reduceLeDiff, RA] <;> rfl) (.inl (by simp [allFresh, ints_fresh, bools_fresh])) ?_
    simp (disch := first | assumption | omega | rfl | simp only [RH]) only [↓RP, RG, FX, RQ, ↓reduceIte, Nat.reduceEqDiff, reduceCtorEq, Nat.reduceBEq, Nat.reduceAdd, Nat.reduceLeDiff, decide_eq_true hx]
    refine callK_F 6 (is_c W H b l y hW hH) (by simp (disch := first | assumption | omega | rfl | simp only [RH]) only [↓RP, RG, FX, RQ, ↓reduceIte, Nat.reduceEqDiff, reduceCtorEq, Nat.reduceBEq, Nat.reduceAdd, Nat.reduceLeDiff, RA] <;> rfl) (.inl (by simp [allFresh, ints_fresh, bools_fresh])) ?_
    simp (disch := first | assumption | omega | rfl | simp only [RH]) only [↓RP, RG, FX, RQ, ↓reduceIte, Nat.reduceEqDiff, reduceCtorEq, Nat.reduceBEq, Nat.reduceAdd, Nat.reduceLeDiff, decide_eq_true hy]
    refine callK_F 6 (is_c W H b l z hW hH) (by simp (disch := first | assumption | omega | rfl | simp only [RH]) only [↓RP, RG, FX, RQ, ↓reduceIte, Nat.reduceEqDiff, reduceCtorEq, Nat.reduceBEq, Nat.reduceAdd, Nat.reduceLeDiff, RA] <;> rfl) (.inl (by simp [allFresh, ints_fresh, bools_fresh])) ?_
    simp (disch := first | assumption | omega | rfl | simp only [RH]) only [↓RP, RG, FX, RQ, ↓reduceIte, Nat.reduceEqDiff, reduceCtorEq, Nat.reduceBEq, Nat.reduceAdd, Nat.reduceLeDiff, decide_eq_false hzz]
    refine callK_F 6 (layersAlive_c) (by simp (disch := first | assumption | omega | rfl | simp only [RH]) only [↓RP, RG, FX, RQ, ↓reduceIte, Nat.reduceEqDiff, reduceCtorEq, Nat.reduceBEq, Nat.reduceAdd, Nat.reduceLeDiff, RA] <;> rfl) (.inl (by simp [allFresh, ints_fresh, bools_fresh])) ?_
    simp (disch := first | assumption | omega | rfl | simp only [RH]) only [↓RP, RG, FX, RQ, ↓reduceIte, Nat.reduceEqDiff, reduceCtorEq, Nat.reduceBEq, Nat.reduceAdd, Nat.reduceLeDiff]
    rw [resVal_1 rfl]; simp (disch := first | assumption | omega | rfl | simp only [RH]) only [↓RP, RG, FX, RQ, ↓reduceIte, Nat.reduceEqDiff, reduceCtorEq, Nat.reduceBEq, Nat.reduceAdd, Nat.reduceLeDiff, RS]
  obtain ⟨p, rfl⟩ : ∃ p : Nat, x = p := ⟨x.toNat, by omega⟩
  obtain ⟨q, rfl⟩ : ∃ q : Nat, y = q := ⟨y.toNat, by omega⟩
  obtain ⟨r, rfl⟩ : ∃ r : Nat, z = r := ⟨z.toNat, by omega⟩
  have hp : p < n := by omega
  have hq : q < n := by omega
  have hr : r < n := by omega
  have hh : ∀ p q : Nat, p < n → q < n → Contract Tryd.prog 8 [GA W H b l, I p, I q] (.tuple [B (hdB W n l p q), I 0]) := fun p q hp hq => by
    have := heldP_c hN hW0 hH0 (by omega) b hn (p : Int) (q : Int)
    have e : hldV W n l p q = (hdB W n l p q, 0) := by unfold hldV; rw [if_pos (by omega)]; rfl
    rw [e] at this; exact this
  have ho : Contract Tryd.prog 9 [GA W H b l, I q, I p] (.tuple [B (ov W l q p), I 0]) := by
    have := overP_c hW0 hH0 hW hH b hn (q : Int) (p : Int)
    have e : ovr W H l q p = (ov W l q p, 0) := by unfold ovr; rw [if_pos (by omega)]; rfl
    rw [e] at this; exact this
  have hPP := partsPP_c hN hW0 hH0 (by omega) b hn
  have c1 := hh p p hp hp
  have c2 := hh p q hp hq
  have c3 := hh q p hq hp
  have c4 := hh q r hq hr
  have c5 := hh p r hp hr
  have i1 : hdB W n l p p = true := (hdB_iff hp hp).2 (.refl p)
  have i2 : hdB W n l p q = true → hdB W n l q r = true → hdB W n l p r = true := fun a b => (hdB_iff hp hr).2 (((hdB_iff hp hq).1 a).trans ((hdB_iff hq hr).1 b))
  have i3 : ov W l q p = true → hdB W n l p q = true := fun a => (hdB_iff hp hq).2 (.one (mem_adjT.2 ⟨hq, a⟩))
  obtain ⟨s1, s2⟩ := PL_same (W := W) (l := l) hp hq
  rw [← hdB_iff hp hq, ← hdB_iff hq hp] at s1
  rw [← hdB_iff hp hq] at s2
  obtain ⟨kp, hkp, hpk, hpp⟩ := PL_place (W := W) (l := l) hp
  obtain ⟨kq, hkq, hqk, hqq⟩ := PL_place (W := W) (l := l) hq
  have hps := parts_len (W := W) (n := n) (l := l)
  have hrow : ∀ r ∈ PL W n l, r.length ≤ n := fun r hr => (PL_row hr).1
  rw [hpp, hqq] at s1 s2
  rw [i1] at c1
  generalize PL W n l = ps at *
  generalize hdB W n l p q = B1 at *
  generalize hdB W n l q p = B2 at *
  generalize hdB W n l q r = B3 at *
  generalize hdB W n l p r = B4 at *
  generalize ov W l q p = B5 at *
  have hcs : (B1 = true ∧ B3 = true ∧ B4 = true ∧ B5 = true) ∨ (B1 = true ∧ B3 = true ∧ B4 = true ∧ B5 = false) ∨ (B1 = true ∧ B3 = false ∧ B5 = true) ∨ (B1 = true ∧ B3 = false ∧ B5 = false) ∨ (B1 = false ∧ B5 = false) := by
    cases B1 <;> cases B3 <;> cases B4 <;> cases B5 <;> simp_all
  refine Contract.intro (effS [] false) 6 follows Tryd.func3 rfl rfl (by kernel_rfl) (Nat.le_of_ble_eq_true rfl) ?_
  simp (disch := first | assumption | omega | rfl | simp only [RH]) only [↓RP, RG, FX, RQ, ↓reduceIte, Nat.reduceEqDiff, reduceCtorEq, Nat.reduceBEq, Nat.reduceAdd, Nat.reduceLeDiff, args0_4]
  refine callK_F 6 (hV) (by simp (disch := first | assumption | omega | rfl | simp only [RH]) only [↓RP, RG, FX, RQ, ↓reduceIte, Nat.reduceEqDiff, reduceCtorEq, Nat.reduceBEq, Nat.reduceAdd, Nat.reduceLeDiff, RA] <;> rfl) (.inl (by simp [allFresh, ints_fresh, bools_fresh])) ?_
  simp (disch := first | assumption | omega | rfl | simp only [RH]) only [↓RP, RG, FX, RQ, ↓reduceIte, Nat.reduceEqDiff, reduceCtorEq, Nat.reduceBEq, Nat.reduceAdd, Nat.reduceLeDiff]
  refine callK_F 6 (is_c W H b l p hW hH) (by simp (disch := first | assumption | omega | rfl | simp only [RH]) only [↓RP, RG, FX, RQ, ↓reduceIte, Nat.reduceEqDiff, reduceCtorEq, Nat.reduceBEq, Nat.reduceAdd, Nat.reduceLeDiff, RA] <;> rfl) (.inl (by simp [allFresh, ints_fresh, bools_fresh])) ?_
  simp (disch := first | assumption | omega | rfl | simp only [RH]) only [↓RP, RG, FX, RQ, ↓reduceIte, Nat.reduceEqDiff, reduceCtorEq, Nat.reduceBEq, Nat.reduceAdd, Nat.reduceLeDiff, decide_eq_true hx]
  refine callK_F 6 (is_c W H b l q hW hH) (by simp (disch := first | assumption | omega | rfl | simp only [RH]) only [↓RP, RG, FX, RQ, ↓reduceIte, Nat.reduceEqDiff, reduceCtorEq, Nat.reduceBEq, Nat.reduceAdd, Nat.reduceLeDiff, RA] <;> rfl) (.inl (by simp [allFresh, ints_fresh, bools_fresh])) ?_
  simp (disch := first | assumption | omega | rfl | simp only [RH]) only [↓RP, RG, FX, RQ, ↓reduceIte, Nat.reduceEqDiff, reduceCtorEq, Nat.reduceBEq, Nat.reduceAdd, Nat.reduceLeDiff, decide_eq_true hy]
  refine callK_F 6 (is_c W H b l r hW hH) (by simp (disch := first | assumption | omega | rfl | simp only [RH]) only [↓RP, RG, FX, RQ, ↓reduceIte, Nat.reduceEqDiff, reduceCtorEq, Nat.reduceBEq, Nat.reduceAdd, Nat.reduceLeDiff, RA] <;> rfl) (.inl (by simp [allFresh, ints_fresh, bools_fresh])) ?_
  simp (disch := first | assumption | omega | rfl | simp only [RH]) only [↓RP, RG, FX, RQ, ↓reduceIte, Nat.reduceEqDiff, reduceCtorEq, Nat.reduceBEq, Nat.reduceAdd, Nat.reduceLeDiff, decide_eq_true hzz]
  refine callK_F 6 (c1) (by simp (disch := first | assumption | omega | rfl | simp only [RH]) only [↓RP, RG, FX, RQ, ↓reduceIte, Nat.reduceEqDiff, reduceCtorEq, Nat.reduceBEq, Nat.reduceAdd, Nat.reduceLeDiff, RA] <;> rfl) (.inl (by simp [allFresh, ints_fresh, bools_fresh])) ?_
  simp (disch := first | assumption | omega | rfl | simp only [RH]) only [↓RP, RG, FX, RQ, ↓reduceIte, Nat.reduceEqDiff, reduceCtorEq, Nat.reduceBEq, Nat.reduceAdd, Nat.reduceLeDiff]
  refine callK_F 6 (c2) (by simp (disch := first | assumption | omega | rfl | simp only [RH]) only [↓RP, RG, FX, RQ, ↓reduceIte, Nat.reduceEqDiff, reduceCtorEq, Nat.reduceBEq, Nat.reduceAdd, Nat.reduceLeDiff, RA] <;> rfl) (.inl (by simp [allFresh, ints_fresh, bools_fresh])) ?_
  simp (disch := first | assumption | omega | rfl | simp only [RH]) only [↓RP, RG, FX, RQ, ↓reduceIte, Nat.reduceEqDiff, reduceCtorEq, Nat.reduceBEq, Nat.reduceAdd, Nat.reduceLeDiff]
  refine callK_F 6 (c3) (by simp (disch := first | assumption | omega | rfl | simp only [RH]) only [↓RP, RG, FX, RQ, ↓reduceIte, Nat.reduceEqDiff, reduceCtorEq, Nat.reduceBEq, Nat.reduceAdd, Nat.reduceLeDiff, RA] <;> rfl) (.inl (by simp [allFresh, ints_fresh, bools_fresh])) ?_
  simp (disch := first | assumption | omega | rfl | simp only [RH]) only [↓RP, RG, FX, RQ, ↓reduceIte, Nat.reduceEqDiff, reduceCtorEq, Nat.reduceBEq, Nat.reduceAdd, Nat.reduceLeDiff]
  refine callK_F 6 (c4) (by simp (disch := first | assumption | omega | rfl | simp only [RH]) only [↓RP, RG, FX, RQ, ↓reduceIte, Nat.reduceEqDiff, reduceCtorEq, Nat.reduceBEq, Nat.reduceAdd, Nat.reduceLeDiff, RA] <;> rfl) (.inl (by simp [allFresh, ints_fresh, bools_fresh])) ?_
  simp (disch := first | assumption | omega | rfl | simp only [RH]) only [↓RP, RG, FX, RQ, ↓reduceIte, Nat.reduceEqDiff, reduceCtorEq, Nat.reduceBEq, Nat.reduceAdd, Nat.reduceLeDiff]
  refine callK_F 6 (c5) (by simp (disch := first | assumption | omega | rfl | simp only [RH]) only [↓RP, RG, FX, RQ, ↓reduceIte, Nat.reduceEqDiff, reduceCtorEq, Nat.reduceBEq, Nat.reduceAdd, Nat.reduceLeDiff, RA] <;> rfl) (.inl (by simp [allFresh, ints_fresh, bools_fresh])) ?_
  simp (disch := first | assumption | omega | rfl | simp only [RH]) only [↓RP, RG, FX, RQ, ↓reduceIte, Nat.reduceEqDiff, reduceCtorEq, Nat.reduceBEq, Nat.reduceAdd, Nat.reduceLeDiff]
  refine callK_F 6 (ho) (by simp (disch := first | assumption | omega | rfl | simp only [RH]) only [↓RP, RG, FX, RQ, ↓reduceIte, Nat.reduceEqDiff, reduceCtorEq, Nat.reduceBEq, Nat.reduceAdd, Nat.reduceLeDiff, RA] <;> rfl) (.inl (by simp [allFresh, ints_fresh, bools_fresh])) ?_
  simp (disch := first | assumption | omega | rfl | simp only [RH]) only [↓RP, RG, FX, RQ, ↓reduceIte, Nat.reduceEqDiff, reduceCtorEq, Nat.reduceBEq, Nat.reduceAdd, Nat.reduceLeDiff]
  refine callK_F 6 hPP (by simp (disch := first | assumption | omega | rfl | simp only [RH]) only [↓RP, RG, FX, RQ, ↓reduceIte, Nat.reduceEqDiff, reduceCtorEq, Nat.reduceBEq, Nat.reduceAdd, Nat.reduceLeDiff, RA] <;> rfl) (.inl (by simp [allFresh]; exact PV_fr 2 _)) ?_
  simp only [PV]
  have t1 : (true == true) = true := rfl
  have t2 : (true == false) = false := rfl
  have t3 : (false == true) = false := rfl
  have t4 : (false == false) = true := rfl
  rcases hcs with ⟨h1, h3, h4, h5⟩ | ⟨h1, h3, h4, h5⟩ | ⟨h1, h3, h5⟩ | ⟨h1, h3, h5⟩ | ⟨h1, h5⟩
  · simp (disch := first | assumption | omega | rfl | simp only [RH]) only [↓RP, RG, FX, RQ, ↓reduceIte, Nat.reduceEqDiff, reduceCtorEq, Nat.reduceBEq, Nat.reduceAdd, Nat.reduceLeDiff, h1, h3, h4, h5]
    refine loopK_I [1, 2, 11, 13, 21, 23, 24, 25] (fun i : Nat => i ≤ ps.length) (fun i => ⟨[(1, I p), (2, I q), (11, B B1), (13, B B2), (21, .list true ps.isEmpty ps.length (rowsC ps)), (23, I (pOf ps p i)), (24, I (pOf ps q i)), (25, I i)], [⟨24, 3, [I W, I H, BA b l]⟩]⟩) (fun i => ps.length - i) 0 (by simp) (by simp only [↓RP, RG, FX, RQ, ↓reduceIte, Nat.reduceEqDiff, reduceCtorEq, Nat.reduceBEq, Nat.reduceAdd, Nat.reduceLeDiff]; simp [h1, pOf]) ?_
    intro i hi
    by_cases hlt : i < ps.length
    · have hrk := rowsC_at hlt
      have hrl : (ps.getD i []).length ≤ n := hrow _ (by rw [List.getD_eq_getElem?_getD, List.getElem?_eq_getElem hlt]; exact List.getElem_mem hlt)
      have e1 : pOf ps p (i + 1) = if p ∈ ps.getD i [] then (i : Int) else pOf ps p i := rfl
      have e2 : pOf ps q (i + 1) = if q ∈ ps.getD i [] then (i : Int) else pOf ps q i := rfl
      clear hpk hqk
      generalize ps.getD i [] = r at *
      generalize pOf ps p i = P0 at *
      generalize pOf ps q i = Q0 at *
      have hrn := nI_len r
      simp (disch := first | assumption | omega | rfl | simp only [RH]) only [↓RP, RG, FX, RQ, ↓reduceIte, Nat.reduceEqDiff, reduceCtorEq, Nat.reduceBEq, Nat.reduceAdd, Nat.reduceLeDiff, hrk, Int.toNat_natCast]
      refine loopK_I [1, 2, 11, 13, 21, 23, 24, 25, 26] (fun j : Nat => j ≤ r.length) (fun j => ⟨[(1, I p), (2, I q), (11, B B1), (13, B B2), (21, .list true ps.isEmpty ps.length (rowsC ps)), (23, I (if p ∈ r.take j then (i : Int) else P0)), (24, I (if q ∈ r.take j then (i : Int) else Q0)), (25, I i), (26, I j)], [⟨24, 3, [I W, I H, BA b l]⟩]⟩) (fun j => r.length - j) 0 (by simp) (by simp only [↓RP, RG, FX, RQ, ↓reduceIte, Nat.reduceEqDiff, reduceCtorEq, Nat.reduceBEq, Nat.reduceAdd, Nat.reduceLeDiff]; simp) ?_
      intro j hj
      by_cases hlj : j < r.length
      · obtain ⟨x, hx⟩ : ∃ x, r[j]? = some x := ⟨_, List.getElem?_eq_getElem hlj⟩
        have hgx : (nI r).getD j 0 = (x : Int) := by simp [nI, List.getD_eq_getElem?_getD, hx]
        have htj : r.take (j + 1) = r.take j ++ [x] := by rw [List.take_add_one, hx]; rfl
        have m1 : (if p ∈ r.take (j + 1) then (i : Int) else P0) = if (x : Int) = p then (i : Int) else if p ∈ r.take j then (i : Int) else P0 := by rw [htj]; exact ite_snoc
        have m2 : (if q ∈ r.take (j + 1) then (i : Int) else Q0) = if (x : Int) = q then (i : Int) else if q ∈ r.take j then (i : Int) else Q0 := by rw [htj]; exact ite_snoc
        generalize (if p ∈ r.take j then (i : Int) else P0) = P1 at *
        generalize (if q ∈ r.take j then (i : Int) else Q0) = Q1 at *
        by_cases c1 : (x : Int) = p
        · rw [if_pos c1] at m1
          by_cases c2 : (x : Int) = q
          · rw [if_pos c2] at m2
            simp (disch := first | assumption | omega | rfl | simp only [RH]) only [↓RP, RG, FX, RQ, ↓reduceIte, Nat.reduceEqDiff, reduceCtorEq, Nat.reduceBEq, Nat.reduceAdd, Nat.reduceLeDiff, hrk, hgx, Int.toNat_natCast]
            exact ⟨j + 1, hlj, by rw [m1, m2]; rfl, by omega⟩
          · rw [if_neg c2] at m2
            simp (disch := first | assumption | omega | rfl | simp only [RH]) only [↓RP, RG, FX, RQ, ↓reduceIte, Nat.reduceEqDiff, reduceCtorEq, Nat.reduceBEq, Nat.reduceAdd, Nat.reduceLeDiff, hrk, hgx, Int.toNat_natCast]
            exact ⟨j + 1, hlj, by rw [m1, m2]; rfl, by omega⟩
        · rw [if_neg c1] at m1
          by_cases c2 : (x : Int) = q
          · rw [if_pos c2] at m2
            simp (disch := first | assumption | omega | rfl | simp only [RH]) only [↓RP, RG, FX, RQ, ↓reduceIte, Nat.reduceEqDiff, reduceCtorEq, Nat.reduceBEq, Nat.reduceAdd, Nat.reduceLeDiff, hrk, hgx, Int.toNat_natCast]
            exact ⟨j + 1, hlj, by rw [m1, m2]; rfl, by omega⟩
          · rw [if_neg c2] at m2
            simp (disch := first | assumption | omega | rfl | simp only [RH]) only [↓RP, RG, FX, RQ, ↓reduceIte, Nat.reduceEqDiff, reduceCtorEq, Nat.reduceBEq, Nat.reduceAdd, Nat.reduceLeDiff, hrk, hgx, Int.toNat_natCast]
            exact ⟨j + 1, hlj, by rw [m1, m2]; rfl, by omega⟩
      · obtain rfl : r.length = j := by omega
        rw [List.take_length]
        simp (disch := first | assumption | omega | rfl | simp only [RH]) only [↓RP, RG, FX, RQ, ↓reduceIte, Nat.reduceEqDiff, reduceCtorEq, Nat.reduceBEq, Nat.reduceAdd, Nat.reduceLeDiff, hrk, Int.toNat_natCast]
        exact ⟨i + 1, hlt, by rw [e1, e2]; rfl, by omega⟩
    · obtain rfl : ps.length = i := by omega
      rw [hpp, hqq]
      by_cases c1 : (kp : Int) = kq
      · obtain ⟨b1, b2⟩ := s1.1 c1
        simp (disch := first | assumption | omega | rfl | simp only [RH]) only [↓RP, RG, FX, RQ, ↓reduceIte, Nat.reduceEqDiff, reduceCtorEq, Nat.reduceBEq, Nat.reduceAdd, Nat.reduceLeDiff, b1, b2, t1, t2, t3, t4]
        refine callK_F 6 (layersAlive_c) (by simp (disch := first | assumption | omega | rfl | simp only [RH]) only [↓RP, RG, FX, RQ, ↓reduceIte, Nat.reduceEqDiff, reduceCtorEq, Nat.reduceBEq, Nat.reduceAdd, Nat.reduceLeDiff, RA] <;> rfl) (.inl (by simp [allFresh, ints_fresh, bools_fresh])) ?_
        simp (disch := first | assumption | omega | rfl | simp only [RH]) only [↓RP, RG, FX, RQ, ↓reduceIte, Nat.reduceEqDiff, reduceCtorEq, Nat.reduceBEq, Nat.reduceAdd, Nat.reduceLeDiff]
        rw [resVal_1 rfl]; simp (disch := first | assumption | omega | rfl | simp only [RH]) only [↓RP, RG, FX, RQ, ↓reduceIte, Nat.reduceEqDiff, reduceCtorEq, Nat.reduceBEq, Nat.reduceAdd, Nat.reduceLeDiff, RS]
      · have b0 := fun hb => c1 (s1.2 hb)
        cases b1 : B1 with
        | true =>
          have b2 : B2 = false := by
            cases hb2 : B2 with
            | false => rfl
            | true => exact absurd ⟨b1, hb2⟩ b0
          have := s2 b1
          simp (disch := first | assumption | omega | rfl | simp only [RH]) only [↓RP, RG, FX, RQ, ↓reduceIte, Nat.reduceEqDiff, reduceCtorEq, Nat.reduceBEq, Nat.reduceAdd, Nat.reduceLeDiff, b2, t1, t2, t3, t4]
          refine callK_F 6 (layersAlive_c) (by simp (disch := first | assumption | omega | rfl | simp only [RH]) only [↓RP, RG, FX, RQ, ↓reduceIte, Nat.reduceEqDiff, reduceCtorEq, Nat.reduceBEq, Nat.reduceAdd, Nat.reduceLeDiff, RA] <;> rfl) (.inl (by simp [allFresh, ints_fresh, bools_fresh])) ?_
          simp (disch := first | assumption | omega | rfl | simp only [RH]) only [↓RP, RG, FX, RQ, ↓reduceIte, Nat.reduceEqDiff, reduceCtorEq, Nat.reduceBEq, Nat.reduceAdd, Nat.reduceLeDiff]
          rw [resVal_1 rfl]; simp (disch := first | assumption | omega | rfl | simp only [RH]) only [↓RP, RG, FX, RQ, ↓reduceIte, Nat.reduceEqDiff, reduceCtorEq, Nat.reduceBEq, Nat.reduceAdd, Nat.reduceLeDiff, RS]
        | false =>
          cases b2 : B2 with
          | true =>
            simp (disch := first | assumption | omega | rfl | simp only [RH]) only [↓RP, RG, FX, RQ, ↓reduceIte, Nat.reduceEqDiff, reduceCtorEq, Nat.reduceBEq, Nat.reduceAdd, Nat.reduceLeDiff, t1, t2, t3, t4]
            refine callK_F 6 (layersAlive_c) (by simp (disch := first | assumption | omega | rfl | simp only [RH]) only [↓RP, RG, FX, RQ, ↓reduceIte, Nat.reduceEqDiff, reduceCtorEq, Nat.reduceBEq, Nat.reduceAdd, Nat.reduceLeDiff, RA] <;> rfl) (.inl (by simp [allFresh, ints_fresh, bools_fresh])) ?_
            simp (disch := first | assumption | omega | rfl | simp only [RH]) only [↓RP, RG, FX, RQ, ↓reduceIte, Nat.reduceEqDiff, reduceCtorEq, Nat.reduceBEq, Nat.reduceAdd, Nat.reduceLeDiff]
            rw [resVal_1 rfl]; simp (disch := first | assumption | omega | rfl | simp only [RH]) only [↓RP, RG, FX, RQ, ↓reduceIte, Nat.reduceEqDiff, reduceCtorEq, Nat.reduceBEq, Nat.reduceAdd, Nat.reduceLeDiff, RS]
          | false =>
            simp (disch := first | assumption | omega | rfl | simp only [RH]) only [↓RP, RG, FX, RQ, ↓reduceIte, Nat.reduceEqDiff, reduceCtorEq, Nat.reduceBEq, Nat.reduceAdd, Nat.reduceLeDiff, t1, t2, t3, t4]
            refine callK_F 6 (layersAlive_c) (by simp (disch := first | assumption | omega | rfl | simp only [RH]) only [↓RP, RG, FX, RQ, ↓reduceIte, Nat.reduceEqDiff, reduceCtorEq, Nat.reduceBEq, Nat.reduceAdd, Nat.reduceLeDiff, RA] <;> rfl) (.inl (by simp [allFresh, ints_fresh, bools_fresh])) ?_
            simp (disch := first | assumption | omega | rfl | simp only [RH]) only [↓RP, RG, FX, RQ, ↓reduceIte, Nat.reduceEqDiff, reduceCtorEq, Nat.reduceBEq, Nat.reduceAdd, Nat.reduceLeDiff]
            rw [resVal_1 rfl]; simp (disch := first | assumption | omega | rfl | simp only [RH]) only [↓RP, RG, FX, RQ, ↓reduceIte, Nat.reduceEqDiff, reduceCtorEq, Nat.reduceBEq, Nat.reduceAdd, Nat.reduceLeDiff, RS]
  · simp (disch := first | assumption | omega | rfl | simp only [RH]) only [↓RP, RG, FX, RQ, ↓reduceIte, Nat.reduceEqDiff, reduceCtorEq, Nat.reduceBEq, Nat.reduceAdd, Nat.reduceLeDiff, h1, h3, h4, h5]
    refine loopK_I [1, 2, 11, 13, 21, 23, 24, 25] (fun i : Nat => i ≤ ps.length) (fun i => ⟨[(1, I p), (2, I q), (11, B B1), (13, B B2), (21, .list true ps.isEmpty ps.length (rowsC ps)), (23, I (pOf ps p i)), (24, I (pOf ps q i)), (25, I i)], [⟨24, 3, [I W, I H, BA b l]⟩]⟩) (fun i => ps.length - i) 0 (by simp) (by simp only [↓RP, RG, FX, RQ, ↓reduceIte, Nat.reduceEqDiff, reduceCtorEq, Nat.reduceBEq, Nat.reduceAdd, Nat.reduceLeDiff]; simp [h1, pOf]) ?_
    intro i hi
    by_cases hlt : i < ps.length
    · have hrk := rowsC_at hlt
      have hrl : (ps.getD i []).length ≤ n := hrow _ (by rw [List.getD_eq_getElem?_getD, List.getElem?_eq_getElem hlt]; exact List.getElem_mem hlt)
      have e1 : pOf ps p (i + 1) = if p ∈ ps.getD i [] then (i : Int) else pOf ps p i := rfl
      have e2 : pOf ps q (i + 1) = if q ∈ ps.getD i [] then (i : Int) else pOf ps q i := rfl
      clear hpk hqk
      generalize ps.getD i [] = r at *
      generalize pOf ps p i = P0 at *
      generalize pOf ps q i = Q0 at *
      have hrn := nI_len r
      simp (disch := first | assumption | omega | rfl | simp only [RH]) only [↓RP, RG, FX, RQ, ↓reduceIte, Nat.reduceEqDiff, reduceCtorEq, Nat.reduceBEq, Nat.reduceAdd, Nat.reduceLeDiff, hrk, Int.toNat_natCast]
      refine loopK_I [1, 2, 11, 13, 21, 23, 24, 25, 26] (fun j : Nat => j ≤ r.length) (fun j => ⟨[(1, I p), (2, I q), (11, B B1), (13, B B2), (21, .list true ps.isEmpty ps.length (rowsC ps)), (23, I (if p ∈ r.take j then (i : Int) else P0)), (24, I (if q ∈ r.take j then (i : Int) else Q0)), (25, I i), (26, I j)], [⟨24, 3, [I W, I H, BA b l]⟩]⟩) (fun j => r.length - j) 0 (by simp) (by simp only [↓RP, RG, FX, RQ, ↓reduceIte, Nat.reduceEqDiff, reduceCtorEq, Nat.reduceBEq, Nat.reduceAdd, Nat.reduceLeDiff]; simp) ?_
      intro j hj
      by_cases hlj : j < r.length
      · obtain ⟨x, hx⟩ : ∃ x, r[j]? = some x := ⟨_, List.getElem?_eq_getElem hlj⟩
        have hgx : (nI r).getD j 0 = (x : Int) := by simp [nI, List.getD_eq_getElem?_getD, hx]
        have htj : r.take (j + 1) = r.take j ++ [x] := by rw [List.take_add_one, hx]; rfl
        have m1 : (if p ∈ r.take (j + 1) then (i : Int) else P0) = if (x : Int) = p then (i : Int) else if p ∈ r.take j then (i : Int) else P0 := by rw [htj]; exact ite_snoc
        have m2 : (if q ∈ r.take (j + 1) then (i : Int) else Q0) = if (x : Int) = q then (i : Int) else if q ∈ r.take j then (i : Int) else Q0 := by rw [htj]; exact ite_snoc
        generalize (if p ∈ r.take j then (i : Int) else P0) = P1 at *
        generalize (if q ∈ r.take j then (i : Int) else Q0) = Q1 at *
        by_cases c1 : (x : Int) = p
        · rw [if_pos c1] at m1
          by_cases c2 : (x : Int) = q
          · rw [if_pos c2] at m2
            simp (disch := first | assumption | omega | rfl | simp only [RH]) only [↓RP, RG, FX, RQ, ↓reduceIte, Nat.reduceEqDiff, reduceCtorEq, Nat.reduceBEq, Nat.reduceAdd, Nat.reduceLeDiff, hrk, hgx, Int.toNat_natCast]
            exact ⟨j + 1, hlj, by rw [m1, m2]; rfl, by omega⟩
          · rw [if_neg c2] at m2
            simp (disch := first | assumption | omega | rfl | simp only [RH]) only [↓RP, RG, FX, RQ, ↓reduceIte, Nat.reduceEqDiff, reduceCtorEq, Nat.reduceBEq, Nat.reduceAdd, Nat.reduceLeDiff, hrk, hgx, Int.toNat_natCast]
            exact ⟨j + 1, hlj, by rw [m1, m2]; rfl, by omega⟩
        · rw [if_neg c1] at m1
          by_cases c2 : (x : Int) = q
          · rw [if_pos c2] at m2
            simp (disch := first | assumption | omega | rfl | simp only [RH]) only [↓RP, RG, FX, RQ, ↓reduceIte, Nat.reduceEqDiff, reduceCtorEq, Nat.reduceBEq, Nat.reduceAdd, Nat.reduceLeDiff, hrk, hgx, Int.toNat_natCast]
            exact ⟨j + 1, hlj, by rw [m1, m2]; rfl, by omega⟩
          · rw [if_neg c2] at m2
            simp (disch := first | assumption | omega | rfl | simp only [RH]) only [↓RP, RG, FX, RQ, ↓reduceIte, Nat.reduceEqDiff, reduceCtorEq, Nat.reduceBEq, Nat.reduceAdd, Nat.reduceLeDiff, hrk, hgx, Int.toNat_natCast]
            exact ⟨j + 1, hlj, by rw [m1, m2]; rfl, by omega⟩
      · obtain rfl : r.length = j := by omega
        rw [List.take_length]
        simp (disch := first | assumption | omega | rfl | simp only [RH]) only [↓RP, RG, FX, RQ, ↓reduceIte, Nat.reduceEqDiff, reduceCtorEq, Nat.reduceBEq, Nat.reduceAdd, Nat.reduceLeDiff, hrk, Int.toNat_natCast]
        exact ⟨i + 1, hlt, by rw [e1, e2]; rfl, by omega⟩
    · obtain rfl : ps.length = i := by omega
      rw [hpp, hqq]
      by_cases c1 : (kp : Int) = kq
      · obtain ⟨b1, b2⟩ := s1.1 c1
        simp (disch := first | assumption | omega | rfl | simp only [RH]) only [↓RP, RG, FX, RQ, ↓reduceIte, Nat.reduceEqDiff, reduceCtorEq, Nat.reduceBEq, Nat.reduceAdd, Nat.reduceLeDiff, b1, b2, t1, t2, t3, t4]
        refine callK_F 6 (layersAlive_c) (by simp (disch := first | assumption | omega | rfl | simp only [RH]) only [↓RP, RG, FX, RQ, ↓reduceIte, Nat.reduceEqDiff, reduceCtorEq, Nat.reduceBEq, Nat.reduceAdd, Nat.reduceLeDiff, RA] <;> rfl) (.inl (by simp [allFresh, ints_fresh, bools_fresh])) ?_
        simp (disch := first | assumption | omega | rfl | simp only [RH]) only [↓RP, RG, FX, RQ, ↓reduceIte, Nat.reduceEqDiff, reduceCtorEq, Nat.reduceBEq, Nat.reduceAdd, Nat.reduceLeDiff]
        rw [resVal_1 rfl]; simp (disch := first | assumption | omega | rfl | simp only [RH]) only [↓RP, RG, FX, RQ, ↓reduceIte, Nat.reduceEqDiff, reduceCtorEq, Nat.reduceBEq, Nat.reduceAdd, Nat.reduceLeDiff, RS]
      · have b0 := fun hb => c1 (s1.2 hb)
        cases b1 : B1 with
        | true =>
          have b2 : B2 = false := by
            cases hb2 : B2 with
            | false => rfl
            | true => exact absurd ⟨b1, hb2⟩ b0
          have := s2 b1
          simp (disch := first | assumption | omega | rfl | simp only [RH]) only [↓RP, RG, FX, RQ, ↓reduceIte, Nat.reduceEqDiff, reduceCtorEq, Nat.reduceBEq, Nat.reduceAdd, Nat.reduceLeDiff, b2, t1, t2, t3, t4]
          refine callK_F 6 (layersAlive_c) (by simp (disch := first | assumption | omega | rfl | simp only [RH]) only [↓RP, RG, FX, RQ, ↓reduceIte, Nat.reduceEqDiff, reduceCtorEq, Nat.reduceBEq, Nat.reduceAdd, Nat.reduceLeDiff, RA] <;> rfl) (.inl (by simp [allFresh, ints_fresh, bools_fresh])) ?_
          simp (disch := first | assumption | omega | rfl | simp only [RH]) only [↓RP, RG, FX, RQ, ↓reduceIte, Nat.reduceEqDiff, reduceCtorEq, Nat.reduceBEq, Nat.reduceAdd, Nat.reduceLeDiff]
          rw [resVal_1 rfl]; simp (disch := first | assumption | omega | rfl | simp only [RH]) only [↓RP, RG, FX, RQ, ↓reduceIte, Nat.reduceEqDiff, reduceCtorEq, Nat.reduceBEq, Nat.reduceAdd, Nat.reduceLeDiff, RS]
        | false =>
          cases b2 : B2 with
          | true =>
            simp (disch := first | assumption | omega | rfl | simp only [RH]) only [↓RP, RG, FX, RQ, ↓reduceIte, Nat.reduceEqDiff, reduceCtorEq, Nat.reduceBEq, Nat.reduceAdd, Nat.reduceLeDiff, t1, t2, t3, t4]
            refine callK_F 6 (layersAlive_c) (by simp (disch := first | assumption | omega | rfl | simp only [RH]) only [↓RP, RG, FX, RQ, ↓reduceIte, Nat.reduceEqDiff, reduceCtorEq, Nat.reduceBEq, Nat.reduceAdd, Nat.reduceLeDiff, RA] <;> rfl) (.inl (by simp [allFresh, ints_fresh, bools_fresh])) ?_
            simp (disch := first | assumption | omega | rfl | simp only [RH]) only [↓RP, RG, FX, RQ, ↓reduceIte, Nat.reduceEqDiff, reduceCtorEq, Nat.reduceBEq, Nat.reduceAdd, Nat.reduceLeDiff]
            rw [resVal_1 rfl]; simp (disch := first | assumption | omega | rfl | simp only [RH]) only [↓RP, RG, FX, RQ, ↓reduceIte, Nat.reduceEqDiff, reduceCtorEq, Nat.reduceBEq, Nat.reduceAdd, Nat.reduceLeDiff, RS]
          | false =>
            simp (disch := first | assumption | omega | rfl | simp only [RH]) only [↓RP, RG, FX, RQ, ↓reduceIte, Nat.reduceEqDiff, reduceCtorEq, Nat.reduceBEq, Nat.reduceAdd, Nat.reduceLeDiff, t1, t2, t3, t4]
            refine callK_F 6 (layersAlive_c) (by simp (disch := first | assumption | omega | rfl | simp only [RH]) only [↓RP, RG, FX, RQ, ↓reduceIte, Nat.reduceEqDiff, reduceCtorEq, Nat.reduceBEq, Nat.reduceAdd, Nat.reduceLeDiff, RA] <;> rfl) (.inl (by simp [allFresh, ints_fresh, bools_fresh])) ?_
            simp (disch := first | assumption | omega | rfl | simp only [RH]) only [↓RP, RG, FX, RQ, ↓reduceIte, Nat.reduceEqDiff, reduceCtorEq, Nat.reduceBEq, Nat.reduceAdd, Nat.reduceLeDiff]
            rw [resVal_1 rfl]; simp (disch := first | assumption | omega | rfl | simp only [RH]) only [↓RP, RG, FX, RQ, ↓reduceIte, Nat.reduceEqDiff, reduceCtorEq, Nat.reduceBEq, Nat.reduceAdd, Nat.reduceLeDiff, RS]
  · simp (disch := first | assumption | omega | rfl | simp only [RH]) only [↓RP, RG, FX, RQ, ↓reduceIte, Nat.reduceEqDiff, reduceCtorEq, Nat.reduceBEq, Nat.reduceAdd, Nat.reduceLeDiff, h1, h3, h5]
    refine loopK_I [1, 2, 11, 13, 21, 23, 24, 25] (fun i : Nat => i ≤ ps.length) (fun i => ⟨[(1, I p), (2, I q), (11, B B1), (13, B B2), (21, .list true ps.isEmpty ps.length (rowsC ps)), (23, I (pOf ps p i)), (24, I (pOf ps q i)), (25, I i)], [⟨24, 3, [I W, I H, BA b l]⟩]⟩) (fun i => ps.length - i) 0 (by simp) (by simp only [↓RP, RG, FX, RQ, ↓reduceIte, Nat.reduceEqDiff, reduceCtorEq, Nat.reduceBEq, Nat.reduceAdd, Nat.reduceLeDiff]; simp [h1, pOf]) ?_
    intro i hi
    by_cases hlt : i < ps.length
    · have hrk := rowsC_at hlt
      have hrl : (ps.getD i []).length ≤ n := hrow _ (by rw [List.getD_eq_getElem?_getD, List.getElem?_eq_getElem hlt]; exact List.getElem_mem hlt)
      have e1 : pOf ps p (i + 1) = if p ∈ ps.getD i [] then (i : Int) else pOf ps p i := rfl
      have e2 : pOf ps q (i + 1) = if q ∈ ps.getD i [] then (i : Int) else pOf ps q i := rfl
      clear hpk hqk
      generalize ps.getD i [] = r at *
      generalize pOf ps p i = P0 at *
      generalize pOf ps q i = Q0 at *
      have hrn := nI_len r
      simp (disch := first | assumption | omega | rfl | simp only [RH]) only [↓RP, RG, FX, RQ, ↓reduceIte, Nat.reduceEqDiff, reduceCtorEq, Nat.reduceBEq, Nat.reduceAdd, Nat.reduceLeDiff, hrk, Int.toNat_natCast]
      refine loopK_I [1, 2, 11, 13, 21, 23, 24, 25, 26] (fun j : Nat => j ≤ r.length) (fun j => ⟨[(1, I p), (2, I q), (11, B B1), (13, B B2), (21, .list true ps.isEmpty ps.length (rowsC ps)), (23, I (if p ∈ r.take j then (i : Int) else P0)), (24, I (if q ∈ r.take j then (i : Int) else Q0)), (25, I i), (26, I j)], [⟨24, 3, [I W, I H, BA b l]⟩]⟩) (fun j => r.length - j) 0 (by simp) (by simp only [↓RP, RG, FX, RQ, ↓reduceIte, Nat.reduceEqDiff, reduceCtorEq, Nat.reduceBEq, Nat.reduceAdd, Nat.reduceLeDiff]; simp) ?_
      intro j hj
      by_cases hlj : j < r.length
      · obtain ⟨x, hx⟩ : ∃ x, r[j]? = some x := ⟨_, List.getElem?_eq_getElem hlj⟩
        have hgx : (nI r).getD j 0 = (x : Int) := by simp [nI, List.getD_eq_getElem?_getD, hx]
        have htj : r.take (j + 1) = r.take j ++ [x] := by rw [List.take_add_one, hx]; rfl
        have m1 : (if p ∈ r.take (j + 1) then (i : Int) else P0) = if (x : Int) = p then (i : Int) else if p ∈ r.take j then (i : Int) else P0 := by rw [htj]; exact ite_snoc
        have m2 : (if q ∈ r.take (j + 1) then (i : Int) else Q0) = if (x : Int) = q then (i : Int) else if q ∈ r.take j then (i : Int) else Q0 := by rw [htj]; exact ite_snoc
        generalize (if p ∈ r.take j then (i : Int) else P0) = P1 at *
        generalize (if q ∈ r.take j then (i : Int) else Q0) = Q1 at *
        by_cases c1 : (x : Int) = p
        · rw [if_pos c1] at m1
          by_cases c2 : (x : Int) = q
          · rw [if_pos c2] at m2
            simp (disch := first | assumption | omega | rfl | simp only [RH]) only [↓RP, RG, FX, RQ, ↓reduceIte, Nat.reduceEqDiff, reduceCtorEq, Nat.reduceBEq, Nat.reduceAdd, Nat.reduceLeDiff, hrk, hgx, Int.toNat_natCast]
            exact ⟨j + 1, hlj, by rw [m1, m2]; rfl, by omega⟩
          · rw [if_neg c2] at m2
            simp (disch := first | assumption | omega | rfl | simp only [RH]) only [↓RP, RG, FX, RQ, ↓reduceIte, Nat.reduceEqDiff, reduceCtorEq, Nat.reduceBEq, Nat.reduceAdd, Nat.reduceLeDiff, hrk, hgx, Int.toNat_natCast]
            exact ⟨j + 1, hlj, by rw [m1, m2]; rfl, by omega⟩
        · rw [if_neg c1] at m1
          by_cases c2 : (x : Int) = q
          · rw [if_pos c2] at m2
            simp (disch := first | assumption | omega | rfl | simp only [RH]) only [↓RP, RG, FX, RQ, ↓reduceIte, Nat.reduceEqDiff, reduceCtorEq, Nat.reduceBEq, Nat.reduceAdd, Nat.reduceLeDiff, hrk, hgx, Int.toNat_natCast]
            exact ⟨j + 1, hlj, by rw [m1, m2]; rfl, by omega⟩
          · rw [if_neg c2] at m2
            simp (disch := first | assumption | omega | rfl | simp only [RH]) only [↓RP, RG, FX, RQ, ↓reduceIte, Nat.reduceEqDiff, reduceCtorEq, Nat.reduceBEq, Nat.reduceAdd, Nat.reduceLeDiff, hrk, hgx, Int.toNat_natCast]
            exact ⟨j + 1, hlj, by rw [m1, m2]; rfl, by omega⟩
      · obtain rfl : r.length = j := by omega
        rw [List.take_length]
        simp (disch := first | assumption | omega | rfl | simp only [RH]) only [↓RP, RG, FX, RQ, ↓reduceIte, Nat.reduceEqDiff, reduceCtorEq, Nat.reduceBEq, Nat.reduceAdd, Nat.reduceLeDiff, hrk, Int.toNat_natCast]
        exact ⟨i + 1, hlt, by rw [e1, e2]; rfl, by omega⟩
    · obtain rfl : ps.length = i := by omega
      rw [hpp, hqq]
      by_cases c1 : (kp : Int) = kq
      · obtain ⟨b1, b2⟩ := s1.1 c1
        simp (disch := first | assumption | omega | rfl | simp only [RH]) only [↓RP, RG, FX, RQ, ↓reduceIte, Nat.reduceEqDiff, reduceCtorEq, Nat.reduceBEq, Nat.reduceAdd, Nat.reduceLeDiff, b1, b2, t1, t2, t3, t4]
        refine callK_F 6 (layersAlive_c) (by simp (disch := first | assumption | omega | rfl | simp only [RH]) only [↓RP, RG, FX, RQ, ↓reduceIte, Nat.reduceEqDiff, reduceCtorEq, Nat.reduceBEq, Nat.reduceAdd, Nat.reduceLeDiff, RA] <;> rfl) (.inl (by simp [allFresh, ints_fresh, bools_fresh])) ?_
        simp (disch := first | assumption | omega | rfl | simp only [RH]) only [↓RP, RG, FX, RQ, ↓reduceIte, Nat.reduceEqDiff, reduceCtorEq, Nat.reduceBEq, Nat.reduceAdd, Nat.reduceLeDiff]
        rw [resVal_1 rfl]; simp (disch := first | assumption | omega | rfl | simp only [RH]) only [↓RP, RG, FX, RQ, ↓reduceIte, Nat.reduceEqDiff, reduceCtorEq, Nat.reduceBEq, Nat.reduceAdd, Nat.reduceLeDiff, RS]
      · have b0 := fun hb => c1 (s1.2 hb)
        cases b1 : B1 with
        | true =>
          have b2 : B2 = false := by
            cases hb2 : B2 with
            | false => rfl
            | true => exact absurd ⟨b1, hb2⟩ b0
          have := s2 b1
          simp (disch := first | assumption | omega | rfl | simp only [RH]) only [↓RP, RG, FX, RQ, ↓reduceIte, Nat.reduceEqDiff, reduceCtorEq, Nat.reduceBEq, Nat.reduceAdd, Nat.reduceLeDiff, b2, t1, t2, t3, t4]
          refine callK_F 6 (layersAlive_c) (by simp (disch := first | assumption | omega | rfl | simp only [RH]) only [↓RP, RG, FX, RQ, ↓reduceIte, Nat.reduceEqDiff, reduceCtorEq, Nat.reduceBEq, Nat.reduceAdd, Nat.reduceLeDiff, RA] <;> rfl) (.inl (by simp [allFresh, ints_fresh, bools_fresh])) ?_
          simp (disch := first | assumption | omega | rfl | simp only [RH]) only [↓RP, RG, FX, RQ, ↓reduceIte, Nat.reduceEqDiff, reduceCtorEq, Nat.reduceBEq, Nat.reduceAdd, Nat.reduceLeDiff]
          rw [resVal_1 rfl]; simp (disch := first | assumption | omega | rfl | simp only [RH]) only [↓RP, RG, FX, RQ, ↓reduceIte, Nat.reduceEqDiff, reduceCtorEq, Nat.reduceBEq, Nat.reduceAdd, Nat.reduceLeDiff, RS]
        | false =>
          cases b2 : B2 with
          | true =>
            simp (disch := first | assumption | omega | rfl | simp only [RH]) only [↓RP, RG, FX, RQ, ↓reduceIte, Nat.reduceEqDiff, reduceCtorEq, Nat.reduceBEq, Nat.reduceAdd, Nat.reduceLeDiff, t1, t2, t3, t4]
            refine callK_F 6 (layersAlive_c) (by simp (disch := first | assumption | omega | rfl | simp only [RH]) only [↓RP, RG, FX, RQ, ↓reduceIte, Nat.reduceEqDiff, reduceCtorEq, Nat.reduceBEq, Nat.reduceAdd, Nat.reduceLeDiff, RA] <;> rfl) (.inl (by simp [allFresh, ints_fresh, bools_fresh])) ?_
            simp (disch := first | assumption | omega | rfl | simp only [RH]) only [↓RP, RG, FX, RQ, ↓reduceIte, Nat.reduceEqDiff, reduceCtorEq, Nat.reduceBEq, Nat.reduceAdd, Nat.reduceLeDiff]
            rw [resVal_1 rfl]; simp (disch := first | assumption | omega | rfl | simp only [RH]) only [↓RP, RG, FX, RQ, ↓reduceIte, Nat.reduceEqDiff, reduceCtorEq, Nat.reduceBEq, Nat.reduceAdd, Nat.reduceLeDiff, RS]
          | false =>
            simp (disch := first | assumption | omega | rfl | simp only [RH]) only [↓RP, RG, FX, RQ, ↓reduceIte, Nat.reduceEqDiff, reduceCtorEq, Nat.reduceBEq, Nat.reduceAdd, Nat.reduceLeDiff, t1, t2, t3, t4]
            refine callK_F 6 (layersAlive_c) (by simp (disch := first | assumption | omega | rfl | simp only [RH]) only [↓RP, RG, FX, RQ, ↓reduceIte, Nat.reduceEqDiff, reduceCtorEq, Nat.reduceBEq, Nat.reduceAdd, Nat.reduceLeDiff, RA] <;> rfl) (.inl (by simp [allFresh, ints_fresh, bools_fresh])) ?_
            simp (disch := first | assumption | omega | rfl | simp only [RH]) only [↓RP, RG, FX, RQ, ↓reduceIte, Nat.reduceEqDiff, reduceCtorEq, Nat.reduceBEq, Nat.reduceAdd, Nat.reduceLeDiff]
            rw [resVal_1 rfl]; simp (disch := first | assumption | omega | rfl | simp only [RH]) only [↓RP, RG, FX, RQ, ↓reduceIte, Nat.reduceEqDiff, reduceCtorEq, Nat.reduceBEq, Nat.reduceAdd, Nat.reduceLeDiff, RS]
  · simp (disch := first | assumption | omega | rfl | simp only [RH]) only [↓RP, RG, FX, RQ, ↓reduceIte, Nat.reduceEqDiff, reduceCtorEq, Nat.reduceBEq, Nat.reduceAdd, Nat.reduceLeDiff, h1, h3, h5]
    refine loopK_I [1, 2, 11, 13, 21, 23, 24, 25] (fun i : Nat => i ≤ ps.length) (fun i => ⟨[(1, I p), (2, I q), (11, B B1), (13, B B2), (21, .list true ps.isEmpty ps.length (rowsC ps)), (23, I (pOf ps p i)), (24, I (pOf ps q i)), (25, I i)], [⟨24, 3, [I W, I H, BA b l]⟩]⟩) (fun i => ps.length - i) 0 (by simp) (by simp only [↓RP, RG, FX, RQ, ↓reduceIte, Nat.reduceEqDiff, reduceCtorEq, Nat.reduceBEq, Nat.reduceAdd, Nat.reduceLeDiff]; simp [h1, pOf]) ?_
    intro i hi
    by_cases hlt : i < ps.length
    · have hrk := rowsC_at hlt
      have hrl : (ps.getD i []).length ≤ n := hrow _ (by rw [List.getD_eq_getElem?_getD, List.getElem?_eq_getElem hlt]; exact List.getElem_mem hlt)
      have e1 : pOf ps p (i + 1) = if p ∈ ps.getD i [] then (i : Int) else pOf ps p i := rfl
      have e2 : pOf ps q (i + 1) = if q ∈ ps.getD i [] then (i : Int) else pOf ps q i := rfl
      clear hpk hqk
      generalize ps.getD i [] = r at *
      generalize pOf ps p i = P0 at *
      generalize pOf ps q i = Q0 at *
      have hrn := nI_len r
      simp (disch := first | assumption | omega | rfl | simp only [RH]) only [↓RP, RG, FX, RQ, ↓reduceIte, Nat.reduceEqDiff, reduceCtorEq, Nat.reduceBEq, Nat.reduceAdd, Nat.reduceLeDiff, hrk, Int.toNat_natCast]
      refine loopK_I [1, 2, 11, 13, 21, 23, 24, 25, 26] (fun j : Nat => j ≤ r.length) (fun j => ⟨[(1, I p), (2, I q), (11, B B1), (13, B B2), (21, .list true ps.isEmpty ps.length (rowsC ps)), (23, I (if p ∈ r.take j then (i : Int) else P0)), (24, I (if q ∈ r.take j then (i : Int) else Q0)), (25, I i), (26, I j)], [⟨24, 3, [I W, I H, BA b l]⟩]⟩) (fun j => r.length - j) 0 (by simp) (by simp only [↓RP, RG, FX, RQ, ↓reduceIte, Nat.reduceEqDiff, reduceCtorEq, Nat.reduceBEq, Nat.reduceAdd, Nat.reduceLeDiff]; simp) ?_
      intro j hj
      by_cases hlj : j < r.length
      · obtain ⟨x, hx⟩ : ∃ x, r[j]? = some x := ⟨_, List.getElem?_eq_getElem hlj⟩
        have hgx : (nI r).getD j 0 = (x : Int) := by simp [nI, List.getD_eq_getElem?_getD, hx]
        have htj : r.take (j + 1) = r.take j ++ [x] := by rw [List.take_add_one, hx]; rfl
        have m1 : (if p ∈ r.take (j + 1) then (i : Int) else P0) = if (x : Int) = p then (i : Int) else if p ∈ r.take j then (i : Int) else P0 := by rw [htj]; exact ite_snoc
        have m2 : (if q ∈ r.take (j + 1) then (i : Int) else Q0) = if (x : Int) = q then (i : Int) else if q ∈ r.take j then (i : Int) else Q0 := by rw [htj]; exact ite_snoc
        generalize (if p ∈ r.take j then (i : Int) else P0) = P1 at *
        generalize (if q ∈ r.take j then (i : Int) else Q0) = Q1 at *
        by_cases c1 : (x : Int) = p
        · rw [if_pos c1] at m1
          by_cases c2 : (x : Int) = q
          · rw [if_pos c2] at m2
            simp (disch := first | assumption | omega | rfl | simp only [RH]) only [↓RP, RG, FX, RQ, ↓reduceIte, Nat.reduceEqDiff, reduceCtorEq, Nat.reduceBEq, Nat.reduceAdd, Nat.reduceLeDiff, hrk, hgx, Int.toNat_natCast]
            exact ⟨j + 1, hlj, by rw [m1, m2]; rfl, by omega⟩
          · rw [if_neg c2] at m2
            simp (disch := first | assumption | omega | rfl | simp only [RH]) only [↓RP, RG, FX, RQ, ↓reduceIte, Nat.reduceEqDiff, reduceCtorEq, Nat.reduceBEq, Nat.reduceAdd, Nat.reduceLeDiff, hrk, hgx, Int.toNat_natCast]
            exact ⟨j + 1, hlj, by rw [m1, m2]; rfl, by omega⟩
        · rw [if_neg c1] at m1
          by_cases c2 : (x : Int) = q
          · rw [if_pos c2] at m2
            simp (disch := first | assumption | omega | rfl | simp only [RH]) only [↓RP, RG, FX, RQ, ↓reduceIte, Nat.reduceEqDiff, reduceCtorEq, Nat.reduceBEq, Nat.reduceAdd, Nat.reduceLeDiff, hrk, hgx, Int.toNat_natCast]
            exact ⟨j + 1, hlj, by rw [m1, m2]; rfl, by omega⟩
          · rw [if_neg c2] at m2
            simp (disch := first | assumption | omega | rfl | simp only [RH]) only [↓RP, RG, FX, RQ, ↓reduceIte, Nat.reduceEqDiff, reduceCtorEq, Nat.reduceBEq, Nat.reduceAdd, Nat.reduceLeDiff, hrk, hgx, Int.toNat_natCast]
            exact ⟨j + 1, hlj, by rw [m1, m2]; rfl, by omega⟩
      · obtain rfl : r.length = j := by omega
        rw [List.take_length]
        simp (disch := first | assumption | omega | rfl | simp only [RH]) only [↓RP, RG, FX, RQ, ↓reduceIte, Nat.reduceEqDiff, reduceCtorEq, Nat.reduceBEq, Nat.reduceAdd, Nat.reduceLeDiff, hrk, Int.toNat_natCast]
        exact ⟨i + 1, hlt, by rw [e1, e2]; rfl, by omega⟩
    · obtain rfl : ps.length = i := by omega
      rw [hpp, hqq]
      by_cases c1 : (kp : Int) = kq
      · obtain ⟨b1, b2⟩ := s1.1 c1
        simp (disch := first | assumption | omega | rfl | simp only [RH]) only [↓RP, RG, FX, RQ, ↓reduceIte, Nat.reduceEqDiff, reduceCtorEq, Nat.reduceBEq, Nat.reduceAdd, Nat.reduceLeDiff, b1, b2, t1, t2, t3, t4]
        refine callK_F 6 (layersAlive_c) (by simp (disch := first | assumption | omega | rfl | simp only [RH]) only [↓RP, RG, FX, RQ, ↓reduceIte, Nat.reduceEqDiff, reduceCtorEq, Nat.reduceBEq, Nat.reduceAdd, Nat.reduceLeDiff, RA] <;> rfl) (.inl (by simp [allFresh, ints_fresh, bools_fresh])) ?_
        simp (disch := first | assumption | omega | rfl | simp only [RH]) only [↓RP, RG, FX, RQ, ↓reduceIte, Nat.reduceEqDiff, reduceCtorEq, Nat.reduceBEq, Nat.reduceAdd, Nat.reduceLeDiff]
        rw [resVal_1 rfl]; simp (disch := first | assumption | omega | rfl | simp only [RH]) only [↓RP, RG, FX, RQ, ↓reduceIte, Nat.reduceEqDiff, reduceCtorEq, Nat.reduceBEq, Nat.reduceAdd, Nat.reduceLeDiff, RS]
      · have b0 := fun hb => c1 (s1.2 hb)
        cases b1 : B1 with
        | true =>
          have b2 : B2 = false := by
            cases hb2 : B2 with
            | false => rfl
            | true => exact absurd ⟨b1, hb2⟩ b0
          have := s2 b1
          simp (disch := first | assumption | omega | rfl | simp only [RH]) only [↓RP, RG, FX, RQ, ↓reduceIte, Nat.reduceEqDiff, reduceCtorEq, Nat.reduceBEq, Nat.reduceAdd, Nat.reduceLeDiff, b2, t1, t2, t3, t4]
          refine callK_F 6 (layersAlive_c) (by simp (disch := first | assumption | omega | rfl | simp only [RH]) only [↓RP, RG, FX, RQ, ↓reduceIte, Nat.reduceEqDiff, reduceCtorEq, Nat.reduceBEq, Nat.reduceAdd, Nat.reduceLeDiff, RA] <;> rfl) (.inl (by simp [allFresh, ints_fresh, bools_fresh])) ?_
          simp (disch := first | assumption | omega | rfl | simp only [RH]) only [↓RP, RG, FX, RQ, ↓reduceIte, Nat.reduceEqDiff, reduceCtorEq, Nat.reduceBEq, Nat.reduceAdd, Nat.reduceLeDiff]
          rw [resVal_1 rfl]; simp (disch := first | assumption | omega | rfl | simp only [RH]) only [↓RP, RG, FX, RQ, ↓reduceIte, Nat.reduceEqDiff, reduceCtorEq, Nat.reduceBEq, Nat.reduceAdd, Nat.reduceLeDiff, RS]
        | false =>
          cases b2 : B2 with
          | true =>
            simp (disch := first | assumption | omega | rfl | simp only [RH]) only [↓RP, RG, FX, RQ, ↓reduceIte, Nat.reduceEqDiff, reduceCtorEq, Nat.reduceBEq, Nat.reduceAdd, Nat.reduceLeDiff, t1, t2, t3, t4]
            refine callK_F 6 (layersAlive_c) (by simp (disch := first | assumption | omega | rfl | simp only [RH]) only [↓RP, RG, FX, RQ, ↓reduceIte, Nat.reduceEqDiff, reduceCtorEq, Nat.reduceBEq, Nat.reduceAdd, Nat.reduceLeDiff, RA] <;> rfl) (.inl (by simp [allFresh, ints_fresh, bools_fresh])) ?_
            simp (disch := first | assumption | omega | rfl | simp only [RH]) only [↓RP, RG, FX, RQ, ↓reduceIte, Nat.reduceEqDiff, reduceCtorEq, Nat.reduceBEq, Nat.reduceAdd, Nat.reduceLeDiff]
            rw [resVal_1 rfl]; simp (disch := first | assumption | omega | rfl | simp only [RH]) only [↓RP, RG, FX, RQ, ↓reduceIte, Nat.reduceEqDiff, reduceCtorEq, Nat.reduceBEq, Nat.reduceAdd, Nat.reduceLeDiff, RS]
          | false =>
            simp (disch := first | assumption | omega | rfl | simp only [RH]) only [↓RP, RG, FX, RQ, ↓reduceIte, Nat.reduceEqDiff, reduceCtorEq, Nat.reduceBEq, Nat.reduceAdd, Nat.reduceLeDiff, t1, t2, t3, t4]
            refine callK_F 6 (layersAlive_c) (by simp (disch := first | assumption | omega | rfl | simp only [RH]) only [↓RP, RG, FX, RQ, ↓reduceIte, Nat.reduceEqDiff, reduceCtorEq, Nat.reduceBEq, Nat.reduceAdd, Nat.reduceLeDiff, RA] <;> rfl) (.inl (by simp [allFresh, ints_fresh, bools_fresh])) ?_
            simp (disch := first | assumption | omega | rfl | simp only [RH]) only [↓RP, RG, FX, RQ, ↓reduceIte, Nat.reduceEqDiff, reduceCtorEq, Nat.reduceBEq, Nat.reduceAdd, Nat.reduceLeDiff]
            rw [resVal_1 rfl]; simp (disch := first | assumption | omega | rfl | simp only [RH]) only [↓RP, RG, FX, RQ, ↓reduceIte, Nat.reduceEqDiff, reduceCtorEq, Nat.reduceBEq, Nat.reduceAdd, Nat.reduceLeDiff, RS]
  · simp (disch := first | assumption | omega | rfl | simp only [RH]) only [↓RP, RG, FX, RQ, ↓reduceIte, Nat.reduceEqDiff, reduceCtorEq, Nat.reduceBEq, Nat.reduceAdd, Nat.reduceLeDiff, h1, h5]
    refine loopK_I [1, 2, 11, 13, 21, 23, 24, 25] (fun i : Nat => i ≤ ps.length) (fun i => ⟨[(1, I p), (2, I q), (11, B B1), (13, B B2), (21, .list true ps.isEmpty ps.length (rowsC ps)), (23, I (pOf ps p i)), (24, I (pOf ps q i)), (25, I i)], [⟨24, 3, [I W, I H, BA b l]⟩]⟩) (fun i => ps.length - i) 0 (by simp) (by simp only [↓RP, RG, FX, RQ, ↓reduceIte, Nat.reduceEqDiff, reduceCtorEq, Nat.reduceBEq, Nat.reduceAdd, Nat.reduceLeDiff]; simp [h1, pOf]) ?_
    intro i hi
    by_cases hlt : i < ps.length
    · have hrk := rowsC_at hlt
      have hrl : (ps.getD i []).length ≤ n := hrow _ (by rw [List.getD_eq_getElem?_getD, List.getElem?_eq_getElem hlt]; exact List.getElem_mem hlt)
      have e1 : pOf ps p (i + 1) = if p ∈ ps.getD i [] then (i : Int) else pOf ps p i := rfl
      have e2 : pOf ps q (i + 1) = if q ∈ ps.getD i [] then (i : Int) else pOf ps q i := rfl
      clear hpk hqk
      generalize ps.getD i [] = r at *
      generalize pOf ps p i = P0 at *
      generalize pOf ps q i = Q0 at *
      have hrn := nI_len r
      simp (disch := first | assumption | omega | rfl | simp only [RH]) only [↓RP, RG, FX, RQ, ↓reduceIte, Nat.reduceEqDiff, reduceCtorEq, Nat.reduceBEq, Nat.reduceAdd, Nat.reduceLeDiff, hrk, Int.toNat_natCast]
      refine loopK_I [1, 2, 11, 13, 21, 23, 24, 25, 26] (fun j : Nat => j ≤ r.length) (fun j => ⟨[(1, I p), (2, I q), (11, B B1), (13, B B2), (21, .list true ps.isEmpty ps.length (rowsC ps)), (23, I (if p ∈ r.take j then (i : Int) else P0)), (24, I (if q ∈ r.take j then (i : Int) else Q0)), (25, I i), (26, I j)], [⟨24, 3, [I W, I H, BA b l]⟩]⟩) (fun j => r.length - j) 0 (by simp) (by simp only [↓RP, RG, FX, RQ, ↓reduceIte, Nat.reduceEqDiff, reduceCtorEq, Nat.reduceBEq, Nat.reduceAdd, Nat.reduceLeDiff]; simp) ?_
      intro j hj
      by_cases hlj : j < r.length
      · obtain ⟨x, hx⟩ : ∃ x, r[j]? = some x := ⟨_, List.getElem?_eq_getElem hlj⟩
        have hgx : (nI r).getD j 0 = (x : Int) := by simp [nI, List.getD_eq_getElem?_getD, hx]
        have htj : r.take (j + 1) = r.take j ++ [x] := by rw [List.take_add_one, hx]; rfl
        have m1 : (if p ∈ r.take (j + 1) then (i : Int) else P0) = if (x : Int) = p then (i : Int) else if p ∈ r.take j then (i : Int) else P0 := by rw [htj]; exact ite_snoc
        have m2 : (if q ∈ r.take (j + 1) then (i : Int) else Q0) = if (x : Int) = q then (i : Int) else if q ∈ r.take j then (i : Int) else Q0 := by rw [htj]; exact ite_snoc
        generalize (if p ∈ r.take j then (i : Int) else P0) = P1 at *
        generalize (if q ∈ r.take j then (i : Int) else Q0) = Q1 at *
        by_cases c1 : (x : Int) = p
        · rw [if_pos c1] at m1
          by_cases c2 : (x : Int) = q
          · rw [if_pos c2] at m2
            simp (disch := first | assumption | omega | rfl | simp only [RH]) only [↓RP, RG, FX, RQ, ↓reduceIte, Nat.reduceEqDiff, reduceCtorEq, Nat.reduceBEq, Nat.reduceAdd, Nat.reduceLeDiff, hrk, hgx, Int.toNat_natCast]
            exact ⟨j + 1, hlj, by rw [m1, m2]; rfl, by omega⟩
          · rw [if_neg c2] at m2
            simp (disch := first | assumption | omega | rfl | simp only [RH]) only [↓RP, RG, FX, RQ, ↓reduceIte, Nat.reduceEqDiff, reduceCtorEq, Nat.reduceBEq, Nat.reduceAdd, Nat.reduceLeDiff, hrk, hgx, Int.toNat_natCast]
            exact ⟨j + 1, hlj, by rw [m1, m2]; rfl, by omega⟩
        · rw [if_neg c1] at m1
          by_cases c2 : (x : Int) = q
          · rw [if_pos c2] at m2
            simp (disch := first | assumption | omega | rfl | simp only [RH]) only [↓RP, RG, FX, RQ, ↓reduceIte, Nat.reduceEqDiff, reduceCtorEq, Nat.reduceBEq, Nat.reduceAdd, Nat.reduceLeDiff, hrk, hgx, Int.toNat_natCast]
            exact ⟨j + 1, hlj, by rw [m1, m2]; rfl, by omega⟩
          · rw [if_neg c2] at m2
            simp (disch := first | assumption | omega | rfl | simp only [RH]) only [↓RP, RG, FX, RQ, ↓reduceIte, Nat.reduceEqDiff, reduceCtorEq, Nat.reduceBEq, Nat.reduceAdd, Nat.reduceLeDiff, hrk, hgx, Int.toNat_natCast]
            exact ⟨j + 1, hlj, by rw [m1, m2]; rfl, by omega⟩
      · obtain rfl : r.length = j := by omega
        rw [List.take_length]
        simp (disch := first | assumption | omega | rfl | simp only [RH]) only [↓RP, RG, FX, RQ, ↓reduceIte, Nat.reduceEqDiff, reduceCtorEq, Nat.reduceBEq, Nat.reduceAdd, Nat.reduceLeDiff, hrk, Int.toNat_natCast]
        exact ⟨i + 1, hlt, by rw [e1, e2]; rfl, by omega⟩
    · obtain rfl : ps.length = i := by omega
      rw [hpp, hqq]
      by_cases c1 : (kp : Int) = kq
      · obtain ⟨b1, b2⟩ := s1.1 c1
        simp (disch := first | assumption | omega | rfl | simp only [RH]) only [↓RP, RG, FX, RQ, ↓reduceIte, Nat.reduceEqDiff, reduceCtorEq, Nat.reduceBEq, Nat.reduceAdd, Nat.reduceLeDiff, b1, b2, t1, t2, t3, t4]
        refine callK_F 6 (layersAlive_c) (by simp (disch := first | assumption | omega | rfl | simp only [RH]) only [↓RP, RG, FX, RQ, ↓reduceIte, Nat.reduceEqDiff, reduceCtorEq, Nat.reduceBEq, Nat.reduceAdd, Nat.reduceLeDiff, RA] <;> rfl) (.inl (by simp [allFresh, ints_fresh, bools_fresh])) ?_
        simp (disch := first | assumption | omega | rfl | simp only [RH]) only [↓RP, RG, FX, RQ, ↓reduceIte, Nat.reduceEqDiff, reduceCtorEq, Nat.reduceBEq, Nat.reduceAdd, Nat.reduceLeDiff]
        rw [resVal_1 rfl]; simp (disch := first | assumption | omega | rfl | simp only [RH]) only [↓RP, RG, FX, RQ, ↓reduceIte, Nat.reduceEqDiff, reduceCtorEq, Nat.reduceBEq, Nat.reduceAdd, Nat.reduceLeDiff, RS]
      · have b0 := fun hb => c1 (s1.2 hb)
        cases b1 : B1 with
        | true =>
          have b2 : B2 = false := by
            cases hb2 : B2 with
            | false => rfl
            | true => exact absurd ⟨b1, hb2⟩ b0
          have := s2 b1
          simp (disch := first | assumption | omega | rfl | simp only [RH]) only [↓RP, RG, FX, RQ, ↓reduceIte, Nat.reduceEqDiff, reduceCtorEq, Nat.reduceBEq, Nat.reduceAdd, Nat.reduceLeDiff, b2, t1, t2, t3, t4]
          refine callK_F 6 (layersAlive_c) (by simp (disch := first | assumption | omega | rfl | simp only [RH]) only [↓RP, RG, FX, RQ, ↓reduceIte, Nat.reduceEqDiff, reduceCtorEq, Nat.reduceBEq, Nat.reduceAdd, Nat.reduceLeDiff, RA] <;> rfl) (.inl (by simp [allFresh, ints_fresh, bools_fresh])) ?_
          simp (disch := first | assumption | omega | rfl | simp only [RH]) only [↓RP, RG, FX, RQ, ↓reduceIte, Nat.reduceEqDiff, reduceCtorEq, Nat.reduceBEq, Nat.reduceAdd, Nat.reduceLeDiff]
          rw [resVal_1 rfl]; simp (disch := first | assumption | omega | rfl | simp only [RH]) only [↓RP, RG, FX, RQ, ↓reduceIte, Nat.reduceEqDiff, reduceCtorEq, Nat.reduceBEq, Nat.reduceAdd, Nat.reduceLeDiff, RS]
        | false =>
          cases b2 : B2 with
          | true =>
            simp (disch := first | assumption | omega | rfl | simp only [RH]) only [↓RP, RG, FX, RQ, ↓reduceIte, Nat.reduceEqDiff, reduceCtorEq, Nat.reduceBEq, Nat.reduceAdd, Nat.reduceLeDiff, t1, t2, t3, t4]
            refine callK_F 6 (layersAlive_c) (by simp (disch := first | assumption | omega | rfl | simp only [RH]) only [↓RP, RG, FX, RQ, ↓reduceIte, Nat.reduceEqDiff, reduceCtorEq, Nat.reduceBEq, Nat.reduceAdd, Nat.reduceLeDiff, RA] <;> rfl) (.inl (by simp [allFresh, ints_fresh, bools_fresh])) ?_
            simp (disch := first | assumption | omega | rfl | simp only [RH]) only [↓RP, RG, FX, RQ, ↓reduceIte, Nat.reduceEqDiff, reduceCtorEq, Nat.reduceBEq, Nat.reduceAdd, Nat.reduceLeDiff]
            rw [resVal_1 rfl]; simp (disch := first | assumption | omega | rfl | simp only [RH]) only [↓RP, RG, FX, RQ, ↓reduceIte, Nat.reduceEqDiff, reduceCtorEq, Nat.reduceBEq, Nat.reduceAdd, Nat.reduceLeDiff, RS]
          | false =>
            simp (disch := first | assumption | omega | rfl | simp only [RH]) only [↓RP, RG, FX, RQ, ↓reduceIte, Nat.reduceEqDiff, reduceCtorEq, Nat.reduceBEq, Nat.reduceAdd, Nat.reduceLeDiff, t1, t2, t3, t4]
            refine callK_F 6 (layersAlive_c) (by simp (disch := first | assumption | omega | rfl | simp only [RH]) only [↓RP, RG, FX, RQ, ↓reduceIte, Nat.reduceEqDiff, reduceCtorEq, Nat.reduceBEq, Nat.reduceAdd, Nat.reduceLeDiff, RA] <;> rfl) (.inl (by simp [allFresh, ints_fresh, bools_fresh])) ?_
            simp (disch := first | assumption | omega | rfl | simp only [RH]) only [↓RP, RG, FX, RQ, ↓reduceIte, Nat.reduceEqDiff, reduceCtorEq, Nat.reduceBEq, Nat.reduceAdd, Nat.reduceLeDiff]
            rw [resVal_1 rfl]; simp (disch := first | assumption | omega | rfl | simp only [RH]) only [↓RP, RG, FX, RQ, ↓reduceIte, Nat.reduceEqDiff, reduceCtorEq, Nat.reduceBEq, Nat.reduceAdd, Nat.reduceLeDiff, RS]
end Go.Proofs.YtmfddbhemknkfaaDoor
