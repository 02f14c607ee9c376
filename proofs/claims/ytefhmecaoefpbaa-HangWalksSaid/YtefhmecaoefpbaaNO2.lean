/- Which threads lie over which, by the program. -/
import Derived.Test.YtefhmecaoefpbaaNO1
import Derived.Test.YtefhmecaoefpbaaSH
import Derived.Test.YtefhmecaoefpbaaA0
import Derived.Test.YtefhmecaoefpbaaBw5
set_option linter.unusedSimpArgs false
set_option linter.unusedVariables false
set_option maxRecDepth 100000
namespace Go.Proofs.Ytefhmecaoefpbaa
open Go Go.Proofs Go.AW

theorem apZ_gw (D : Nat → Bool) (k : Nat) (xs : List AVal) (r : Option (AVal × List AObj)) : apZ true D (gw true k xs) r = if D k = true then r else none := by
  cases xs with
  | nil => exact apZ_res D k r
  | cons a t => exact apZ_ref D k 0 _ _ r

theorem cA_any {ty es ext : Nat} {cs : List AVal} (hl : cs.length = ext) : cA (some ⟨ty, es, cs⟩) ext = some cs := by simp [cA, hl]

theorem sX_gw {g : Bool} {h : List AObj} {id a ext ty es : Nat} {cs : List AVal} {bb : Bool} {k : Nat} {xs : List AVal} (hty : ty ≠ 1000003) (hl : cs.length = ext) (hk : a < ext) : sX (some (g, 1)) h id a ext (some ⟨ty, es, cs⟩) (some [gw bb k xs]) = some (h.set id ⟨ty, es, cs.set a (gw bb k xs)⟩) := by
  rw [sX_mk hty, if_pos ⟨hl, rfl, by simp; omega, by simp [one_gw]⟩]; rfl

theorem sort_nil : Contract Try.prog 45 [.list false true 0 []] (.tuple []) := Contract.run xGood 200 (by kernel_rfl)

/-- Rows, handed back. -/
def LL (rs : List (List Int)) : List AVal := rs.map fun r => LR r.isEmpty r
theorem gws_res {h : List AObj} {k : Nat} {rs : List (List Int)} (m : Nat) (hh : ∀ a, a < rs.length → h[k + a]? = some (go 3 (ints (rs.getD a [])))) : (gws k rs).map (resOf h (m + 2)) = LL rs := by
  apply List.ext_getElem
  · simp [gws, LL]
  intro a h1 h2
  have ha : a < rs.length := by simpa [LL] using h2
  have hg := hh a ha
  have e : rs.getD a [] = rs[a] := by rw [List.getD_eq_getElem?_getD, List.getElem?_eq_getElem ha]; rfl
  rw [e] at hg
  simp only [gws, LL, List.getElem_map, List.getElem_mapIdx]
  generalize rs[a] = r at *
  cases r with
  | nil => rfl
  | cons x t =>
    have hp : 0 < (ints (x :: t)).length := by simp [ints]
    rw [gw_pos hp]
    rw [go_pos hp] at hg
    simp only [resOf, hg, if_true, List.drop_zero, Nat.mul_one, List.take_length]
    have := ints_res (x :: t) h m
    simp only [this, ints_length]
    rfl

theorem set_self {h : List AObj} {i : Nat} {o : AObj} (ho : h[i]? = some o) : h.set i o = h := by
  obtain ⟨hi, rfl⟩ := List.getElem?_eq_some_iff.1 ho
  exact List.set_getElem_self hi
theorem srt_inc {r : List Int} (h : r.Pairwise (· < ·)) : srt r = r := by
  apply List.mergeSort_of_pairwise
  exact h.imp fun hab => by simp; omega

theorem rX_any {h : List AObj} {m n ty : Nat} {cs : List AVal} (hl : cs.length = n) : rX h m 0 n n (some ⟨ty, 1, cs⟩) = .list true false n (cs.map (resOf h m)) := by
  subst hl
  simp [rX]

theorem newOrder_c {W H n : Nat} (hN : W + H = n) (hW0 : 0 < W) (hH0 : 0 < H) (hW : W ≤ 64) (hH : H ≤ 64) (b : Bool) {l : List Bool} (hn : l.length = W * H) :
    Contract Try.prog 26 [GA W H b l] (.agg [.list true false n (LL (rowsG true W H l W 0)), .list true false n (LL (rowsG false W H l W 0))]) := by
  have hWH : W * H ≤ 64 * 64 := Nat.mul_le_mul hW hH
  have hNi : ((W : Int) + (H : Int)).toNat = n := by omega
  have hcell : ofCell (.slice none 0 0) = .cap0 true := rfl
  refine Contract.intro (effS [] false [] [] [4, 48, 51, 60, 63] (fun i => !(i == 4)) [55, 67]) 6 follows Try.func26 rfl rfl (by kernel_rfl) (Nat.le_of_ble_eq_true rfl) ?_
  simp (disch := first | assumption | omega | rfl | simp only [hAt_app, hAt_app0, List.getElem?_cons_zero, List.getElem?_cons_succ]) only [↓RP, RG, FX, decide_eq_true, decide_eq_false, Bool.not_true, Bool.not_false, Option.map_some, List.map_cons, List.map_nil, List.getElem?_cons_zero, List.getElem?_cons_succ, ↓reduceIte, Nat.reduceEqDiff, reduceCtorEq, decide_eq_true_eq, decide_eq_false_iff_not, Option.map_none, Option.bind_some, List.contains_nil, List.contains_cons, Nat.reduceBEq, Bool.or_false, Bool.false_or, Bool.or_self, List.set_cons_zero, List.set_cons_succ, List.take_succ_cons, List.take_zero, List.drop_succ_cons, List.drop_zero, List.length_cons, List.length_nil, List.length_append, Nat.reduceAdd, Nat.reduceLeDiff, List.all_cons, List.all_nil, Bool.and_true, and_true, true_and, and_self, ne_eq, not_false_eq_true, List.cons_append, List.nil_append, List.append_nil, List.append_assoc, Nat.zero_add, Nat.add_zero, Int.toNat_natCast, args0_1, make_one, hNi, hcell]
  refine loopK_W [1, 2, 3, 4, 21, 22] (fun x : Nat => x ≤ W) (fun x : Nat => ⟨[(1, .ptr 0 0 3), (2, .ptr 1 0 2), (3, I ((W : Int) + (H : Int))), (4, .ptr 4 0 2), (21, I W), (22, I x)], ⟨24, 3, [I W, I H, BA b l]⟩ :: ⟨51, 2, [.cap0 true, .cap0 true]⟩ :: ⟨25, 1, gws 5 (rowsG true W H l x 0)⟩ :: ⟨25, 1, gws (5 + n) (rowsG false W H l x 0)⟩ :: ⟨51, 2, [.ref 2 0 n n, .ref 3 0 n n]⟩ :: (gos (rowsG true W H l x 0) ++ gos (rowsG false W H l x 0))⟩) (fun x => W - x) 0 (by omega) ?_ ?_
  · simp only [↓RP, RG, FX, decide_eq_true, decide_eq_false, Bool.not_true, Bool.not_false, Option.map_some, List.map_cons, List.map_nil, List.getElem?_cons_zero, List.getElem?_cons_succ, ↓reduceIte, Nat.reduceEqDiff, reduceCtorEq, decide_eq_true_eq, decide_eq_false_iff_not, Option.map_none, Option.bind_some, List.contains_nil, List.contains_cons, Nat.reduceBEq, Bool.or_false, Bool.false_or, Bool.or_self, List.set_cons_zero, List.set_cons_succ, List.take_succ_cons, List.take_zero, List.drop_succ_cons, List.drop_zero, List.length_cons, List.length_nil, List.length_append, Nat.reduceAdd, Nat.reduceLeDiff, List.all_cons, List.all_nil, Bool.and_true, and_true, true_and, and_self, ne_eq, not_false_eq_true, List.cons_append, List.nil_append, List.append_nil, List.append_assoc, Nat.zero_add, Nat.add_zero, Int.toNat_natCast]
    rw [rowsG_zero, rowsG_zero, hN]
    refine Wk.weak (fun t => .refl _) (.cons _ _ _ _ (WL.refl _) (.cons _ _ _ _ (WL.refl _) (.cons _ _ _ _ (WL_gws 5 n) (.cons _ _ _ _ (WL_gws (5 + n) n) (.cons _ _ _ _ (WL.refl _) (.nil _ ?_))))))
    intro o ho
    rcases List.mem_append.1 ho with h | h <;> exact gos_nil n o h
  intro x hx
  by_cases hlt : x < W
  · simp (disch := first | assumption | omega | rfl | simp only [hAt_app, hAt_app0, List.getElem?_cons_zero, List.getElem?_cons_succ]) only [↓RP, RG, FX, decide_eq_true, decide_eq_false, Bool.not_true, Bool.not_false, Option.map_some, List.map_cons, List.map_nil, List.getElem?_cons_zero, List.getElem?_cons_succ, ↓reduceIte, Nat.reduceEqDiff, reduceCtorEq, decide_eq_true_eq, decide_eq_false_iff_not, Option.map_none, Option.bind_some, List.contains_nil, List.contains_cons, Nat.reduceBEq, Bool.or_false, Bool.false_or, Bool.or_self, List.set_cons_zero, List.set_cons_succ, List.take_succ_cons, List.take_zero, List.drop_succ_cons, List.drop_zero, List.length_cons, List.length_nil, List.length_append, Nat.reduceAdd, Nat.reduceLeDiff, List.all_cons, List.all_nil, Bool.and_true, and_true, true_and, and_self, ne_eq, not_false_eq_true, List.cons_append, List.nil_append, List.append_nil, List.append_assoc, Nat.zero_add, Nat.add_zero, Int.toNat_natCast]
    refine loopK_I [1, 2, 3, 4, 5, 21, 22, 26, 27] (fun y : Nat => y ≤ H) (fun y : Nat => ⟨[(1, .ptr 0 0 3), (2, .ptr 1 0 2), (3, I ((W : Int) + (H : Int))), (4, .ptr 4 0 2), (5, I x), (21, I W), (22, I x), (26, I H), (27, I y)], ⟨24, 3, [I W, I H, BA b l]⟩ :: ⟨51, 2, [.cap0 true, .cap0 true]⟩ :: ⟨25, 1, gws 5 (rowsG true W H l x y)⟩ :: ⟨25, 1, gws (5 + n) (rowsG false W H l x y)⟩ :: ⟨51, 2, [.ref 2 0 n n, .ref 3 0 n n]⟩ :: (gos (rowsG true W H l x y) ++ gos (rowsG false W H l x y))⟩) (fun y => H - y) 0 (by omega) (by simp only [↓RP, RG, FX, decide_eq_true, decide_eq_false, Bool.not_true, Bool.not_false, Option.map_some, List.map_cons, List.map_nil, List.getElem?_cons_zero, List.getElem?_cons_succ, ↓reduceIte, Nat.reduceEqDiff, reduceCtorEq, decide_eq_true_eq, decide_eq_false_iff_not, Option.map_none, Option.bind_some, List.contains_nil, List.contains_cons, Nat.reduceBEq, Bool.or_false, Bool.false_or, Bool.or_self, List.set_cons_zero, List.set_cons_succ, List.take_succ_cons, List.take_zero, List.drop_succ_cons, List.drop_zero, List.length_cons, List.length_nil, List.length_append, Nat.reduceAdd, Nat.reduceLeDiff, List.all_cons, List.all_nil, Bool.and_true, and_true, true_and, and_self, ne_eq, not_false_eq_true, List.cons_append, List.nil_append, List.append_nil, List.append_assoc, Nat.zero_add, Nat.add_zero, Int.toNat_natCast]; rfl) ?_
    intro y hy
    by_cases hlt2 : y < H
    · have lB := rowsG_len true W H l x y
      have lA := rowsG_len false W H l x y
      have hil := idx_lt hlt hlt2
      have hid := idx_nat W y x
      have hxw : (y : Int) * (W : Int) = ((W * y : Nat) : Int) := by rw [Int.natCast_mul, Int.mul_comm]
      have hwy : W * y ≤ 64 * 64 := Nat.mul_le_mul (by omega) (by omega)
      have hcst : (W : Int) + (y : Int) = ((W + y : Nat) : Int) := by omega
      have hix : (((W * y : Nat) : Int) + (x : Int)).toNat = W * y + x := by omega
      cases hb : l.getD (W * y + x) false with
      | true =>
        have sB := rowsG_step true l hlt hlt2 true hb
        have sA := rowsG_step false l hlt hlt2 true hb
        rw [if_pos rfl, if_pos rfl, ← rowsG_get (by omega)] at sB
        rw [if_neg (by simp), if_neg (by simp), ← rowsG_get (by omega)] at sA
        have zB : ((rowsG true W H l x y).getD x []).length ≤ 200 := by rw [rowsG_get (by omega)]; have := rowG_le (v := true) (l := l) (a := x) hlt hlt2; omega
        have zA : ((rowsG false W H l x y).getD (W + y) []).length ≤ 200 := by rw [rowsG_get (by omega)]; have := rowG_le (v := false) (l := l) (a := W + y) hlt hlt2; omega
        generalize rowsG true W H l x y = rB at *
        generalize rowsG false W H l x y = rA at *
        generalize hB' : rowsG true W H l x (y + 1) = rB' at *
        generalize hA' : rowsG false W H l x (y + 1) = rA' at *
        have lB' : rB'.length = n := by rw [sB, List.length_set]; omega
        have gB : (gws 5 rB).length = n := by rw [gws_len]; omega
        have gA : (gws (5 + n) rA).length = n := by rw [gws_len]; omega
        have gB' : (gws 5 rB').length = n := by rw [gws_len]; omega
        have a1 := gws_at (k := 5) (show x < rB.length by omega)
        have a2 := gws_at (k := 5 + n) (show W + y < rA.length by omega)
        have d1 : (5 + x == 4) = false := beq_eq_false_iff_ne.2 (by omega)
        have d2 : (5 + n + (W + y) == 4) = false := beq_eq_false_iff_ne.2 (by omega)
        have o1 : (⟨24, 3, [I W, I H, BA b l]⟩ :: ⟨51, 2, [.cap0 true, .cap0 true]⟩ :: ⟨25, 1, gws 5 rB⟩ :: ⟨25, 1, gws (5 + n) rA⟩ :: ⟨51, 2, [.ref 2 0 n n, .ref 3 0 n n]⟩ :: (gos rB ++ gos rA))[5 + x]? = some (go 3 (ints (rB.getD x []))) := h5_atB (by omega)
        have t1 : (⟨24, 3, [I W, I H, BA b l]⟩ :: ⟨51, 2, [.cap0 true, .cap0 true]⟩ :: ⟨25, 1, gws 5 rB⟩ :: ⟨25, 1, gws (5 + n) rA⟩ :: ⟨51, 2, [.ref 2 0 n n, .ref 3 0 n n]⟩ :: (gos rB ++ gos rA)).set (5 + x) (go 3 (ints (rB.getD x [] ++ [((W + y : Nat) : Int)]))) = ⟨24, 3, [I W, I H, BA b l]⟩ :: ⟨51, 2, [.cap0 true, .cap0 true]⟩ :: ⟨25, 1, gws 5 rB⟩ :: ⟨25, 1, gws (5 + n) rA⟩ :: ⟨51, 2, [.ref 2 0 n n, .ref 3 0 n n]⟩ :: (gos rB' ++ gos rA) := by rw [h5_setB (by omega), ← sB]
        have p1 : (gws 5 rB).set x (gw true (5 + x) (ints (rB.getD x [] ++ [((W + y : Nat) : Int)]))) = gws 5 rB' := by rw [gws_set, ← sB]
        have o2 : (⟨24, 3, [I W, I H, BA b l]⟩ :: ⟨51, 2, [.cap0 true, .cap0 true]⟩ :: ⟨25, 1, gws 5 rB'⟩ :: ⟨25, 1, gws (5 + n) rA⟩ :: ⟨51, 2, [.ref 2 0 n n, .ref 3 0 n n]⟩ :: (gos rB' ++ gos rA))[5 + n + (W + y)]? = some (go 3 (ints (rA.getD (W + y) []))) := h5_atA lB' (by omega)
        have t2 : (⟨24, 3, [I W, I H, BA b l]⟩ :: ⟨51, 2, [.cap0 true, .cap0 true]⟩ :: ⟨25, 1, gws 5 rB'⟩ :: ⟨25, 1, gws (5 + n) rA⟩ :: ⟨51, 2, [.ref 2 0 n n, .ref 3 0 n n]⟩ :: (gos rB' ++ gos rA)).set (5 + n + (W + y)) (go 3 (ints (rA.getD (W + y) [] ++ [(x : Int)]))) = ⟨24, 3, [I W, I H, BA b l]⟩ :: ⟨51, 2, [.cap0 true, .cap0 true]⟩ :: ⟨25, 1, gws 5 rB'⟩ :: ⟨25, 1, gws (5 + n) rA⟩ :: ⟨51, 2, [.ref 2 0 n n, .ref 3 0 n n]⟩ :: (gos rB' ++ gos rA') := by rw [h5_setA lB', ← sA]
        have p2 : (gws (5 + n) rA).set (W + y) (gw true (5 + n + (W + y)) (ints (rA.getD (W + y) [] ++ [(x : Int)]))) = gws (5 + n) rA' := by rw [gws_set, ← sA]
        simp (disch := first | assumption | omega | rfl | simp only [hAt_app, hAt_app0, List.getElem?_cons_zero, List.getElem?_cons_succ]) only [↓RP, RG, FX, decide_eq_true, decide_eq_false, Bool.not_true, Bool.not_false, Option.map_some, List.map_cons, List.map_nil, List.getElem?_cons_zero, List.getElem?_cons_succ, ↓reduceIte, Nat.reduceEqDiff, reduceCtorEq, decide_eq_true_eq, decide_eq_false_iff_not, Option.map_none, Option.bind_some, List.contains_nil, List.contains_cons, Nat.reduceBEq, Bool.or_false, Bool.false_or, Bool.or_self, List.set_cons_zero, List.set_cons_succ, List.take_succ_cons, List.take_zero, List.drop_succ_cons, List.drop_zero, List.length_cons, List.length_nil, List.length_append, Nat.reduceAdd, Nat.reduceLeDiff, List.all_cons, List.all_nil, Bool.and_true, and_true, true_and, and_self, ne_eq, not_false_eq_true, List.cons_append, List.nil_append, List.append_nil, List.append_assoc, Nat.zero_add, Nat.add_zero, Int.toNat_natCast, hxw, hcst, hix, hb, cA_any, a1, a2, apZ_gw, sX_gw, d1, d2, append_int, t1, p1, t2, p2]
        exact ⟨y + 1, by omega, by rw [hB', hA']; rfl, by omega⟩
      | false =>
        have sB := rowsG_step true l hlt hlt2 false hb
        have sA := rowsG_step false l hlt hlt2 false hb
        rw [if_neg (by simp), if_neg (by simp), ← rowsG_get (by omega)] at sB
        rw [if_pos rfl, if_pos rfl, ← rowsG_get (by omega)] at sA
        have zB : ((rowsG true W H l x y).getD (W + y) []).length ≤ 200 := by rw [rowsG_get (by omega)]; have := rowG_le (v := true) (l := l) (a := W + y) hlt hlt2; omega
        have zA : ((rowsG false W H l x y).getD x []).length ≤ 200 := by rw [rowsG_get (by omega)]; have := rowG_le (v := false) (l := l) (a := x) hlt hlt2; omega
        generalize rowsG true W H l x y = rB at *
        generalize rowsG false W H l x y = rA at *
        generalize hB' : rowsG true W H l x (y + 1) = rB' at *
        generalize hA' : rowsG false W H l x (y + 1) = rA' at *
        have lB' : rB'.length = n := by rw [sB, List.length_set]; omega
        have gB : (gws 5 rB).length = n := by rw [gws_len]; omega
        have gA : (gws (5 + n) rA).length = n := by rw [gws_len]; omega
        have gB' : (gws 5 rB').length = n := by rw [gws_len]; omega
        have a1 := gws_at (k := 5) (show W + y < rB.length by omega)
        have a2 := gws_at (k := 5 + n) (show x < rA.length by omega)
        have d1 : (5 + (W + y) == 4) = false := beq_eq_false_iff_ne.2 (by omega)
        have d2 : (5 + n + x == 4) = false := beq_eq_false_iff_ne.2 (by omega)
        have o1 : (⟨24, 3, [I W, I H, BA b l]⟩ :: ⟨51, 2, [.cap0 true, .cap0 true]⟩ :: ⟨25, 1, gws 5 rB⟩ :: ⟨25, 1, gws (5 + n) rA⟩ :: ⟨51, 2, [.ref 2 0 n n, .ref 3 0 n n]⟩ :: (gos rB ++ gos rA))[5 + (W + y)]? = some (go 3 (ints (rB.getD (W + y) []))) := h5_atB (by omega)
        have t1 : (⟨24, 3, [I W, I H, BA b l]⟩ :: ⟨51, 2, [.cap0 true, .cap0 true]⟩ :: ⟨25, 1, gws 5 rB⟩ :: ⟨25, 1, gws (5 + n) rA⟩ :: ⟨51, 2, [.ref 2 0 n n, .ref 3 0 n n]⟩ :: (gos rB ++ gos rA)).set (5 + (W + y)) (go 3 (ints (rB.getD (W + y) [] ++ [(x : Int)]))) = ⟨24, 3, [I W, I H, BA b l]⟩ :: ⟨51, 2, [.cap0 true, .cap0 true]⟩ :: ⟨25, 1, gws 5 rB⟩ :: ⟨25, 1, gws (5 + n) rA⟩ :: ⟨51, 2, [.ref 2 0 n n, .ref 3 0 n n]⟩ :: (gos rB' ++ gos rA) := by rw [h5_setB (by omega), ← sB]
        have p1 : (gws 5 rB).set (W + y) (gw true (5 + (W + y)) (ints (rB.getD (W + y) [] ++ [(x : Int)]))) = gws 5 rB' := by rw [gws_set, ← sB]
        have o2 : (⟨24, 3, [I W, I H, BA b l]⟩ :: ⟨51, 2, [.cap0 true, .cap0 true]⟩ :: ⟨25, 1, gws 5 rB'⟩ :: ⟨25, 1, gws (5 + n) rA⟩ :: ⟨51, 2, [.ref 2 0 n n, .ref 3 0 n n]⟩ :: (gos rB' ++ gos rA))[5 + n + x]? = some (go 3 (ints (rA.getD x []))) := h5_atA lB' (by omega)
        have t2 : (⟨24, 3, [I W, I H, BA b l]⟩ :: ⟨51, 2, [.cap0 true, .cap0 true]⟩ :: ⟨25, 1, gws 5 rB'⟩ :: ⟨25, 1, gws (5 + n) rA⟩ :: ⟨51, 2, [.ref 2 0 n n, .ref 3 0 n n]⟩ :: (gos rB' ++ gos rA)).set (5 + n + x) (go 3 (ints (rA.getD x [] ++ [((W + y : Nat) : Int)]))) = ⟨24, 3, [I W, I H, BA b l]⟩ :: ⟨51, 2, [.cap0 true, .cap0 true]⟩ :: ⟨25, 1, gws 5 rB'⟩ :: ⟨25, 1, gws (5 + n) rA⟩ :: ⟨51, 2, [.ref 2 0 n n, .ref 3 0 n n]⟩ :: (gos rB' ++ gos rA') := by rw [h5_setA lB', ← sA]
        have p2 : (gws (5 + n) rA).set x (gw true (5 + n + x) (ints (rA.getD x [] ++ [((W + y : Nat) : Int)]))) = gws (5 + n) rA' := by rw [gws_set, ← sA]
        simp (disch := first | assumption | omega | rfl | simp only [hAt_app, hAt_app0, List.getElem?_cons_zero, List.getElem?_cons_succ]) only [↓RP, RG, FX, decide_eq_true, decide_eq_false, Bool.not_true, Bool.not_false, Option.map_some, List.map_cons, List.map_nil, List.getElem?_cons_zero, List.getElem?_cons_succ, ↓reduceIte, Nat.reduceEqDiff, reduceCtorEq, decide_eq_true_eq, decide_eq_false_iff_not, Option.map_none, Option.bind_some, List.contains_nil, List.contains_cons, Nat.reduceBEq, Bool.or_false, Bool.false_or, Bool.or_self, List.set_cons_zero, List.set_cons_succ, List.take_succ_cons, List.take_zero, List.drop_succ_cons, List.drop_zero, List.length_cons, List.length_nil, List.length_append, Nat.reduceAdd, Nat.reduceLeDiff, List.all_cons, List.all_nil, Bool.and_true, and_true, true_and, and_self, ne_eq, not_false_eq_true, List.cons_append, List.nil_append, List.append_nil, List.append_assoc, Nat.zero_add, Nat.add_zero, Int.toNat_natCast, hxw, hcst, hix, hb, cA_any, a1, a2, apZ_gw, sX_gw, d1, d2, append_int, t1, p1, t2, p2]
        exact ⟨y + 1, by omega, by rw [hB', hA']; rfl, by omega⟩
    · obtain rfl : y = H := by omega
      simp (disch := first | assumption | omega | rfl | simp only [hAt_app, hAt_app0, List.getElem?_cons_zero, List.getElem?_cons_succ]) only [↓RP, RG, FX, decide_eq_true, decide_eq_false, Bool.not_true, Bool.not_false, Option.map_some, List.map_cons, List.map_nil, List.getElem?_cons_zero, List.getElem?_cons_succ, ↓reduceIte, Nat.reduceEqDiff, reduceCtorEq, decide_eq_true_eq, decide_eq_false_iff_not, Option.map_none, Option.bind_some, List.contains_nil, List.contains_cons, Nat.reduceBEq, Bool.or_false, Bool.false_or, Bool.or_self, List.set_cons_zero, List.set_cons_succ, List.take_succ_cons, List.take_zero, List.drop_succ_cons, List.drop_zero, List.length_cons, List.length_nil, List.length_append, Nat.reduceAdd, Nat.reduceLeDiff, List.all_cons, List.all_nil, Bool.and_true, and_true, true_and, and_self, ne_eq, not_false_eq_true, List.cons_append, List.nil_append, List.append_nil, List.append_assoc, Nat.zero_add, Nat.add_zero, Int.toNat_natCast]
      exact ⟨x + 1, by omega, by rw [rowsG_row, rowsG_row]; rfl, by omega⟩
  · obtain rfl : x = W := by omega
    simp (disch := first | assumption | omega | rfl | simp only [hAt_app, hAt_app0, List.getElem?_cons_zero, List.getElem?_cons_succ]) only [↓RP, RG, FX, decide_eq_true, decide_eq_false, Bool.not_true, Bool.not_false, Option.map_some, List.map_cons, List.map_nil, List.getElem?_cons_zero, List.getElem?_cons_succ, ↓reduceIte, Nat.reduceEqDiff, reduceCtorEq, decide_eq_true_eq, decide_eq_false_iff_not, Option.map_none, Option.bind_some, List.contains_nil, List.contains_cons, Nat.reduceBEq, Bool.or_false, Bool.false_or, Bool.or_self, List.set_cons_zero, List.set_cons_succ, List.take_succ_cons, List.take_zero, List.drop_succ_cons, List.drop_zero, List.length_cons, List.length_nil, List.length_append, Nat.reduceAdd, Nat.reduceLeDiff, List.all_cons, List.all_nil, Bool.and_true, and_true, true_and, and_self, ne_eq, not_false_eq_true, List.cons_append, List.nil_append, List.append_nil, List.append_assoc, Nat.zero_add, Nat.add_zero, Int.toNat_natCast]
    have lB := rowsG_len true x H l x 0
    have lA := rowsG_len false x H l x 0
    have sS : ∀ a, a < n → ((rowsG true x H l x 0).getD a []).Pairwise (· < ·) ∧ ((rowsG true x H l x 0).getD a []).length ≤ 200 := fun a ha => by
      rw [rowsG_get (by omega)]; exact ⟨rowG_inc _ _ _ _ _ _ _, rowG_end (by omega) (by omega)⟩
    generalize rowsG true x H l x 0 = rB at *
    generalize rowsG false x H l x 0 = rA at *
    have gB : (gws 5 rB).length = n := by rw [gws_len]; omega
    have gA : (gws (5 + n) rA).length = n := by rw [gws_len]; omega
    refine loopK_I [1, 2, 4, 74, 75] (fun a : Nat => a ≤ n) (fun a : Nat => ⟨[(1, .ptr 0 0 3), (2, .ptr 1 0 2), (4, .ptr 4 0 2), (74, I ((x : Int) + (H : Int))), (75, I a)], ⟨24, 3, [I x, I H, BA b l]⟩ :: ⟨51, 2, [.cap0 true, .cap0 true]⟩ :: ⟨25, 1, gws 5 rB⟩ :: ⟨25, 1, gws (5 + n) rA⟩ :: ⟨51, 2, [.ref 2 0 n n, .ref 3 0 n n]⟩ :: (gos rB ++ gos rA)⟩) (fun a => n - a) 0 (by omega) (by simp only [↓RP, RG, FX, decide_eq_true, decide_eq_false, Bool.not_true, Bool.not_false, Option.map_some, List.map_cons, List.map_nil, List.getElem?_cons_zero, List.getElem?_cons_succ, ↓reduceIte, Nat.reduceEqDiff, reduceCtorEq, decide_eq_true_eq, decide_eq_false_iff_not, Option.map_none, Option.bind_some, List.contains_nil, List.contains_cons, Nat.reduceBEq, Bool.or_false, Bool.false_or, Bool.or_self, List.set_cons_zero, List.set_cons_succ, List.take_succ_cons, List.take_zero, List.drop_succ_cons, List.drop_zero, List.length_cons, List.length_nil, List.length_append, Nat.reduceAdd, Nat.reduceLeDiff, List.all_cons, List.all_nil, Bool.and_true, and_true, true_and, and_self, ne_eq, not_false_eq_true, List.cons_append, List.nil_append, List.append_nil, List.append_assoc, Nat.zero_add, Nat.add_zero, Int.toNat_natCast]; rfl) ?_
    intro a ha
    by_cases hlt3 : a < n
    · have a1 := gws_at (k := 5) (show a < rB.length by omega)
      obtain ⟨s1, s2⟩ := sS a hlt3
      have o1 : (⟨24, 3, [I x, I H, BA b l]⟩ :: ⟨51, 2, [.cap0 true, .cap0 true]⟩ :: ⟨25, 1, gws 5 rB⟩ :: ⟨25, 1, gws (5 + n) rA⟩ :: ⟨51, 2, [.ref 2 0 n n, .ref 3 0 n n]⟩ :: (gos rB ++ gos rA))[5 + a]? = some (go 3 (ints (rB.getD a []))) := h5_atB (by omega)
      simp (disch := first | assumption | omega | rfl | simp only [hAt_app, hAt_app0, List.getElem?_cons_zero, List.getElem?_cons_succ]) only [↓RP, RG, FX, decide_eq_true, decide_eq_false, Bool.not_true, Bool.not_false, Option.map_some, List.map_cons, List.map_nil, List.getElem?_cons_zero, List.getElem?_cons_succ, ↓reduceIte, Nat.reduceEqDiff, reduceCtorEq, decide_eq_true_eq, decide_eq_false_iff_not, Option.map_none, Option.bind_some, List.contains_nil, List.contains_cons, Nat.reduceBEq, Bool.or_false, Bool.false_or, Bool.or_self, List.set_cons_zero, List.set_cons_succ, List.take_succ_cons, List.take_zero, List.drop_succ_cons, List.drop_zero, List.length_cons, List.length_nil, List.length_append, Nat.reduceAdd, Nat.reduceLeDiff, List.all_cons, List.all_nil, Bool.and_true, and_true, true_and, and_self, ne_eq, not_false_eq_true, List.cons_append, List.nil_append, List.append_nil, List.append_assoc, Nat.zero_add, Nat.add_zero, Int.toNat_natCast, cA_any, a1]
      generalize rB.getD a [] = ra at *
      cases ra with
      | nil =>
        refine callK_F 6 sort_nil (by rfl) (.inl (by simp [allFresh])) ?_
        simp (disch := first | assumption | omega | rfl | simp only [hAt_app, hAt_app0, List.getElem?_cons_zero, List.getElem?_cons_succ]) only [↓RP, RG, FX, decide_eq_true, decide_eq_false, Bool.not_true, Bool.not_false, Option.map_some, List.map_cons, List.map_nil, List.getElem?_cons_zero, List.getElem?_cons_succ, ↓reduceIte, Nat.reduceEqDiff, reduceCtorEq, decide_eq_true_eq, decide_eq_false_iff_not, Option.map_none, Option.bind_some, List.contains_nil, List.contains_cons, Nat.reduceBEq, Bool.or_false, Bool.false_or, Bool.or_self, List.set_cons_zero, List.set_cons_succ, List.take_succ_cons, List.take_zero, List.drop_succ_cons, List.drop_zero, List.length_cons, List.length_nil, List.length_append, Nat.reduceAdd, Nat.reduceLeDiff, List.all_cons, List.all_nil, Bool.and_true, and_true, true_and, and_self, ne_eq, not_false_eq_true, List.cons_append, List.nil_append, List.append_nil, List.append_assoc, Nat.zero_add, Nat.add_zero, Int.toNat_natCast]
        exact ⟨a + 1, by omega, rfl, by omega⟩
      | cons v t =>
        have hp : 0 < (ints (v :: t)).length := by simp [ints]
        rw [gw_pos hp, ints_length]
        rw [go_pos hp] at o1
        refine callK_T rfl (sort_spec (ρ := Try.lays189_ren) Try.lays189 (by kernel_rfl) (id := 5 + a) o1 (by decide) (n := (v :: t).length) rfl (by omega)) ?_
        rw [srt_inc s1, set_self o1]
        simp (disch := first | assumption | omega | rfl | simp only [hAt_app, hAt_app0, List.getElem?_cons_zero, List.getElem?_cons_succ]) only [↓RP, RG, FX, decide_eq_true, decide_eq_false, Bool.not_true, Bool.not_false, Option.map_some, List.map_cons, List.map_nil, List.getElem?_cons_zero, List.getElem?_cons_succ, ↓reduceIte, Nat.reduceEqDiff, reduceCtorEq, decide_eq_true_eq, decide_eq_false_iff_not, Option.map_none, Option.bind_some, List.contains_nil, List.contains_cons, Nat.reduceBEq, Bool.or_false, Bool.false_or, Bool.or_self, List.set_cons_zero, List.set_cons_succ, List.take_succ_cons, List.take_zero, List.drop_succ_cons, List.drop_zero, List.length_cons, List.length_nil, List.length_append, Nat.reduceAdd, Nat.reduceLeDiff, List.all_cons, List.all_nil, Bool.and_true, and_true, true_and, and_self, ne_eq, not_false_eq_true, List.cons_append, List.nil_append, List.append_nil, List.append_assoc, Nat.zero_add, Nat.add_zero, Int.toNat_natCast]
        exact ⟨a + 1, by omega, rfl, by omega⟩
    · obtain rfl : a = n := by omega
      simp (disch := first | assumption | omega | rfl | simp only [hAt_app, hAt_app0, List.getElem?_cons_zero, List.getElem?_cons_succ]) only [↓RP, RG, FX, decide_eq_true, decide_eq_false, Bool.not_true, Bool.not_false, Option.map_some, List.map_cons, List.map_nil, List.getElem?_cons_zero, List.getElem?_cons_succ, ↓reduceIte, Nat.reduceEqDiff, reduceCtorEq, decide_eq_true_eq, decide_eq_false_iff_not, Option.map_none, Option.bind_some, List.contains_nil, List.contains_cons, Nat.reduceBEq, Bool.or_false, Bool.false_or, Bool.or_self, List.set_cons_zero, List.set_cons_succ, List.take_succ_cons, List.take_zero, List.drop_succ_cons, List.drop_zero, List.length_cons, List.length_nil, List.length_append, Nat.reduceAdd, Nat.reduceLeDiff, List.all_cons, List.all_nil, Bool.and_true, and_true, true_and, and_self, ne_eq, not_false_eq_true, List.cons_append, List.nil_append, List.append_nil, List.append_assoc, Nat.zero_add, Nat.add_zero, Int.toNat_natCast, cA_any]
      have f1 := gws_res (h := (⟨24, 3, [I x, I H, BA b l]⟩ :: ⟨51, 2, [.ref 2 0 a a, .ref 3 0 a a]⟩ :: ⟨25, 1, gws 5 rB⟩ :: ⟨25, 1, gws (5 + a) rA⟩ :: ⟨51, 2, [.ref 2 0 a a, .ref 3 0 a a]⟩ :: (gos rB ++ gos rA))) (k := 5) (rs := rB) 2 (fun i hi => h5_atB hi)
      have f2 := gws_res (h := (⟨24, 3, [I x, I H, BA b l]⟩ :: ⟨51, 2, [.ref 2 0 a a, .ref 3 0 a a]⟩ :: ⟨25, 1, gws 5 rB⟩ :: ⟨25, 1, gws (5 + a) rA⟩ :: ⟨51, 2, [.ref 2 0 a a, .ref 3 0 a a]⟩ :: (gos rB ++ gos rA))) (k := 5 + a) (rs := rA) 2 (fun i hi => h5_atA (by omega) hi)
      rw [resVal_1 rfl]; simp (disch := first | assumption | omega | rfl | simp only [hAt_app, hAt_app0, List.getElem?_cons_zero, List.getElem?_cons_succ]) only [↓RP, RG, FX, decide_eq_true, decide_eq_false, Bool.not_true, Bool.not_false, Option.map_some, List.map_cons, List.map_nil, List.getElem?_cons_zero, List.getElem?_cons_succ, ↓reduceIte, Nat.reduceEqDiff, reduceCtorEq, decide_eq_true_eq, decide_eq_false_iff_not, Option.map_none, Option.bind_some, List.contains_nil, List.contains_cons, Nat.reduceBEq, Bool.or_false, Bool.false_or, Bool.or_self, List.set_cons_zero, List.set_cons_succ, List.take_succ_cons, List.take_zero, List.drop_succ_cons, List.drop_zero, List.length_cons, List.length_nil, List.length_append, Nat.reduceAdd, Nat.reduceLeDiff, List.all_cons, List.all_nil, Bool.and_true, and_true, true_and, and_self, ne_eq, not_false_eq_true, List.cons_append, List.nil_append, List.append_nil, List.append_assoc, Nat.zero_add, Nat.add_zero, Int.toNat_natCast, RS]
      rw [rX_any gB, rX_any gA, f1, f2]
end Go.Proofs.Ytefhmecaoefpbaa
