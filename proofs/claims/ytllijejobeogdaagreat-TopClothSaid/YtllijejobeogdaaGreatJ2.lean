/- Part 2 of the proof's own texts: the contracts of functions, and what they rest on. -/
import Derived.Test.YtllijejobeogdaaGreatJ1
import Derived.Test.YtllijejobeogdaaGreatBw5
import Derived.Shelf.SlSortCmp.WholeK
import Derived.Test.YtllijejobeogdaaGreatProg
set_option linter.unusedVariables false
set_option linter.unusedSimpArgs false
set_option maxRecDepth 100000
namespace Go.Proofs.YtllijejobeogdaaGreat
open Go Go.Proofs Go.AW
def lenR (f : List Bool) (c : Bool) (i : Nat) : Nat := tw c (rotF f i)
theorem lenR_le (f : List Bool) (c : Bool) (i : Nat) : lenR f c i ≤ f.length := by
  have := tw_le c (rotF f i); rwa [rotF_len] at this
theorem lenR_in {f : List Bool} {c : Bool} {i t : Nat} (h : t < lenR f c i) : f.getD ((i + t) % f.length) false = c := by
  rw [← rotF_get (Nat.lt_of_lt_of_le h (lenR_le f c i))]; exact tw_in c _ t h
theorem lenR_end {f : List Bool} {c : Bool} {i : Nat} (h : lenR f c i < f.length) : f.getD ((i + lenR f c i) % f.length) false ≠ c := by
  rw [← rotF_get h]; exact tw_end c _ (by rw [rotF_len]; exact h)
theorem mod_mid (s r t n : Nat) : ((s + r) % n + t) % n = (s + (r + t)) % n := by rw [Nat.mod_add_mod, Nat.add_assoc]
theorem lenR_lt {f : List Bool} {c : Bool} {i s : Nat} (hi : i < f.length) (hs : s < f.length) (hc : f.getD s false ≠ c) : lenR f c i < f.length := by
  refine Classical.byContradiction fun hno => hc ?_
  have h1 := there_lt (n := f.length) (s := i) (i := s) (by omega)
  have h2 := lenR_in (f := f) (c := c) (i := i) (t := thereF f.length i s) (by omega)
  have h3 : (i + thereF f.length i s) % f.length = s := here_there hi hs
  rwa [h3] at h2
theorem run_len {f : List Bool} {c : Bool} {s r : Nat} (hs : s < f.length) (hc : f.getD s false ≠ c) (hr : r < f.length) : runF (rotF f s) c r = lenR f c (hereF f.length s r) := by
  have hl := runF_le (rotF f s) c r
  rw [rotF_len] at hl
  have hin : ∀ t, t < runF (rotF f s) c r → f.getD ((hereF f.length s r + t) % f.length) false = c := fun t ht => by
    have h1 := runF_in ht
    rw [rotF_get (by omega)] at h1
    unfold hereF; rw [mod_mid]; exact h1
  have hend : f.getD ((hereF f.length s r + runF (rotF f s) c r) % f.length) false ≠ c := by
    unfold hereF; rw [mod_mid]
    by_cases h : r + runF (rotF f s) c r < f.length
    · have h1 := runF_end (g := rotF f s) (c := c) (r := r) (by rw [rotF_len]; exact h)
      rwa [rotF_get h] at h1
    · rw [show s + (r + runF (rotF f s) c r) = s + f.length by omega, Nat.add_mod_right, Nat.mod_eq_of_lt hs]; exact hc
  have h1 : lenR f c (hereF f.length s r) ≤ runF (rotF f s) c r := Nat.le_of_not_lt fun h => hend (lenR_in h)
  have h2 : runF (rotF f s) c r ≤ lenR f c (hereF f.length s r) := Nat.le_of_not_lt fun h => lenR_end (f := f) (c := c) (i := hereF f.length s r) (by omega) (hin _ h)
  omega
theorem lenR_pos {f : List Bool} {c : Bool} {i : Nat} (hi : i < f.length) (h : f.getD i false = c) : 0 < lenR f c i := by
  have h0 : 0 < f.length := by omega
  have hlt := rotF_get (f := f) (s := i) h0
  rw [Nat.add_zero, Nat.mod_eq_of_lt hi, h] at hlt
  unfold lenR
  have hl := rotF_len f i
  cases hg : rotF f i with
  | nil => rw [hg] at hl; simp at hl; omega
  | cons x r =>
    rw [hg] at hlt
    simp only [List.getD_cons_zero] at hlt
    simp [tw, hlt]
def sts (f : List Bool) (c : Bool) : List Nat := (List.range f.length).filter (stR f c)
theorem sts_mem {f : List Bool} {c : Bool} {i : Nat} : i ∈ sts f c ↔ i < f.length ∧ stR f c i = true := by
  unfold sts; rw [List.mem_filter, List.mem_range]
theorem sts_sorted (f : List Bool) (c : Bool) : (sts f c).Pairwise (· < ·) := List.Pairwise.filter _ List.pairwise_lt_range
theorem sts_len (f : List Bool) (c : Bool) : (sts f c).length ≤ f.length := by
  have := List.length_filter_le (stR f c) (List.range f.length); simpa [sts] using this
def mets (f : List Bool) (c : Bool) (s i : Nat) : List Nat := (fnd (rotF f s) c i).map (hereF f.length s)
theorem mets_len (f : List Bool) (c : Bool) (s i : Nat) : (mets f c s i).length ≤ i := by
  unfold mets; rw [List.length_map]; exact fnd_len _ _ _
theorem mets_mem {f : List Bool} {c : Bool} {s : Nat} (hs : s < f.length) (hc : f.getD s false ≠ c) (i : Nat) : i ∈ mets f c s f.length ↔ i ∈ sts f c := by
  unfold mets fnd
  rw [List.mem_map, sts_mem]
  constructor
  · rintro ⟨r, hr, rfl⟩
    rw [List.mem_filter, List.mem_range] at hr
    exact ⟨here_lt (by omega), by rw [← st_same hs hc hr.1]; exact hr.2⟩
  · rintro ⟨h1, h2⟩
    refine ⟨thereF f.length s i, ?_, here_there hs h1⟩
    rw [List.mem_filter, List.mem_range]
    have h3 := there_lt (n := f.length) (s := s) (i := i) (by omega)
    exact ⟨h3, by rw [st_same hs hc h3, here_there hs h1]; exact h2⟩
theorem mets_nodup {f : List Bool} {c : Bool} {s : Nat} (hs : s < f.length) : (mets f c s f.length).Nodup := by
  unfold mets fnd
  refine List.pairwise_map.2 ?_
  have h0 : ((List.range f.length).filter fun r => stF (rotF f s) c r).Pairwise (fun a b => a ≠ b) := List.Pairwise.filter _ List.nodup_range
  refine List.Pairwise.imp_of_mem (fun {a b} ha hb hne he => hne ?_) h0
  rw [List.mem_filter, List.mem_range] at ha hb
  have h1 := there_here hs ha.1
  rw [he, there_here hs hb.1] at h1
  exact h1.symm
theorem nsinc_ext (a b : List Nat) (ha : a.Pairwise (· < ·)) (hb : b.Pairwise (· < ·)) (h : ∀ x, x ∈ a ↔ x ∈ b) : a = b := by
  have hm : a.map (fun n : Nat => (n : Int)) = b.map (fun n : Nat => (n : Int)) := by
    refine sinc_ext _ _ (List.pairwise_map.2 (ha.imp (fun h => by omega))) (List.pairwise_map.2 (hb.imp (fun h => by omega))) fun x => ?_
    rw [List.mem_map, List.mem_map]
    exact ⟨fun ⟨y, h1, h2⟩ => ⟨y, (h y).1 h1, h2⟩, fun ⟨y, h1, h2⟩ => ⟨y, (h y).2 h1, h2⟩⟩
  have := congrArg (List.map Int.toNat) hm
  simpa [List.map_map, Function.comp_def] using this
structure Fl where
  w : Bool
  a : Nat
  f : Nat
  n : Nat
  z : Bool
def flc (x : Fl) : List AVal := [B x.w, I x.a, I x.f, I x.n, B x.z]
def fls (l : List Fl) : List AVal := l.flatMap flc
theorem fls_nil : fls [] = [] := rfl
theorem fls_cons (x : Fl) (l : List Fl) : fls (x :: l) = flc x ++ fls l := rfl
theorem fls_app (a b : List Fl) : fls (a ++ b) = fls a ++ fls b := by simp [fls]
theorem fls_one1 (x : Fl) : fls [x] = flc x := by simp [fls]
theorem flc_length (x : Fl) : (flc x).length = 5 := rfl
theorem fls_length (l : List Fl) : (fls l).length = l.length * 5 := by
  induction l with
  | nil => rfl
  | cons x l ih => rw [fls_cons, List.length_append, ih, flc_length, List.length_cons]; omega
theorem fls_all (p : AVal → Prop) (hb : ∀ b : Bool, p (B b)) (hi : ∀ i : Int, p (I i)) (l : List Fl) : ∀ x ∈ fls l, p x := by
  intro x hx
  rw [fls, List.mem_flatMap] at hx
  obtain ⟨y, _, hy⟩ := hx
  simp only [flc, List.mem_cons, List.not_mem_nil, or_false] at hy
  rcases hy with rfl | rfl | rfl | rfl | rfl
  · exact hb _
  · exact hi _
  · exact hi _
  · exact hi _
  · exact hb _
theorem map_same {g : AVal → AVal} {l : List AVal} (h : ∀ x ∈ l, g x = x) : l.map g = l := by
  rw [List.map_congr_left (g := fun x => x) h, List.map_id']
theorem map_ren_fls (f : Nat → Option Nat) (n : Nat) (l : List Fl) : (fls l).map (ren f (n + 1)) = fls l := by
  exact map_same (fls_all _ (fun _ => rfl) (fun _ => rfl) l)
theorem fls_res (h : List AObj) (n : Nat) (l : List Fl) : (fls l).map (resOf h (n + 1)) = fls l := by
  exact map_same (fls_all _ (fun _ => rfl) (fun _ => rfl) l)
theorem fls_fresh (n : Nat) (l : List Fl) : (fls l).all (allFresh (n + 1)) = true := by
  rw [List.all_eq_true]; exact fls_all _ (fun _ => rfl) (fun _ => rfl) l
theorem fls_drop : ∀ {l : List Fl} {i : Nat} (h : i < l.length), (fls l).drop (i * 5) = flc l[i] ++ (fls l).drop ((i + 1) * 5)
  | x :: l, 0, _ => by
    rw [fls_cons]; simp [flc]
  | x :: l, i + 1, h => by
    have h' : i < l.length := by simpa using h
    have := fls_drop h'
    rw [fls_cons, show (i + 1) * 5 = i * 5 + 5 by omega, show (i + 1 + 1) * 5 = (i + 1) * 5 + 5 by omega]
    simpa [flc] using this
theorem cA_fls {t s n : Nat} {l : List Fl} (hn : l.length * 5 = n) : cA (some ⟨t, s, fls l⟩) n = some (fls l) := by simp [cA, fls_length, hn]
theorem ren_gwF (f : Nat → Option Nat) (n s k m : Nat) (hk : f k = some k) : ren f (n + 1) (gwW s k m) = gwW s k m := by
  unfold gwW
  split
  · simp [ren, hk]
  · simp [ren, hk]
theorem renO_goF (f : Nat → Option Nat) (n e s : Nat) (l : List Fl) : renO f (n + 1) (goW e s (fls l)) = goW e s (fls l) := by
  cases l with
  | nil => rfl
  | cons x r =>
    have := map_ren_fls f n (x :: r)
    simp only [fls_cons, flc, List.cons_append, goW, renO] at this ⊢
    rw [this]
theorem goF_pos {e s : Nat} {l : List Fl} (h : 0 < l.length) : goW e s (fls l) = ⟨e, s, fls l⟩ := by
  cases l with
  | nil => simp at h
  | cons x r => rfl
theorem gwW_pos {s k n : Nat} (h : 0 < n) : gwW s k n = .ref k 0 n (n * s) := by unfold gwW; rw [if_neg (by omega)]
section
variable {P : Program} {t e s nb : Nat} {h : List AObj}
end
theorem indexB_no {f : List Bool} {c : Bool} (hl : f.length ≤ 1000000) (h : ∀ i, i < f.length → f.getD i false = c) : Contract Tryz.prog 92 [BA false f, B (!c)] (I (-1)) := by
  refine zi Tryz.func92 ?_
  refine zs ?_
  refine loopK_I [0, 1, 7, 8] (fun i : Nat => i ≤ f.length) (fun i => ⟨[(0, BA false f), (1, B (!c)), (7, I f.length), (8, I i)], []⟩) (fun i => f.length - i) 0 (by omega) kz ?_
  intro i hi
  by_cases hlt : i < f.length
  · have hq := h i hlt
    have hq2 : ((!c) == f.getD i false) = false := by rw [hq]; cases c <;> rfl
    refine zx1 @hq2 ?_
    exact ⟨i + 1, by omega, rfl, by omega⟩
  · obtain rfl : f.length = i := by omega
    refine zs ?_
    exact zq1
theorem indexB_yes {f : List Bool} {c : Bool} {s : Nat} (hl : f.length ≤ 1000000) (hs : s < f.length) (hc : f.getD s false ≠ c) (h : ∀ i, i < s → f.getD i false = c) : Contract Tryz.prog 92 [BA false f, B (!c)] (I s) := by
  refine zi Tryz.func92 ?_
  refine zs ?_
  refine loopK_I [0, 1, 7, 8] (fun i : Nat => i ≤ s) (fun i => ⟨[(0, BA false f), (1, B (!c)), (7, I f.length), (8, I i)], []⟩) (fun i => f.length - i) 0 (by omega) kz ?_
  intro i hi
  by_cases hlt : i < s
  · have hq := h i hlt
    have hq2 : ((!c) == f.getD i false) = false := by rw [hq]; cases c <;> rfl
    refine zx1 @hq2 ?_
    exact ⟨i + 1, by omega, rfl, by omega⟩
  · obtain rfl : s = i := by omega
    have hq2 : ((!c) == f.getD s false) = true := by
      cases h1 : f.getD s false <;> cases c <;> simp_all
    refine zx1 @hq2 ?_
    exact zq1
theorem floats_s (w c : Bool) (a k n : Nat) (h : List AObj) : SpecTo Tryz.prog 83 [.agg [B w, I a, .ref k 0 n n], B c] h (.func (.func 91) [] [.ptr h.length 0 3, .ptr (h.length + 1) 0 1]) (h ++ [⟨122, 3, [B w, I a, .ref k 0 n n]⟩, ⟨4, 1, [B c]⟩]) := by
  refine SpecTo.intro (effS [] false) follows Tryz.func83 rfl rfl (by kernel_rfl) (Nat.le_of_ble_eq_true rfl) ?_
  refine zx1 @parts_agg ?_
  refine ⟨_, by rw [resVal_1 rfl]; simp (disch := first | assumption | omega | rfl | simp only [RH]) only [↓RP, RZ, ↓reduceIte, Nat.reduceEqDiff, reduceCtorEq, Nat.reduceBEq, Nat.reduceAdd, Nat.reduceLeDiff, raX_tmp, raX_cell, rvX_0, rvX_1, rvX_2, rvX_3, rvX_4, rvX_5]; rfl, Wk.of_eq ?_⟩
  first | rfl | simp
def flI (w : Bool) (a : Nat) (f : List Bool) (c : Bool) (i : Nat) : Fl := ⟨w, a, i, lenR f c i, false⟩
def flW (w : Bool) (a : Nat) (f : List Bool) : Fl := ⟨w, a, 0, f.length, true⟩
def flA (x : Fl) : AVal := .agg (flc x)
def flD (l : List Fl) (j : Nat) : Fl := l.getD j ⟨false, 0, 0, 0, false⟩
def mtF (w : Bool) (a : Nat) (f : List Bool) (c : Bool) (s i : Nat) : List Fl := (mets f c s i).map (flI w a f c)
def stL (w : Bool) (a : Nat) (f : List Bool) (c : Bool) : List Fl := (sts f c).map (flI w a f c)
theorem mtF_len (w : Bool) (a : Nat) (f : List Bool) (c : Bool) (s i : Nat) : (mtF w a f c s i).length = (mets f c s i).length := by simp [mtF]
theorem stL_len (w : Bool) (a : Nat) (f : List Bool) (c : Bool) : (stL w a f c).length = (sts f c).length := by simp [stL]
theorem flD_get {l : List Fl} {j : Nat} (h : j < l.length) : flD l j = l[j] := by simp [flD, h]
theorem pX_fls {l : List Fl} {j : Nat} (h : j < l.length) : pX (some (true, 5)) ((fls l).drop (j * 5)) = some (.agg (flc (flD l j))) := by
  rw [fls_drop h, flD_get h, pX_agg, if_pos (by simp [flc])]
  rfl
theorem mets_1 (f : List Bool) (c : Bool) (s : Nat) : mets f c s 1 = [] := by
  have : stF (rotF f s) c 0 = false := by simp [stF]
  simp [mets, fnd, List.range_succ, this]
theorem mets_no {f : List Bool} {c : Bool} {s i : Nat} (h : (rotF f s).getD i false ≠ c) : mets f c s (i + 1) = mets f c s i := by
  unfold mets
  rw [fnd_no]
  cases hs : stF (rotF f s) c i with
  | false => rfl
  | true => exact absurd (stF_iff.1 hs).2.2.1 h
theorem mets_run {f : List Bool} {c : Bool} {s i : Nat} (h : stF (rotF f s) c i = true) : mets f c s (i + runF (rotF f s) c i + 1) = mets f c s i ++ [hereF f.length s i] := by
  unfold mets; rw [fnd_run h]; simp
theorem mets_over {f : List Bool} {c : Bool} {s i : Nat} (h : f.length ≤ i) : mets f c s i = mets f c s f.length := by
  unfold mets; rw [fnd_over (by rw [rotF_len]; exact h), rotF_len]
end Go.Proofs.YtllijejobeogdaaGreat
set_option linter.unusedVariables false
namespace Go.Proofs
open Go.Shelf
def Tryz.sortF_ren : Go.Shelf.Ren := ⟨fun | 6 => 93 | 15 => 85 | 14 => 107 | 28 => 103 | 29 => 104 | 20 => 113 | 21 => 114 | 22 => 115 | 23 => 116 | 24 => 117 | 25 => 118 | 26 => 119 | 27 => 120 | 46 => 122 | 47 => 109 | 48 => 110 | 49 => 123 | 50 => 124 | 57 => 125 | n => n, fun | 22 => 77 | 24 => 81 | 25 => 136 | 3 => 3 | 39 => 112 | 0 => 0 | 53 => 145 | 55 => 147 | 4 => 4 | 46 => 139 | 45 => 138 | 50 => 91 | 5 => 5 | 9 => 9 | 66 => 153 | 70 => 157 | 76 => 164 | 77 => 165 | n => n, fun | n => n⟩
theorem Tryz.sortF : Go.Proofs.SlLaysF0.n6 Tryz.prog Tryz.sortF_ren := {
  mixed := by kernel_rfl
  f6 := ⟨Tryz.f93.name, by decide, Tryz.func93.trans (congrArg some (by kernel_rfl))⟩
  f14 := ⟨Tryz.f107.name, by decide, Tryz.func107.trans (congrArg some (by kernel_rfl))⟩
  f15 := Tryz.func85.trans (congrArg some (by kernel_rfl))
  f20 := ⟨Tryz.f113.name, by decide, Tryz.func113.trans (congrArg some (by kernel_rfl))⟩
  f21 := ⟨Tryz.f114.name, by decide, Tryz.func114.trans (congrArg some (by kernel_rfl))⟩
  f22 := ⟨Tryz.f115.name, by decide, Tryz.func115.trans (congrArg some (by kernel_rfl))⟩
  f23 := ⟨Tryz.f116.name, by decide, Tryz.func116.trans (congrArg some (by kernel_rfl))⟩
  f24 := ⟨Tryz.f117.name, by decide, Tryz.func117.trans (congrArg some (by kernel_rfl))⟩
  f25 := ⟨Tryz.f118.name, by decide, Tryz.func118.trans (congrArg some (by kernel_rfl))⟩
  f26 := ⟨Tryz.f119.name, by decide, Tryz.func119.trans (congrArg some (by kernel_rfl))⟩
  f27 := ⟨Tryz.f120.name, by decide, Tryz.func120.trans (congrArg some (by kernel_rfl))⟩
  f28 := Tryz.func103.trans (congrArg some (by kernel_rfl))
  f29 := Tryz.func104.trans (congrArg some (by kernel_rfl))
  f46 := ⟨Tryz.f122.name, by decide, Tryz.func122.trans (congrArg some (by kernel_rfl))⟩
  f47 := Tryz.func109.trans (congrArg some (by kernel_rfl))
  f48 := Tryz.func110.trans (congrArg some (by kernel_rfl))
  f49 := ⟨Tryz.f123.name, by decide, Tryz.func123.trans (congrArg some (by kernel_rfl))⟩
  f50 := ⟨Tryz.f124.name, by decide, Tryz.func124.trans (congrArg some (by kernel_rfl))⟩
  f57 := ⟨Tryz.f125.name, by decide, Tryz.func125.trans (congrArg some (by kernel_rfl))⟩
  t0 := Tryz.underlying0
  a0 := Tryz.isAgg0
  z0 := Tryz.sizeOf0
  v0 := Tryz.zeroValue0
  t3 := Tryz.underlying3
  a3 := Tryz.isAgg3
  z3 := Tryz.sizeOf3
  v3 := Tryz.zeroValue3
  t4 := Tryz.underlying4
  a4 := Tryz.isAgg4
  z4 := Tryz.sizeOf4
  v4 := Tryz.zeroValue4
  t5 := Tryz.underlying5
  a5 := Tryz.isAgg5
  z5 := Tryz.sizeOf5
  v5 := Tryz.zeroValue5
  t9 := Tryz.underlying9
  a9 := Tryz.isAgg9
  z9 := Tryz.sizeOf9
  v9 := Tryz.zeroValue9
  t22 := Tryz.underlying77
  a22 := Tryz.isAgg77
  z22 := Tryz.sizeOf77
  v22 := Tryz.zeroValue77
  t25 := Tryz.underlying136
  a25 := Tryz.isAgg136
  z25 := Tryz.sizeOf136
  v25 := Tryz.zeroValue136
  t39 := Tryz.underlying112
  a39 := Tryz.isAgg112
  z39 := Tryz.sizeOf112
  v39 := Tryz.zeroValue112
  t45 := Tryz.underlying138
  a45 := Tryz.isAgg138
  z45 := Tryz.sizeOf138
  v45 := Tryz.zeroValue138
  t46 := Tryz.underlying139
  a46 := Tryz.isAgg139
  z46 := Tryz.sizeOf139
  v46 := Tryz.zeroValue139
  t50 := Tryz.underlying91
  a50 := Tryz.isAgg91
  z50 := Tryz.sizeOf91
  v50 := Tryz.zeroValue91
  t53 := Tryz.underlying145
  a53 := Tryz.isAgg145
  z53 := Tryz.sizeOf145
  v53 := Tryz.zeroValue145
  t55 := Tryz.underlying147
  a55 := Tryz.isAgg147
  z55 := Tryz.sizeOf147
  v55 := Tryz.zeroValue147
  t66 := Tryz.underlying153
  a66 := Tryz.isAgg153
  z66 := Tryz.sizeOf153
  v66 := Tryz.zeroValue153
  t70 := Tryz.underlying157
  a70 := Tryz.isAgg157
  z70 := Tryz.sizeOf157
  v70 := Tryz.zeroValue157
  t76 := Tryz.underlying164
  a76 := Tryz.isAgg164
  z76 := Tryz.sizeOf164
  v76 := Tryz.zeroValue164
  t77 := Tryz.underlying165
  a77 := Tryz.isAgg165
  z77 := Tryz.sizeOf165
  v77 := Tryz.zeroValue165 }
end Go.Proofs
namespace Go.Proofs.YtllijejobeogdaaGreat
open Go Go.Proofs Go.AW
section
open Go.Sort Go.Shelf
def encF (w : Bool) (a : Nat) (f : List Bool) (c : Bool) (x : Fin 1000) : List Value := [.bool w, .int .i64 a, .int .i64 (x.val : Nat), .int .i64 (lenR f c x.val : Nat), .bool false]
def cfF (x y : Fin 1000) : Int := (x.val : Int) - (y.val : Int)
theorem ltF (x y : Fin 1000) : ltOf cfF x y = decide (x.val < y.val) := by
  unfold ltOf cfF
  rw [Bool.eq_iff_iff]; simp; omega
theorem swoF : SWO (ltOf cfF) where
  irrefl x := by rw [ltF]; simp
  trans x y z h1 h2 := by rw [ltF] at *; simp at *; omega
  ntrans x y z h1 h2 := by rw [ltF] at *; simp at *; omega
theorem closF (w c : Bool) (a : Nat) (f : List Bool) (x y : Fin 1000) (W : World) : Calls Tryz.prog 94 #[.agg (encF w a f c x).toArray, .agg (encF w a f c y).toArray] W fun e w' => e = .returned (.int .i64 (cfF x y)) ∧ ∃ q os', w' = grow (W.drewN q) os' := by
  have hx := x.isLt
  have hy := y.isLt
  have hwr : IntKind.i64.wrap ((x.val : Int) - (y.val : Int)) = (x.val : Int) - (y.val : Int) := by simp [IntKind.wrap, IntKind.bits, IntKind.signed]; omega
  unfold encF cfF
  generalize (x.val : Int) = x0 at *
  generalize (y.val : Int) = y0 at *
  generalize ((lenR f c x.val : Nat) : Int) = n1
  generalize ((lenR f c y.val : Nat) : Int) = n2
  go_enter Tryz.func94, Tryz.ntmps94
  go_wp2
  go_ret
  exact ⟨rfl, 0, _, by rw [alloc_eq_grow, alloc_eq_grow, grow_grow]; rfl⟩
theorem fls_get : ∀ (l : List Fl) (t : Nat), t < l.length * 5 → (fls l)[t]? = (flc (flD l (t / 5)))[t % 5]?
  | [], t, h => by simp at h
  | x :: l, t, h => by
    by_cases ht : t < 5
    · have e1 : t / 5 = 0 := by omega
      have e2 : t % 5 = t := by omega
      rw [e1, e2, fls_cons, List.getElem?_append_left (by rw [flc_length]; exact ht)]
      rfl
    · have e1 : t / 5 = (t - 5) / 5 + 1 := by omega
      have e2 : t % 5 = (t - 5) % 5 := by omega
      have ih := fls_get l (t - 5) (by rw [List.length_cons] at h; omega)
      rw [e1, e2, fls_cons, List.getElem?_append_right (by rw [flc_length]; omega), flc_length, ih]
      rfl
theorem flat_fls (w c : Bool) (a : Nat) (f : List Bool) (d : Array (Fin 1000)) : vcells (flatK (encF w a f c) 5 d).toList = fls (d.toList.map fun x => flI w a f c x.val) := by
  refine List.ext_getElem? fun t => ?_
  by_cases ht : t < d.size * 5
  · rw [fls_get _ t (by simpa using ht)]
    have hd : t / 5 < d.size := by omega
    have hm : t % 5 < 5 := Nat.mod_lt _ (by omega)
    have h1 : (flatK (encF w a f c) 5 d)[t]? = some ((encF w a f c d[t / 5]!)[t % 5]!) := by
      rw [← get_flatK _ _ _ t ht, Array.getElem?_eq_getElem (by rw [size_flatK]; exact ht), getElem!_pos _ t (by rw [size_flatK]; exact ht)]
    simp only [vcells, List.getElem?_map, Array.getElem?_toList, h1, Option.map_some]
    have h2 : flD (d.toList.map fun x => flI w a f c x.val) (t / 5) = flI w a f c (d[t / 5]!).val := by
      rw [flD_get (by simpa using hd)]
      simp [hd]
    rw [h2]
    generalize d[t / 5]! = x
    match t % 5, hm with
    | 0, _ => rfl
    | 1, _ => rfl
    | 2, _ => rfl
    | 3, _ => rfl
    | 4, _ => rfl
  · rw [List.getElem?_eq_none (by simp; omega), List.getElem?_eq_none (by rw [fls_length]; simp; omega)]
theorem sortedF_is {d d' : Array (Fin 1000)} {l : List Nat} (hn : (d.toList.map Fin.val).Nodup) (hm : ∀ x, x ∈ d.toList.map Fin.val ↔ x ∈ l) (hl : l.Pairwise (· < ·)) (hp : PermIn 0 d.size d d') (hs : SortedIn (ltOf cfF) 0 d.size d') : d'.toList.map Fin.val = l := by
  obtain ⟨h1, _, h2⟩ := hp
  have h3 : d'.toList.Perm d.toList := by
    have e1 : d'.extract 0 d.size = d' := by rw [← h1]; simp
    have e2 : d.extract 0 d.size = d := by simp
    rwa [e1, e2] at h2
  have h4 := h3.map Fin.val
  refine nsinc_ext _ _ ?_ hl fun x => (h4.mem_iff).trans (hm x)
  have hn' := h4.nodup_iff.2 hn
  rw [List.pairwise_iff_getElem]
  intro i j hi hj hij
  have hi0 : i < d'.size := by simpa using hi
  have hj0 : j < d'.size := by simpa using hj
  have := hs i j (Nat.zero_le _) hij (by omega)
  rw [ltF, getElem!_pos d' j hj0, getElem!_pos d' i hi0] at this
  have hge : ¬ (d'[j]).val < (d'[i]).val := by simpa using this
  have hne := (List.pairwise_iff_getElem.1 hn') i j hi hj hij
  simp only [List.getElem_map, Array.getElem_toList] at hne ⊢
  omega
end
theorem sortF_s (w c : Bool) (a : Nat) {f : List Bool} {s : Nat} (hs : s < f.length) (hl : f.length ≤ 1000) (hc : f.getD s false ≠ c) {h : List AObj} {id : Nat} (ho : h[id]? = some ⟨81, 5, fls (mtF w a f c s f.length)⟩) (h0 : 0 < (sts f c).length) :
    SpecTo Tryz.prog 93 [.ref id 0 (sts f c).length ((sts f c).length * 5), .func (.func 94) [] []] h (.tuple []) (h.set id ⟨81, 5, fls (stL w a f c)⟩) := by
  have hnd := mets_nodup (f := f) (c := c) (s := s) hs
  have hnd2 : (sts f c).Nodup := (sts_sorted f c).imp (fun h => by omega)
  have hmem := mets_mem (f := f) (c := c) hs hc
  have hlen : (mets f c s f.length).length = (sts f c).length := ((List.perm_ext_iff_of_nodup hnd hnd2).2 hmem).length_eq
  have hlt : ∀ x ∈ mets f c s f.length, x < 1000 := fun x hx => by have := (sts_mem.1 ((hmem x).1 hx)).1; omega
  obtain ⟨d, hd⟩ : ∃ d : Array (Fin 1000), d.toList.map Fin.val = mets f c s f.length := by
    refine ⟨((mets f c s f.length).pmap (fun x h => ⟨x, h⟩) hlt).toArray, ?_⟩
    simp [List.map_pmap]
  have hsz : d.size = (sts f c).length := by rw [← hlen, ← hd]; simp
  have hv1 : vcells (Go.Sort.flatK (encF w a f c) 5 d).toList = fls (mtF w a f c s f.length) := by
    rw [flat_fls, mtF, ← hd, List.map_map]; rfl
  obtain ⟨d2, hd2⟩ : ∃ d : Array (Fin 1000), d.toList.map Fin.val = sts f c := by
    refine ⟨((sts f c).pmap (fun x h => ⟨x, h⟩) (fun x hx => (by have := (sts_mem.1 hx).1; omega : x < 1000))).toArray, ?_⟩
    simp [List.map_pmap]
  have hv2 : vcells (Go.Sort.flatK (encF w a f c) 5 d2).toList = fls (stL w a f c) := by
    rw [flat_fls, stL, ← hd2, List.map_map]; rfl
  have hsz2 : d2.size = (sts f c).length := by rw [← hd2]; simp
  rw [← hv1] at ho
  rw [← hv2]
  refine SpecTo.rowV (by kernel_rfl) ho (by decide) (by decide) (by simp [hsz, hsz2]) (by simp [hsz]) fun blk cap wd hb hH hcap => ?_
  have eg : ∀ args w, (callFunc 94 args).run Tryz.prog w = .ok (.enter 94 args) w := enters_of Tryz.func94 (by kernel_rfl) rfl
  have hcon := AnyQ.slices_SortFunc Tryz.sortF 5 Tryz.isAgg81 Tryz.sizeOf81 (encF w a f c) (fun _ => rfl) (fun x v hv => by simp [encF] at hv; rcases hv with rfl | rfl | rfl | rfl | rfl <;> rfl) cfF swoF 94 #[] blk 0 cap d wd eg (fun m os dk hs x y => by simpa using closF w c a f x y _) (by simpa [Go.Sort.HoldsK] using hH) hb (by rw [hsz]; have := sts_len f c; omega)
  rw [hsz] at hcon
  refine hcon.mono ?_
  rintro e w' ⟨h1, d', n, os, hp, hso, rfl⟩
  have hd' : d'.toList.map Fin.val = sts f c := sortedF_is (by rw [hd]; exact hnd) (fun x => by rw [hd]; exact hmem x) (sts_sorted f c) (by rw [hsz]; exact hp) (by rw [hsz]; exact hso)
  have : d' = d2 := by
    have h2 : d'.toList = d2.toList := (List.map_inj_right (f := Fin.val) (fun x y h => Fin.ext h)).1 (hd'.trans hd2.symm)
    exact Array.toList_inj.1 h2
  subst this
  exact ⟨h1, n, os, by simp [sortWorldK, Go.Sort.putRowK]⟩
theorem bindK_by {α : Type} {o : Option α} {K : α → Prop} (v : α) (h : o = some v) (hK : K v) : @bindK _ o ⟨K⟩ := by subst h; exact hK
theorem insF_nil (g : Nat) : Contract Tryz.prog 113 [.list false true 0 [], I 0, I 0, .func (.func g) [] []] (.tuple []) := by
  refine zi Tryz.func113 ?_
  refine zs ?_
  refine loopK_now ?_
  refine zs ?_
  exact zq0
theorem pdqF_nil (g : Nat) : Contract Tryz.prog 107 [.list false true 0 [], I 0, I 0, I 0, .func (.func g) [] []] (.tuple []) := by
  refine zi Tryz.func107 ?_
  refine zs ?_
  refine loopK_now ?_
  refine zs ?_
  refine zc (insF_nil g) ?_
  refine zs ?_
  exact zq0
theorem lenB_0 : Contract Tryz.prog 85 [.val (.int .u64 0)] (I 0) := by
  refine ⟨by kernel_rfl, fun w ok vs hok ht hs hrel => ?_⟩
  have h0 := hrel 0 (by simp)
  have hvs : vs = #[.int .u64 0] := by
    apply Array.ext
    · simpa using hs
    · intro j h1 h2
      obtain rfl : j = 0 := by simp at h2; omega
      have h3 := rel_val (show VRel ok (fun _ => False) w (fun _ => (0, 0)) (fun _ => none) (.val (.int .u64 0)) (vs.getD 0 undef) from h0)
      simp only [Array.getD_eq_getD_getElem?, Array.getElem?_eq_getElem h1, Option.getD_some] at h3
      rw [h3]; rfl
  rw [hvs]
  have h := Go.Proofs.Any.bits_Len (Go.Proofs.SlLaysF0.n15.bits (P := Tryz.prog) (ρ := Tryz.sortF_ren) { Tryz.sortF with }) 0 w (by omega) (by omega)
  refine h.mono ?_
  rintro e w' ⟨rfl, rfl⟩
  exact ⟨_, rfl, .val _, .refl _ _⟩
theorem sortF_nil (g : Nat) : Contract Tryz.prog 93 [.list false true 0 [], .func (.func g) [] []] (.tuple []) := by
  refine zi Tryz.func93 ?_
  refine zs ?_
  refine bindK_by (.val (.int .u64 0)) (by kernel_rfl) ?_
  refine zs ?_
  refine zc (lenB_0) ?_
  refine zs ?_
  refine zc (pdqF_nil g) ?_
  refine zs ?_
  exact zq0
def ShutA (m : Nat) (h : List AObj) : Prop := h.length = m ∧ ∀ o ∈ h, ∀ x ∈ o.cells, ∀ ks, ren (keepF m ks) 8 x = x
theorem ShutA.shut {m : Nat} {h : List AObj} (hs : ShutA m h) : Shut m h := ⟨hs.1, fun o ho x hx => hs.2 o ho x hx []⟩
theorem rem_nat {x n : Nat} (hn : 0 < n) (hn2 : n ≤ 1000000000) : aInt .rem .i64 (x : Int) (n : Int) = some (I (x % n : Nat)) := by
  have : (n : Int) ≠ 0 := by omega
  have hx : (x : Int).tmod n = ((x % n : Nat) : Int) := by rw [Int.tmod_eq_emod_of_nonneg (by omega)]; exact (Int.natCast_emod x n).symm
  simp only [aInt]; rw [if_neg (by omega), hx]
section
variable {f : List Bool} {n : Nat} (hn : f.length = n) (h0 : 0 < n) (hn2 : n ≤ 1000) (w c : Bool) (a m k p1 p2 : Nat) (hs ex : Nat → List AObj)
include hn h0 hn2
theorem floatsY_w (hsh : ∀ j, j ≤ 1 → ShutA m (hs j)) (hc : ∀ i, i < n → f.getD i false = c) (q1 : (hs 0)[p1]? = some ⟨122, 3, [B w, I a, .ref k 0 n n]⟩) (q2 : (hs 0)[p2]? = some ⟨4, 1, [B c]⟩) (q3 : (hs 0)[k]? = some ⟨4, 1, bools f⟩) :
    SpecY Tryz.prog 91 (stepsO 1 hs (fun _ => []) ex (fun j => flA (flD [flW w a f] j))) [.ptr p1 0 3, .ptr p2 0 1] (hs 0) (hs 1) := by
  have hm0 : (hs 0).length = m := (hsh 0 (by omega)).1
  have hm1 : (hs 1).length = m := (hsh 1 (by omega)).1
  have hix := indexB_no (c := c) (show f.length ≤ 1000000 by omega) (by rw [hn]; exact hc)
  refine SpecY.intro (effS [] false) follows Tryz.func91 rfl rfl (by kernel_rfl) (Nat.le_of_ble_eq_true rfl) rfl (fun yv => ?_)
  have q4 : cA (hs 0)[k]? n = some (bools f) := by rw [q3, cA_bools hn]
  refine zx3 @q1 @q2 @q4 ?_
  refine callK_F 6 hix (by simp (disch := first | assumption | omega | rfl | simp only [RH]) only [↓RP, RZ, ↓reduceIte, Nat.reduceEqDiff, reduceCtorEq, Nat.reduceBEq, Nat.reduceAdd, Nat.reduceLeDiff, RA, q1, q2, q3, aX_bools hn.symm hn.symm] <;> rfl) (.inl rfl) ?_
  refine zx2 @q1 @q2 ?_
  refine callK_Y rfl (stepsO_at 0 (by omega) (by show _ = flA (flW w a f); unfold flA flW flc; rw [hn]; rfl) (by simp) rfl) ?_
  refine zs ?_
  have := Wk.shut (hb := hs 0) (h1 := hs 1) (gs := [] ++ ex 0) (env := []) (by omega) (by rw [hm0]; exact (hsh 1 (by omega)).shut)
  simpa using this
def owF (w : Bool) (a : Nat) (f : List Bool) (c : Bool) (j : Nat) : List AObj := [goW 81 5 (fls (stL w a f c)), ⟨81, 5, flc (flD (stL w a f c) j)⟩]
theorem floatsY_s {s : Nat} (hk : k < m) (hp1 : p1 < m) (hp2 : p2 < m) (hsn : s < n) (hcs : f.getD s false ≠ c) (hcf : ∀ i, i < s → f.getD i false = c) (hsh : ∀ j, j ≤ (sts f c).length → ShutA m (hs j)) (q1 : (hs 0)[p1]? = some ⟨122, 3, [B w, I a, .ref k 0 n n]⟩) (q2 : (hs 0)[p2]? = some ⟨4, 1, [B c]⟩) (q3 : (hs 0)[k]? = some ⟨4, 1, bools f⟩) :
    SpecY Tryz.prog 91 (stepsO (sts f c).length hs (owF w a f c) ex (fun j => flA (flD (stL w a f c) j))) [.ptr p1 0 3, .ptr p2 0 1] (hs 0) (hs (sts f c).length) := by
  have hm : ∀ j, j ≤ (sts f c).length → (hs j).length = m := fun j hj => (hsh j hj).1
  have hm0 : (hs 0).length = m := hm 0 (by omega)
  have hix := indexB_yes (show f.length ≤ 1000000 by omega) (by rw [hn]; exact hsn) hcs hcf
  have hmi : ∀ i, (mets f c s i).length ≤ i := fun i => mets_len f c s i
  have hrl : (rotF f s).length = n := by rw [rotF_len, hn]
  refine SpecY.intro (effS [] false) follows Tryz.func91 rfl rfl (by kernel_rfl) (Nat.le_of_ble_eq_true rfl) rfl (fun yv => ?_)
  have q4 : cA (hs 0)[k]? n = some (bools f) := by rw [q3, cA_bools hn]
  refine zx3 @q1 @q2 @q4 ?_
  refine callK_F 6 hix (by simp (disch := first | assumption | omega | rfl | simp only [RH]) only [↓RP, RZ, ↓reduceIte, Nat.reduceEqDiff, reduceCtorEq, Nat.reduceBEq, Nat.reduceAdd, Nat.reduceLeDiff, RA, q1, q2, q3, aX_bools hn.symm hn.symm] <;> rfl) (.inl rfl) ?_
  refine zx2 @q1 @q2 ?_
  have g1 : ∀ r, (hs 0 ++ r)[p1]? = some ⟨122, 3, [B w, I a, .ref k 0 n n]⟩ := fun r => by rw [hAt_low _ (by omega)]; exact q1
  have g2 : ∀ r, (hs 0 ++ r)[p2]? = some ⟨4, 1, [B c]⟩ := fun r => by rw [hAt_low _ (by omega)]; exact q2
  have g4 : ∀ r, cA (hs 0 ++ r)[k]? n = some (bools f) := fun r => by rw [hAt_low _ (by omega)]; exact q4
  refine loopK_WW [0, 1, 2, 4, 5, 6, 7] (fun i : Nat => 1 ≤ i ∧ i ≤ n + 1 ∧ (i ≤ n → (rotF f s).getD (i - 1) false ≠ c)) (fun i => ⟨[(0, .val yv), (1, .ptr p1 0 3), (2, .ptr p2 0 1), (4, I n), (5, I s), (6, gwW 5 (hs 0).length (mets f c s i).length), (7, I i)], hs 0 ++ [goW 81 5 (fls (mtF w a f c s i))]⟩) (fun i => n + 1 - i) 1 ⟨by omega, by omega, fun _ => by rw [rotF_get (by omega), hn, Nat.add_zero, Nat.mod_eq_of_lt hsn]; exact hcs⟩ ?_ ?_
  · simp only [↓RP, RG, FX, RQ, ↓reduceIte, Nat.reduceEqDiff, reduceCtorEq, Nat.reduceBEq, Nat.reduceAdd, Nat.reduceLeDiff]
    have e1 : mets f c s 1 = [] := mets_1 f c s
    rw [e1, show mtF w a f c s 1 = [] by simp [mtF, e1]]
    refine Wk.weak (WE.cons _ (.refl _) (WE.cons _ (.refl _) (WE.cons _ (.refl _) (WE.cons _ (.refl _) (WE.cons _ (.refl _) (WE.cons _ (.nil _) (WE.cons _ (.refl _) WE.nil))))))) ?_
    have h9 : WO (hs 0 ++ []) (hs 0 ++ [goW 81 5 (fls [])]) := .app (hs 0) (.nil _ (by simp [goW, fls_nil]))
    rwa [List.append_nil] at h9
  intro i ⟨hi1, hi2, hi3⟩
  by_cases hlt : i < n
  · obtain ⟨at', hat⟩ : ∃ at' : Nat, at' = (s + i) % n := ⟨_, rfl⟩
    have hatn : at' < n := by rw [hat]; exact Nat.mod_lt _ h0
    have hrem : aInt .rem .i64 ((s : Int) + (i : Int)) (n : Int) = some (I at') := by
      rw [show (s : Int) + (i : Int) = ((s + i : Nat) : Int) by omega, hat]; exact rem_nat h0 (by omega)
    have hrg : (rotF f s).getD i false = f.getD at' false := by rw [rotF_get (by omega), hn, ← hat]
    by_cases hq : f.getD at' false = c
    · have hq2 : (!(f.getD at' false == c)) = false := by rw [hq]; simp
      have hst : stF (rotF f s) c i = true := stF_iff.2 ⟨by omega, by omega, by rw [hrg]; exact hq, hi3 (by omega)⟩
      have hrun := runF_le (rotF f s) c i
      simp (disch := first | assumption | omega | rfl | simp only [RH]) only [↓RP, RZ, ↓reduceIte, Nat.reduceEqDiff, reduceCtorEq, Nat.reduceBEq, Nat.reduceAdd, Nat.reduceLeDiff, g1, g2, g4, hrem, hq2, effY_b, effY_n, effY_f, effY_l, effY_z, effY_D]
      refine loopK_WW [0, 1, 2, 4, 5, 6, 7, 9] (fun t : Nat => t ≤ runF (rotF f s) c i) (fun t => ⟨[(0, .val yv), (1, .ptr p1 0 3), (2, .ptr p2 0 1), (4, I n), (5, I s), (6, gwW 5 (hs 0).length (mets f c s i).length), (7, I (i + t : Nat)), (9, .ptr ((hs 0).length + 1) 0 5)], hs 0 ++ [goW 81 5 (fls (mtF w a f c s i)), ⟨81, 5, [B w, I a, I at', I t, B false]⟩]⟩) (fun t => n - t) 0 (by omega) (Wk.of_eq kz) ?_
      intro t ht
      obtain ⟨at2, hat2⟩ : ∃ at2 : Nat, at2 = (s + (i + t)) % n := ⟨_, rfl⟩
      have hatn2 : at2 < n := by rw [hat2]; exact Nat.mod_lt _ h0
      have hrem2 : aInt .rem .i64 ((s : Int) + ((i + t : Nat) : Int)) (n : Int) = some (I at2) := by
        rw [show (s : Int) + ((i + t : Nat) : Int) = ((s + (i + t) : Nat) : Int) by omega, hat2]; exact rem_nat h0 (by omega)
      have hrl2 := runF_lt ht
      rw [hrl] at hrl2
      by_cases hx : t < runF (rotF f s) c i
      · obtain ⟨hy1, hy2⟩ := hrl2.1 hx
        have hg2 : f.getD at2 false = c := by rw [← hy2, rotF_get (by omega), hn, ← hat2]
        have hq3 : (f.getD at2 false == c) = true := by rw [hg2]; simp
        simp (disch := first | assumption | omega | rfl | simp only [RH]) only [↓RP, RZ, ↓reduceIte, Nat.reduceEqDiff, reduceCtorEq, Nat.reduceBEq, Nat.reduceAdd, Nat.reduceLeDiff, g1, g2, g4, hrem2, hq3, effY_b, effY_n, effY_f, effY_l, effY_z, effY_D]
        exact ⟨t + 1, by omega, Wk.of_eq rfl, by omega⟩
      · have hap : ∀ ys, aAppend Tryz.prog 77 (hs 0 ++ [goW 81 5 (fls (mtF w a f c s i)), ys]) (gwW 5 (hs 0).length (mets f c s i).length) (.lit 1 [B w, I a, I at', I t, B false]) = some (gwW 5 (hs 0).length ((mets f c s i).length + 1), (hs 0 ++ [goW 81 5 (fls (mtF w a f c s i)), ys]).set (hs 0).length (goW 81 5 (fls (mtF w a f c s i) ++ [B w, I a, I at', I t, B false]))) := fun ys => append_W (by rw [hAt_app0]; rfl) (by rw [fls_length, mtF_len]) rfl rfl (by have := hmi i; omega) (by have := hmi i; omega)
        have hm1 : mets f c s (i + t + 1) = mets f c s i ++ [at'] := by
          have : t = runF (rotF f s) c i := by omega
          rw [this, mets_run hst, hn]; simp only [hereF, ← hat]
        have hm2 : mtF w a f c s (i + t + 1) = mtF w a f c s i ++ [⟨w, a, at', t, false⟩] := by
          have h1 : lenR f c at' = t := by
            have := run_len (f := f) (c := c) (s := s) (r := i) (by omega) hcs (by omega)
            rw [hn] at this
            have h2 : hereF n s i = at' := hat.symm
            rw [h2] at this; omega
          simp only [mtF, hm1, List.map_append, List.map_cons, List.map_nil, flI, h1]
        have hlast : i + t + 1 ≤ n → (rotF f s).getD (i + t + 1 - 1) false ≠ c := fun hle => by
          have : t = runF (rotF f s) c i := by omega
          rw [Nat.add_sub_cancel, this]; exact runF_end (by omega)
        have fin : ∃ y : Nat, (1 ≤ y ∧ y ≤ n + 1 ∧ (y ≤ n → (rotF f s).getD (y - 1) false ≠ c)) ∧ Wk (hs 0) ⟨[(0, .val yv), (1, .ptr p1 0 3), (2, .ptr p2 0 1), (4, I n), (5, I s), (6, gwW 5 (hs 0).length ((mets f c s i).length + 1)), (7, I ((i + t : Nat) + 1))], hs 0 ++ [goW 81 5 (fls (mtF w a f c s i) ++ [B w, I a, I at', I t, B false]), ⟨81, 5, [B w, I a, I at', I t, B false]⟩]⟩ ⟨[(0, .val yv), (1, .ptr p1 0 3), (2, .ptr p2 0 1), (4, I n), (5, I s), (6, gwW 5 (hs 0).length (mets f c s y).length), (7, I y)], hs 0 ++ [goW 81 5 (fls (mtF w a f c s y))]⟩ ∧ n + 1 - y < n + 1 - i := by
          refine ⟨i + t + 1, ⟨by omega, by omega, hlast⟩, (Wk.drop (hb := hs 0) (h1 := hs 0) (gs := [_, _]) 8 [0] rfl (by simp) (by simp) (fun i o ho => .inl ho)).trans (Wk.of_eq ?_), by omega⟩
          rw [hm1, hm2, fls_app, fls_one1]
          have e1 : goW 81 5 (fls (mtF w a f c s i) ++ [B w, I a, I at', I t, B false]) = goW 81 5 (fls (mtF w a f c s i ++ [⟨w, a, at', t, false⟩])) := by rw [fls_app, fls_one1]; rfl
          have e2 : goW 81 5 (fls (mtF w a f c s i) ++ flc ⟨w, a, at', t, false⟩) = goW 81 5 (fls (mtF w a f c s i ++ [⟨w, a, at', t, false⟩])) := by rw [fls_app, fls_one1]
          rw [e1, e2]
          simp only [List.map_cons, List.map_nil, List.getD_cons_zero, renO_goF, List.length_append, List.length_singleton, ren_gwF _ _ _ _ _ (show keepF (hs 0).length [0] (hs 0).length = some (hs 0).length by simp [keepF])]
          simp only [ren, keepF, hm0, if_pos hp1, if_pos hp2]
          rfl
        by_cases hx2 : i + t < n
        · have hg2 : f.getD at2 false ≠ c := fun h => hx (hrl2.2 ⟨hx2, by rw [rotF_get (by omega), hn, ← hat2]; exact h⟩)
          have hq3 : (f.getD at2 false == c) = false := by simpa using hg2
          simp (disch := first | assumption | omega | rfl | simp only [RH]) only [↓RP, RZ, ↓reduceIte, Nat.reduceEqDiff, reduceCtorEq, Nat.reduceBEq, Nat.reduceAdd, Nat.reduceLeDiff, g1, g2, g4, hrem2, hq3, effY_b, effY_n, effY_f, effY_l, effY_z, effY_D, hap]
          exact fin
        · simp (disch := first | assumption | omega | rfl | simp only [RH]) only [↓RP, RZ, ↓reduceIte, Nat.reduceEqDiff, reduceCtorEq, Nat.reduceBEq, Nat.reduceAdd, Nat.reduceLeDiff, g1, g2, g4, hrem2, effY_b, effY_n, effY_f, effY_l, effY_z, effY_D, hap]
          exact fin
    · have hq2 : (!(f.getD at' false == c)) = true := by simpa using hq
      simp (disch := first | assumption | omega | rfl | simp only [RH]) only [↓RP, RZ, ↓reduceIte, Nat.reduceEqDiff, reduceCtorEq, Nat.reduceBEq, Nat.reduceAdd, Nat.reduceLeDiff, g1, g2, g4, hrem, hq2, effY_b, effY_n, effY_f, effY_l, effY_z, effY_D]
      have e1 : mets f c s (i + 1) = mets f c s i := mets_no (by rw [hrg]; exact hq)
      exact ⟨i + 1, ⟨by omega, by omega, fun _ => by rw [Nat.add_sub_cancel, hrg]; exact hq⟩, Wk.of_eq (by rw [show mtF w a f c s (i + 1) = mtF w a f c s i by simp only [mtF, e1], e1]; rfl), by omega⟩
  · have hN : (mets f c s n).length = (sts f c).length := by
      have hnd := mets_nodup (f := f) (c := c) (s := s) (by omega)
      have hnd2 : (sts f c).Nodup := (sts_sorted f c).imp (fun h => by omega)
      rw [← hn]
      exact ((List.perm_ext_iff_of_nodup hnd hnd2).2 fun x => mets_mem (by omega) hcs x).length_eq
    have hov : mets f c s i = mets f c s n := by rw [mets_over (by omega), hn]
    have hov2 : mtF w a f c s i = mtF w a f c s n := by simp only [mtF, hov]
    rw [hov, hov2, hN]
    by_cases hN0 : (sts f c).length = 0
    · have e1 : stL w a f c = [] := List.eq_nil_of_length_eq_zero (by rw [stL_len]; exact hN0)
      rw [hN0, show gwW 5 (hs 0).length 0 = .res (hs 0).length from rfl]
      refine zs ?_
      refine zc (sortF_nil _) ?_
      refine zs ?_
      refine loopK_WW [82, 83] (fun _ : Nat => True) (fun _ => ⟨[(82, I 0), (83, I 0)], hs 0⟩) (fun x => x) 0 trivial ?_ (fun x _ => ?_)
      · simp only [↓RP, RG, FX, RQ, ↓reduceIte, Nat.reduceEqDiff, reduceCtorEq, Nat.reduceBEq, Nat.reduceAdd, Nat.reduceLeDiff]
        exact (Wk.shut (hb := hs 0) (h1 := hs 0) rfl (by rw [hm0]; exact (hsh 0 (by omega)).shut)).trans (Wk.of_eq rfl)
      · refine zs ?_
        exact Wk.refl _ _
    · have hpos : 0 < (sts f c).length := by omega
      have hmp : 0 < (mtF w a f c s n).length := by rw [mtF_len, hN]; exact hpos
      have hsp : 0 < (stL w a f c).length := by rw [stL_len]; exact hpos
      rw [gwW_pos hpos, goF_pos hmp]
      have hso := sortF_s w c a (f := f) (s := s) (h := hs 0 ++ [⟨81, 5, fls (mtF w a f c s n)⟩]) (id := (hs 0).length) (by omega) (by omega) hcs (by rw [hAt_app0, hn]; rfl) hpos
      rw [hSet_app0] at hso
      refine zs ?_
      refine callK_T rfl hso ?_
      have hcA : cA (some ⟨81, 5, fls (stL w a f c)⟩) ((sts f c).length * 5) = some (fls (stL w a f c)) := cA_fls (by rw [stL_len])
      have hNl : (sts f c).length ≤ 1000 := by have := sts_len f c; omega
      refine zx1 @hcA ?_
      refine loopK_WW [0, 81, 82, 83] (fun j : Nat => j ≤ (sts f c).length) (fun j => ⟨[(0, .val yv), (81, .ref (hs 0).length 0 (sts f c).length ((sts f c).length * 5)), (82, I (sts f c).length), (83, I j)], hs j ++ [⟨81, 5, fls (stL w a f c)⟩]⟩) (fun j => (sts f c).length - j) 0 (by omega) (Wk.of_eq kz) ?_
      intro j hj
      by_cases hlt : j < (sts f c).length
      · have hmj : (hs j).length = (hs 0).length := by rw [hm j hj, hm0]
        have hmj1 : (hs (j + 1)).length = (hs 0).length := by rw [hm (j + 1) hlt, hm0]
        have hpx : pX (some (true, 5)) ((fls (stL w a f c)).drop (j * 5)) = some (.agg [B (flD (stL w a f c) j).w, I (flD (stL w a f c) j).a, I (flD (stL w a f c) j).f, I (flD (stL w a f c) j).n, B (flD (stL w a f c) j).z]) := pX_fls (by rw [stL_len]; exact hlt)
        have hgj : (hs j ++ [(⟨81, 5, fls (stL w a f c)⟩ : AObj)])[(hs 0).length]? = some ⟨81, 5, fls (stL w a f c)⟩ := by rw [← hmj, hAt_app0]; rfl
        have hix2 : aIdx Tryz.prog 77 (hs j ++ [(⟨81, 5, fls (stL w a f c)⟩ : AObj)]) (.ref (hs 0).length 0 (sts f c).length ((sts f c).length * 5)) (I j) = some (.ptr (hs 0).length (j * 5) ((sts f c).length * 5)) := by
          rw [idxW_ref (by omega) (by omega), hgj, hcA]; simp
        refine zx4 @hgj @hcA @hpx @hix2 ?_
        refine callK_Y rfl (stepsO_at j hlt rfl (by unfold owF; rw [goF_pos hsp]; rfl) rfl) ?_
        refine zs ?_
        refine ⟨j + 1, hlt, (Wk.drop (hb := hs 0) (h1 := hs (j + 1)) (gs := owF w a f c j ++ ex j) 8 [0] hmj1 (by simp) (by simp [owF]) (fun i o ho => .inr ?_)).trans (Wk.of_eq ?_), by omega⟩
        · exact fun x hx => by rw [hm0]; exact (hsh (j + 1) hlt).2 o (List.mem_of_getElem? ho) x hx [0]
        · have e1 := renO_goF (keepF (hs 0).length [0]) 7 81 5 (stL w a f c)
          simp only [owF, List.map_cons, List.map_nil, List.cons_append, List.getD_cons_zero, e1]
          rw [goF_pos hsp]
          simp [ren, keepF]
      · obtain rfl : (sts f c).length = j := by omega
        refine zs ?_
        exact (Wk.shut (hb := hs 0) (h1 := hs (sts f c).length) (by rw [hm _ (by omega), hm0]) (by rw [hm0]; exact (hsh _ (by omega)).shut)).trans (Wk.of_eq rfl)
end
def thF (w : Bool) (a : Nat) (f : List Bool) (c : Bool) : List Fl := if tw c f = f.length then [flW w a f] else stL w a f c
theorem tw_all {c : Bool} {f : List Bool} (h : tw c f = f.length) : ∀ i, i < f.length → f.getD i false = c := fun i hi => tw_in c f i (by omega)
theorem thF_len (w : Bool) (a : Nat) {f : List Bool} (c : Bool) (h0 : 0 < f.length) : (thF w a f c).length ≤ f.length := by
  unfold thF
  split
  · simp; omega
  · rw [stL_len]; exact sts_len f c
def thK (W H : Nat) (l : List Bool) (c : Bool) (k : Nat) : List Fl := thF (decide (k < W)) (if k < W then k else k - W) (faK W H l k) c
theorem faK_len (W H : Nat) (l : List Bool) (k : Nat) : (faK W H l k).length = if k < W then H else W := by
  unfold faK; split
  · exact faC_len W H l k
  · exact faR_len W l (k - W)
def sdK (W H : Nat) (l : List Bool) (c : Bool) (wt : Fl → Bool) (k : Nat) : List Fl := (List.range k).flatMap fun i => (thK W H l c i).filter wt
theorem sdK_0 (W H : Nat) (l : List Bool) (c : Bool) (wt : Fl → Bool) : sdK W H l c wt 0 = [] := rfl
theorem sdK_succ (W H : Nat) (l : List Bool) (c : Bool) (wt : Fl → Bool) (k : Nat) : sdK W H l c wt (k + 1) = sdK W H l c wt k ++ (thK W H l c k).filter wt := by
  simp [sdK, List.range_succ]
theorem filter_take {xs : List Fl} (wt : Fl → Bool) {j : Nat} (hj : j < xs.length) : (xs.take (j + 1)).filter wt = (xs.take j).filter wt ++ if wt (flD xs j) then [flD xs j] else [] := by
  rw [List.take_add_one, List.getElem?_eq_getElem hj, List.filter_append, flD_get hj]
  simp [List.filter_cons]
theorem sdK_len {W H : Nat} (hW0 : 0 < W) (hH0 : 0 < H) (hW : W ≤ 64) (hH : H ≤ 64) (l : List Bool) (c : Bool) (wt : Fl → Bool) : ∀ k, (sdK W H l c wt k).length ≤ k * 64
  | 0 => by simp [sdK_0]
  | k + 1 => by
    have h1 := sdK_len hW0 hH0 hW hH l c wt k
    have h2 := List.length_filter_le wt (thK W H l c k)
    have hl := faK_len W H l k
    have h3 : (thK W H l c k).length ≤ (faK W H l k).length := thF_len _ _ _ (by rw [hl]; split <;> omega)
    have h4 : (faK W H l k).length ≤ 64 := by rw [hl]; split <;> omega
    rw [sdK_succ, List.length_append]; omega
def ShutB (h : List AObj) : Prop := ∀ o ∈ h, ∀ x ∈ o.cells, ∀ m ks, h.length ≤ m → ren (keepF m ks) 8 x = x
theorem keepF_low {m id : Nat} (ks : List Nat) (h : id < m) : keepF m ks id = some id := by simp [keepF, h]
theorem floatsY_k (c : Bool) {k : Nat} (a m i0 p1 p2 n : Nat) (w : Bool) {f : List Bool} (hf : f.length = n) (hn0 : 0 < n) (hn2 : n ≤ 64) (hi0 : i0 < m) (hp1 : p1 < m) (hp2 : p2 < m) (hs ex : Nat → List AObj) (hsh : ∀ j, j ≤ (thF w a f c).length → ShutA m (hs j))
    (q1 : (hs 0)[p1]? = some ⟨122, 3, [B w, I a, .ref i0 0 n n]⟩) (q2 : (hs 0)[p2]? = some ⟨4, 1, [B c]⟩) (q3 : (hs 0)[i0]? = some ⟨4, 1, bools f⟩) :
    ∃ own, SpecY Tryz.prog 91 (stepsO (thF w a f c).length hs own ex (fun j => flA (flD (thF w a f c) j))) [.ptr p1 0 3, .ptr p2 0 1] (hs 0) (hs (thF w a f c).length) := by
  by_cases hw : tw c f = f.length
  · have e : thF w a f c = [flW w a f] := if_pos hw
    rw [e] at hsh ⊢
    exact ⟨_, floatsY_w hf hn0 (by omega) w c a m i0 p1 p2 hs ex hsh (by rw [← hf]; exact tw_all hw) q1 q2 q3⟩
  · have e : thF w a f c = stL w a f c := if_neg hw
    have hle := tw_le c f
    rw [e] at hsh ⊢
    rw [stL_len] at hsh ⊢
    exact ⟨_, floatsY_s hf hn0 (by omega) w c a m i0 p1 p2 hs ex (s := tw c f) hi0 hp1 hp2 (by omega) (tw_end c f (by omega)) (fun i hi => tw_in c f i hi) hsh q1 q2 q3⟩
def sdH (W H : Nat) (b : Bool) (l : List Bool) (c : Bool) (fw : Nat) (cs : List AVal) (h : List AObj) (ys : List Fl) (r : List AObj) : List AObj :=
  h ++ (⟨24, 3, [I W, I H, BA b l]⟩ :: ⟨4, 1, [B c]⟩ :: ⟨108, 1, [.func (.func fw) [] cs]⟩ :: ⟨77, 1, [gwW 5 (h.length + 4) ys.length]⟩ :: goW 81 5 (fls ys) :: r)
theorem sdH_len (W H : Nat) (b : Bool) (l : List Bool) (c : Bool) (fw : Nat) (cs : List AVal) (h : List AObj) (ys : List Fl) (r : List AObj) : (sdH W H b l c fw cs h ys r).length = h.length + 5 + r.length := by simp [sdH]; omega
theorem sdH_shut (W H : Nat) (b : Bool) (l : List Bool) (c : Bool) (fw : Nat) {cs : List AVal} (hcs : ∀ f, cs.map (ren f 7) = cs) {h : List AObj} (hsh : ShutB h) (ys : List Fl) {r : List AObj} {m : Nat} (hm : m = h.length + 5 + r.length) (hr : ∀ o ∈ r, ∀ x ∈ o.cells, ∀ ks, ren (keepF m ks) 8 x = x) : ShutA m (sdH W H b l c fw cs h ys r) := by
  refine ⟨by rw [sdH_len, hm], fun o ho x hx ks => ?_⟩
  simp only [sdH, List.mem_append, List.mem_cons] at ho
  rcases ho with ho | rfl | rfl | rfl | rfl | rfl | ho
  · exact hsh o ho x hx m ks (by omega)
  · simp only [List.mem_cons, List.not_mem_nil, or_false] at hx
    rcases hx with rfl | rfl | rfl
    · rfl
    · rfl
    · simp only [ren, map_ren_bools]
  · simp only [List.mem_cons, List.not_mem_nil, or_false] at hx
    subst hx; rfl
  · simp only [List.mem_cons, List.not_mem_nil, or_false] at hx
    subst hx
    simp only [ren, hcs, List.map_nil]
  · simp only [List.mem_cons, List.not_mem_nil, or_false] at hx
    subst hx
    exact ren_gwF _ _ _ _ _ (keepF_low ks (by omega))
  · rw [goW_cells] at hx
    exact fls_all (fun x => ren (keepF m ks) 8 x = x) (fun _ => rfl) (fun _ => rfl) _ x hx
  · exact hr o ho x hx ks
section
variable {W H : Nat} (hW0 : 0 < W) (hH0 : 0 < H) (hW : W ≤ 64) (hH : H ≤ 64) (b : Bool) {l : List Bool} (hn : l.length = W * H)
include hW0 hH0 hW hH hn
theorem side_s (c : Bool) (fw : Nat) (cs cs' : List AVal) (wt : Fl → Bool) (hcs : ∀ f, cs.map (ren f 7) = cs) (hca : ∀ h, cs.map (argOf h 6) = cs') (hwt : ∀ x : Fl, Contract Tryz.prog fw (.agg [B x.w, I x.a, I x.f, I x.n, B x.z] :: cs') (B (wt x))) (h : List AObj) (hsh : ShutB h) :
    SpecTo Tryz.prog 68 [GA W H b l, B c, .func (.func fw) [] cs] h (gwW 5 h.length (sdK W H l c wt (W + H)).length) (h ++ [goW 81 5 (fls (sdK W H l c wt (W + H)))]) := by
  refine SpecTo.intro (effS [] false) follows Tryz.func68 rfl rfl (by kernel_rfl) (Nat.le_of_ble_eq_true rfl) ?_
  refine zx2 @parts_func @one_func ?_
  refine callK_F 6 (lines_c W H b l) (by simp (disch := first | assumption | omega | rfl | simp only [RH]) only [↓RP, RZ, ↓reduceIte, Nat.reduceEqDiff, reduceCtorEq, Nat.reduceBEq, Nat.reduceAdd, Nat.reduceLeDiff, RA] <;> rfl) (.inr (by simp [noRef, bools_noRef])) ?_
  refine zs ?_
  refine rangeK_O (s := ⟨[(3, .ptr h.length 0 3), (4, .ptr (h.length + 1) 0 1), (5, .ptr (h.length + 2) 0 1), (7, .ptr (h.length + 3) 0 1), (11, .func (.func 90) [] [.spot true [I W, I H, BA b l]])], sdH W H b l c fw cs h (sdK W H l c wt 0) []⟩) [3, 4, 5, 7, 11] (W + H) (fun k => sdH W H b l c fw cs h (sdK W H l c wt k) []) (lineO (h.length + 5) W H l) (fun k => [⟨122, 3, [B (decide (k < W)), I (if k < W then k else k - W : Nat), .ref (h.length + 6) 0 (if k < W then H else W) (if k < W then H else W)]⟩, ⟨122, 3, [B (decide (k < W)), I (if k < W then k else k - W : Nat), .ref (h.length + 6) 0 (if k < W then H else W) (if k < W then H else W)]⟩, ⟨4, 1, [B c]⟩]) (lineA (h.length + 5) W H l) ?_ rfl rfl (linesF_y hW0 hH0 (by omega) (by omega) true b hn (h.length + 5) _ _ (fun k hk => (sdH_shut W H b l c fw hcs hsh _ rfl (fun o ho => by cases ho)).shut)) ?_ ?_
  · simp only [↓RP, RG, FX, RQ, ↓reduceIte, Nat.reduceEqDiff, reduceCtorEq, Nat.reduceBEq, Nat.reduceAdd, Nat.reduceLeDiff]
    exact Wk.weak (fun t => .refl _) (.app h (.cons _ _ _ _ (WL.refl _) (.cons _ _ _ _ (WL.refl _) (.cons _ _ _ _ (WL.refl _) (.cons _ _ _ _ (.cons (.nil _) .nil) (.nil _ (by simp [sdK_0, fls_nil, goW])))))))
  · intro i hi
    obtain ⟨wk, hwk⟩ : ∃ wk, decide (i < W) = wk := ⟨_, rfl⟩
    obtain ⟨ak, hak⟩ : ∃ ak, (if i < W then i else i - W) = ak := ⟨_, rfl⟩
    obtain ⟨nk, hnk⟩ : ∃ nk, (if i < W then H else W) = nk := ⟨_, rfl⟩
    have hl1 : (faK W H l i).length = nk := by rw [faK_len, hnk]
    have hn0 : 0 < nk := by rw [← hnk]; split <;> omega
    have hn6 : nk ≤ 64 := by rw [← hnk]; split <;> omega
    have hA : lineA (h.length + 5) W H l i = .agg [B wk, I ak, .ref (h.length + 6) 0 nk nk] := by unfold lineA; rw [hwk, hak, hnk]
    have hO : lineO (h.length + 5) W H l i = [⟨122, 3, [B wk, I ak, .ref (h.length + 6) 0 nk nk]⟩, ⟨4, 1, bools (faK W H l i)⟩] := by unfold lineO; rw [hwk, hak, hnk]
    have hT : thK W H l c i = thF wk ak (faK W H l i) c := by unfold thK; rw [hwk, hak]
    simp only [hwk, hak, hnk, hA, hO]
    obtain ⟨rest, hrest⟩ : ∃ rest : List AObj, rest = [⟨122, 3, [B wk, I ak, .ref (h.length + 6) 0 nk nk]⟩, ⟨4, 1, bools (faK W H l i)⟩, ⟨122, 3, [B wk, I ak, .ref (h.length + 6) 0 nk nk]⟩, ⟨122, 3, [B wk, I ak, .ref (h.length + 6) 0 nk nk]⟩, ⟨4, 1, [B c]⟩] := ⟨_, rfl⟩
    obtain ⟨own, hY⟩ := floatsY_k c (k := i) ak (h.length + 10) (h.length + 6) (h.length + 8) (h.length + 9) nk wk hl1 hn0 hn6 (by omega) (by omega) (by omega) (fun j => sdH W H b l c fw cs h (sdK W H l c wt i ++ ((thF wk ak (faK W H l i) c).take j).filter wt) rest) (fun j => [⟨81, 5, flc (flD (thF wk ak (faK W H l i) c) j)⟩]) (fun j hj => sdH_shut W H b l c fw hcs hsh _ (by rw [hrest]; rfl) (fun o ho x hx ks => by
      rw [hrest] at ho
      have hk1 := keepF_low (m := h.length + 10) (id := h.length + 6) ks (by omega)
      simp only [List.mem_cons, List.not_mem_nil, or_false] at ho
      rcases ho with rfl | rfl | rfl | rfl | rfl
      · simp only [List.mem_cons, List.not_mem_nil, or_false] at hx
        rcases hx with rfl | rfl | rfl <;> simp [ren, hk1]
      · simp only [bools, List.mem_map] at hx
        obtain ⟨u, _, rfl⟩ := hx; rfl
      · simp only [List.mem_cons, List.not_mem_nil, or_false] at hx
        rcases hx with rfl | rfl | rfl <;> simp [ren, hk1]
      · simp only [List.mem_cons, List.not_mem_nil, or_false] at hx
        rcases hx with rfl | rfl | rfl <;> simp [ren, hk1]
      · simp only [List.mem_cons, List.not_mem_nil, or_false] at hx
        subst hx; rfl)) (by simp [sdH, hrest]) (by simp [sdH, hrest]) (by simp [sdH, hrest]; try rfl)
    simp (disch := first | assumption | omega | rfl | simp only [RH]) only [↓RP, RZ, ↓reduceIte, Nat.reduceEqDiff, reduceCtorEq, Nat.reduceBEq, Nat.reduceAdd, Nat.reduceLeDiff, sdH]
    refine callK_T rfl (floats_s wk c ak (h.length + 6) nk _) ?_
    refine zs ?_
    refine rangeK_O (s := ⟨[(3, .ptr h.length 0 3), (4, .ptr (h.length + 1) 0 1), (5, .ptr (h.length + 2) 0 1), (7, .ptr (h.length + 3) 0 1), (15, .func (.func 91) [] [.ptr (h.length + 8) 0 3, .ptr (h.length + 9) 0 1])], sdH W H b l c fw cs h (sdK W H l c wt i ++ ((thF wk ak (faK W H l i) c).take 0).filter wt) rest⟩) [3, 4, 5, 7, 15] _ (fun j => sdH W H b l c fw cs h (sdK W H l c wt i ++ ((thF wk ak (faK W H l i) c).take j).filter wt) rest) own _ (fun j => flA (flD (thF wk ak (faK W H l i) c) j)) (Wk.of_eq ?_) rfl rfl hY ?_ ?_
    · simp only [↓RP, RG, FX, RQ, ↓reduceIte, Nat.reduceEqDiff, reduceCtorEq, Nat.reduceBEq, Nat.reduceAdd, Nat.reduceLeDiff]
      simp [sdH, hrest, keepEnv, look]
    · intro j hj
      simp only []
      obtain ⟨ys, hys⟩ : ∃ ys, ys = sdK W H l c wt i ++ ((thF wk ak (faK W H l i) c).take j).filter wt := ⟨_, rfl⟩
      obtain ⟨fx, hfx⟩ : ∃ fx, fx = flD (thF wk ak (faK W H l i) c) j := ⟨_, rfl⟩
      obtain ⟨hh, hhe⟩ : ∃ hh, hh = sdH W H b l c fw cs h ys rest ++ own j := ⟨_, rfl⟩
      rw [← hys, ← hfx, ← hhe]
      have hM : h.length + 10 ≤ hh.length := by rw [hhe, List.length_append, sdH_len, hrest]; simp
      have hyl : ys.length ≤ 100000 := by
        have h1 := sdK_len hW0 hH0 hW hH l c wt i
        have h2 := List.length_filter_le wt ((thF wk ak (faK W H l i) c).take j)
        have h3 := thF_len wk ak (f := faK W H l i) c (by omega)
        rw [List.length_take] at h2
        rw [hys, List.length_append]; omega
      have g5 : ∀ r, (hh ++ r)[h.length + 2]? = some ⟨108, 1, [.func (.func fw) [] cs]⟩ := fun r => by rw [hhe]; simp [sdH]
      have g7 : ∀ r, (hh ++ r)[h.length + 3]? = some ⟨77, 1, [gwW 5 (h.length + 4) ys.length]⟩ := fun r => by rw [hhe]; simp [sdH]
      have g8 : ∀ r, (hh ++ r)[h.length + 4]? = some (goW 81 5 (fls ys)) := fun r => by rw [hhe]; simp [sdH]
      simp (disch := first | assumption | omega | rfl | simp only [RH]) only [↓RP, RZ, ↓reduceIte, Nat.reduceEqDiff, reduceCtorEq, Nat.reduceBEq, Nat.reduceAdd, Nat.reduceLeDiff, flA, flc, g5]
      refine callK_V 6 (hwt fx) (by simp only [List.nil_append, List.map_append, hca]; rfl) (.inl rfl) ?_
      by_cases hw : wt fx = true
      · have hap : aAppend Tryz.prog 77 (hh ++ [(⟨81, 5, [B fx.w, I fx.a, I fx.f, I fx.n, B fx.z]⟩ : AObj)]) (gwW 5 (h.length + 4) ys.length) (.lit 1 [B fx.w, I fx.a, I fx.f, I fx.n, B fx.z]) = some (gwW 5 (h.length + 4) (ys.length + 1), (hh ++ [(⟨81, 5, [B fx.w, I fx.a, I fx.f, I fx.n, B fx.z]⟩ : AObj)]).set (h.length + 4) (goW 81 5 (fls ys ++ [B fx.w, I fx.a, I fx.f, I fx.n, B fx.z]))) := append_W (g8 _) (by rw [fls_length]) rfl rfl (by omega) (by omega)
        have hst7 : ∀ o r, (hh ++ r).set (h.length + 4) o = hh.set (h.length + 4) o ++ r := fun o r => hSet_low _ _ (by omega)
        have hst7b : ∀ o r, (hh.set (h.length + 4) (goW 81 5 (fls ys ++ [B fx.w, I fx.a, I fx.f, I fx.n, B fx.z])) ++ r).set (h.length + 3) o = (hh.set (h.length + 4) (goW 81 5 (fls ys ++ [B fx.w, I fx.a, I fx.f, I fx.n, B fx.z]))).set (h.length + 3) o ++ r := fun o r => hSet_low _ _ (by simp; omega)
        have g7b : ∀ o r, (hh.set (h.length + 4) o ++ r)[h.length + 3]? = some ⟨77, 1, [gwW 5 (h.length + 4) ys.length]⟩ := fun o r => by
          rw [hhe]; simp [sdH]
        simp (disch := first | assumption | omega | rfl | simp only [RH]) only [↓RP, RZ, ↓reduceIte, Nat.reduceEqDiff, reduceCtorEq, Nat.reduceBEq, Nat.reduceAdd, Nat.reduceLeDiff, hw, g7, hap, hst7, g7b, hst7b, parts_gwW, one_gwW]
        refine Wk.of_eq ?_
        rw [filter_take wt hj, ← hfx, hw, hhe]
        have e : fls (ys ++ [fx]) = fls ys ++ [B fx.w, I fx.a, I fx.f, I fx.n, B fx.z] := by rw [fls_app, fls_one1]; rfl
        have e2 : sdK W H l c wt i ++ (((thF wk ak (faK W H l i) c).take j).filter wt ++ [fx]) = ys ++ [fx] := by rw [hys, List.append_assoc]
        rw [if_pos rfl, e2]
        simp [sdH, e, flc, List.set_append, show ¬ h.length + 4 < h.length by omega, show ¬ h.length + 3 < h.length by omega]
      · have hw2 : wt fx = false := by simpa using hw
        refine zx1 @hw2 ?_
        refine Wk.of_eq ?_
        rw [filter_take wt hj, ← hfx, hw2, hhe, hys]
        simp [flc]
    · refine zs ?_
      refine Wk.of_eq ?_
      rw [List.take_length, sdK_succ, hT, hrest]
      simp [sdH]
  · simp (disch := first | assumption | omega | rfl | simp only [RH]) only [↓RP, RZ, ↓reduceIte, Nat.reduceEqDiff, reduceCtorEq, Nat.reduceBEq, Nat.reduceAdd, Nat.reduceLeDiff, sdH]
    refine ⟨_, by rw [resVal_1 rfl]; simp (disch := first | assumption | omega | rfl | simp only [RH]) only [↓RP, RZ, ↓reduceIte, Nat.reduceEqDiff, reduceCtorEq, Nat.reduceBEq, Nat.reduceAdd, Nat.reduceLeDiff, raX_tmp, raX_cell, rvX_0, rvX_1, rvX_2, rvX_3, rvX_4, rvX_5]; rfl, (Wk.drop (hb := h) (h1 := h) (gs := [_, _, _, _, _]) 8 [4] rfl (by simp) (by simp) (fun i o ho => .inl ho)).trans (Wk.of_eq ?_)⟩
    simp only [List.map_cons, List.map_nil, List.getD_cons_zero, List.getD_cons_succ, renO_goF]
    have e1 : ren (keepF h.length [4]) 8 (gwW 5 (h.length + 4) (sdK W H l c wt (W + H)).length) = gwW 5 h.length (sdK W H l c wt (W + H)).length := by
      have e0 : keepF h.length [4] (h.length + 4) = some h.length := by simp [keepF, show ¬ h.length + 4 < h.length by omega]
      unfold gwW; split <;> simp [ren, e0]
    rw [e1]
end
def flV (p : Bool) (xs : List Fl) : AVal := .list p xs.isEmpty xs.length (fls xs)
theorem resOf_gwF {h : List AObj} {n k : Nat} {xs : List Fl} (ho : h[k]? = some (goW 81 5 (fls xs))) : resOf h (n + 2) (gwW 5 k xs.length) = flV true xs := by
  cases xs with
  | nil => rfl
  | cons x r =>
    have e1 := fls_res h n (x :: r)
    have e2 := fls_length (x :: r)
    rw [gwW_pos (by simp)]
    simp only [resOf, ho]
    rw [goF_pos (by simp), if_pos e2]
    simp only [List.drop_zero, flV]
    rw [List.take_of_length_le (by omega), e1]
    rfl
def wl (x : Fl) : Bool := !(x.w == false && ((x.a : Int) == 0 && ((x.f : Int) == 0 && ((x.n : Int) == 0 && x.z == false))))
theorem wl_c (x : Fl) : Contract Tryz.prog 69 [.agg [B x.w, I x.a, I x.f, I x.n, B x.z]] (B (wl x)) := by
  refine zi Tryz.func69 ?_
  simp (disch := first | assumption | omega | rfl | simp only [RH]) only [↓RP, RZ, ↓reduceIte, Nat.reduceEqDiff, reduceCtorEq, Nat.reduceBEq, Nat.reduceAdd, Nat.reduceLeDiff, eqK_bool, eqK_int, eqK_nil, neqKT, Option.map_some]
  refine zr1 ?_
  first | done | rfl
theorem shutB_1 (W H : Nat) (b : Bool) (l : List Bool) : ShutB [⟨24, 3, [I W, I H, BA b l]⟩] := by
  intro o ho x hx m ks hm
  simp only [List.mem_cons, List.not_mem_nil, or_false] at ho
  subst ho
  simp only [List.mem_cons, List.not_mem_nil, or_false] at hx
  rcases hx with rfl | rfl | rfl
  · rfl
  · rfl
  · simp only [ren, map_ren_bools]
section
variable {W H : Nat} (hW0 : 0 < W) (hH0 : 0 < H) (hW : W ≤ 64) (hH : H ≤ 64) (b : Bool) {l : List Bool} (hn : l.length = W * H)
include hW0 hH0 hW hH hn
theorem listP_c (c : Bool) : Contract Tryz.prog 45 [GA W H b l, I (if c then 0 else 1)] (.tuple [flV true (sdK W H l c wl (W + H)), I 0]) := by
  have hz : gchk W H l.length = 0 := gchk_ok ⟨by omega, by omega, by omega, by omega, by rw [hn, Int.natCast_mul]⟩
  have hck := gcheckP_c W H b l
  rw [hz] at hck
  have hsd := side_s hW0 hH0 hW hH b hn c 69 [] [] wl (fun _ => rfl) (fun _ => rfl) wl_c [⟨24, 3, [I W, I H, BA b l]⟩] (shutB_1 W H b l)
  cases c with
  | true =>
    refine zi Tryz.func45 ?_
    refine zx1 @Bool.false_eq_true ?_
    refine zc (hck) ?_
    refine zs ?_
    refine callK_T rfl hsd ?_
    refine zs ?_
    refine zr2 ?_
    rw [resOf_gwF (by rfl)]
  | false =>
    refine zi Tryz.func45 ?_
    refine zx1 @Bool.false_eq_true ?_
    refine zc (hck) ?_
    refine zs ?_
    refine callK_T rfl hsd ?_
    refine zs ?_
    refine zr2 ?_
    rw [resOf_gwF (by rfl)]
end
def lgF (xs : List Fl) : Nat → Nat
  | 0 => 0
  | i + 1 => max (lgF xs i) (flD xs i).n
theorem longestP_c (w h : Int) (b : Bool) (l : List Bool) (s e : Int) {xs : List Fl} (hx : xs.length ≤ 100000) (hl : Contract Tryz.prog 45 [GA w h b l, I s] (.tuple [flV true xs, I e])) : Contract Tryz.prog 21 [GA w h b l, I s] (.tuple [I (lgF xs xs.length), I e]) := by
  refine zi Tryz.func21 ?_
  refine zs ?_
  refine callK_F 6 hl (by simp (disch := first | assumption | omega | rfl | simp only [RH]) only [↓RP, RZ, ↓reduceIte, Nat.reduceEqDiff, reduceCtorEq, Nat.reduceBEq, Nat.reduceAdd, Nat.reduceLeDiff, RA] <;> rfl) (.inl (by simp [flV, allFresh, fls_fresh])) ?_
  simp (disch := first | assumption | omega | rfl | simp only [RH]) only [↓RP, RZ, ↓reduceIte, Nat.reduceEqDiff, reduceCtorEq, Nat.reduceBEq, Nat.reduceAdd, Nat.reduceLeDiff, flV]
  refine loopK_WW [7, 8, 17, 18, 19] (fun i : Nat => i ≤ xs.length) (fun i => ⟨[(7, I e), (8, I (lgF xs i)), (17, .list true xs.isEmpty xs.length (fls xs)), (18, I xs.length), (19, I i)], [⟨24, 3, [I w, I h, BA b l]⟩]⟩) (fun i => xs.length - i) 0 (by omega) (Wk.of_eq kz) ?_
  intro i hi
  by_cases hlt : i < xs.length
  · have hpx : pX (some (true, 5)) ((fls xs).drop (i * 5)) = some (.agg [B (flD xs i).w, I (flD xs i).a, I (flD xs i).f, I (flD xs i).n, B (flD xs i).z]) := pX_fls hlt
    refine zx1 @hpx ?_
    have hm : max ((lgF xs i : Nat) : Int) ((flD xs i).n : Int) = ((lgF xs (i + 1) : Nat) : Int) := by
      show _ = ((max (lgF xs i) (flD xs i).n : Nat) : Int); omega
    rw [hm]
    exact ⟨i + 1, by omega, (Wk.drop (hb := []) (h1 := []) (gs := [_, _]) 8 [0] rfl (by simp) (by simp) (by simp)).trans (Wk.of_eq (by simp only [RK, List.idxOf?_cons, List.idxOf?_nil, Nat.reduceBEq, Option.map_some, Option.map_none, List.map_cons, List.map_nil, List.getD_cons_zero, List.getD_cons_succ, Bool.false_eq_true, ↓reduceIte, Nat.add_zero, List.append_nil, map_ren_bools, map_ren_fls]; rfl)), by omega⟩
  · obtain rfl : xs.length = i := by omega
    refine zs ?_
    exact zq2
    first | done | rfl
section
variable {W H : Nat} (hW0 : 0 < W) (hH0 : 0 < H) (hW : W ≤ 64) (hH : H ≤ 64) (b : Bool) {l : List Bool} (hn : l.length = W * H)
include hW0 hH0 hW hH hn
end
theorem tw_of_all {c : Bool} {f : List Bool} (h : ∀ i, i < f.length → f.getD i false = c) : tw c f = f.length := by
  refine Classical.byContradiction fun hne => ?_
  have hle := tw_le c f
  exact tw_end c f (by omega) (h _ (by omega))
def alK (W H : Nat) (l : List Bool) (c : Bool) (k : Nat) : List Fl := (List.range k).flatMap (thK W H l c)
theorem alK_succ (W H : Nat) (l : List Bool) (c : Bool) (k : Nat) : alK W H l c (k + 1) = alK W H l c k ++ thK W H l c k := by simp [alK, List.range_succ]
theorem sdK_filter (W H : Nat) (l : List Bool) (c : Bool) (wt : Fl → Bool) (k : Nat) : sdK W H l c wt k = (alK W H l c k).filter wt := by
  induction k with
  | zero => rfl
  | succ k ih => rw [sdK_succ, alK_succ, List.filter_append, ih]
theorem thF_pos {w : Bool} {a : Nat} {f : List Bool} {c : Bool} (h0 : 0 < f.length) : ∀ x ∈ thF w a f c, 0 < x.n := by
  intro x hx
  unfold thF at hx
  split at hx
  · simp only [List.mem_singleton] at hx; subst hx; exact h0
  · simp only [stL, List.mem_map] at hx
    obtain ⟨i, hi, rfl⟩ := hx
    obtain ⟨h1, h2⟩ := sts_mem.1 hi
    unfold stR at h2
    simp only [Bool.and_eq_true, beq_iff_eq] at h2
    exact lenR_pos h1 h2.1
theorem wl_pos {x : Fl} (h : 0 < x.n) : wl x = true := by
  have : ((x.n : Int) == 0) = false := by simpa using (by omega : ¬ x.n = 0)
  unfold wl; rw [this]; simp
theorem alK_pos {W H : Nat} (hW0 : 0 < W) (hH0 : 0 < H) (l : List Bool) (c : Bool) (k : Nat) : ∀ x ∈ alK W H l c k, 0 < x.n := by
  intro x hx
  rw [alK, List.mem_flatMap] at hx
  obtain ⟨i, _, hi⟩ := hx
  exact thF_pos (by rw [faK_len]; split <;> omega) x hi
theorem sdK_all {W H : Nat} (hW0 : 0 < W) (hH0 : 0 < H) (l : List Bool) (c : Bool) (k : Nat) : sdK W H l c wl k = alK W H l c k := by
  rw [sdK_filter, List.filter_eq_self]
  exact fun x hx => wl_pos (alK_pos hW0 hH0 l c k x hx)
theorem alK_len {W H : Nat} (hW0 : 0 < W) (hH0 : 0 < H) (hW : W ≤ 64) (hH : H ≤ 64) (l : List Bool) (c : Bool) (k : Nat) : (alK W H l c k).length ≤ k * 64 := by
  rw [← sdK_all hW0 hH0]; exact sdK_len hW0 hH0 hW hH l c wl k
theorem thK_c {W k : Nat} (H : Nat) (l : List Bool) (c : Bool) (h : k < W) : thK W H l c k = thF true k (faC W H l k) c := by
  unfold thK faK; rw [decide_eq_true h, if_pos h, if_pos h]
theorem thK_r (W H : Nat) (l : List Bool) (c : Bool) (y : Nat) : thK W H l c (W + y) = thF false y (faR W l y) c := by
  unfold thK faK; rw [decide_eq_false (by omega), if_neg (by omega), if_neg (by omega), Nat.add_sub_cancel_left]
section
variable {W H : Nat} (hW0 : 0 < W) (hH0 : 0 < H) (hW : W ≤ 64) (hH : H ≤ 64) (b : Bool) {l : List Bool} (hn : l.length = W * H)
include hW0 hH0 hW hH hn
end
section
variable {W H : Nat} (hW0 : 0 < W) (hH0 : 0 < H) (hW : W ≤ 64) (hH : H ≤ 64) (b : Bool) {l : List Bool} (hn : l.length = W * H)
include hW0 hH0 hW hH hn
end
theorem fm_congr {α β : Type} {f g : α → List β} {l : List α} (h : ∀ a ∈ l, f a = g a) : l.flatMap f = l.flatMap g := by
  rw [List.flatMap_def, List.flatMap_def, List.map_congr_left h]
theorem alK_split (W H : Nat) (l : List Bool) (c : Bool) : alK W H l c (W + H) = ((List.range W).flatMap fun x => thF true x (faC W H l x) c) ++ (List.range H).flatMap fun y => thF false y (faR W l y) c := by
  unfold alK
  rw [List.range_add, List.flatMap_append]
  congr 1
  · exact fm_congr fun x hx => thK_c H l c (List.mem_range.1 hx)
  · rw [List.flatMap_map]
    exact fm_congr fun y hy => thK_r W H l c y
def arM (a n : Int) : Int := if a.tmod n < 0 then a.tmod n + n else a.tmod n
theorem arM_bd (a : Int) {n : Int} (hn : 0 < n) : 0 ≤ arM a n ∧ arM a n < n := by
  have h1 := Int.tmod_lt_of_pos a hn
  have h2 : -n < a.tmod n := by
    have := Int.tmod_lt_of_pos (-a) hn
    rw [Int.neg_tmod] at this
    omega
  unfold arM
  split <;> omega
theorem arM_q (a n : Int) : ∃ q, arM a n = a - n * q := by
  have h := Int.tmod_add_mul_tdiv a n
  unfold arM
  split
  · exact ⟨a.tdiv n - 1, by rw [Int.mul_sub, Int.mul_one]; omega⟩
  · exact ⟨a.tdiv n, by omega⟩
def shN (d : Int) (n x : Nat) : Nat := (arM ((x : Int) - d) n).toNat
theorem shN_lt {d : Int} {n : Nat} (hn : 0 < n) (x : Nat) : shN d n x < n := by
  have := arM_bd ((x : Int) - d) (n := n) (by omega)
  unfold shN; omega
def uS (W H : Nat) (l : List Bool) (φ ψ : Nat → Nat) (x y : Nat) : Bool := l.getD (W * ψ y + φ x) false
theorem pvF_mod {f : List Bool} {i : Nat} (hi : i < f.length) : pvF f i = f.getD ((i + (f.length - 1)) % f.length) false := by
  unfold pvF
  split
  · rename_i h; subst h; rw [Nat.zero_add, Nat.mod_eq_of_lt (by omega)]
  · rw [show i + (f.length - 1) = (i - 1) + f.length by omega, Nat.add_mod_right, Nat.mod_eq_of_lt (by omega)]
theorem rot_back {n s i : Nat} (hi : i < n) : ∃ j, j < n ∧ (s + j) % n = i := by
  refine ⟨thereF n (s % n) i, there_lt (by omega), ?_⟩
  have := here_there (n := n) (s := s % n) (i := i) (Nat.mod_lt _ (by omega)) hi
  unfold hereF at this
  rw [Nat.mod_add_mod] at this
  exact this
theorem whole_iff {f : List Bool} {c : Bool} : tw c f = f.length ↔ ∀ i, i < f.length → f.getD i false = c := ⟨tw_all, tw_of_all⟩
theorem arM_emod (a : Int) {n : Int} (hn : 0 < n) : arM a n = a % n := by
  obtain ⟨q, hq⟩ := arM_q a n
  have hb := arM_bd a hn
  have : a = arM a n + n * q := by omega
  conv => rhs; rw [this]
  rw [Int.add_mul_emod_self_left, Int.emod_eq_of_lt hb.1 hb.2]
theorem ext_getD {a b : List Bool} (h : a.length = b.length) (e : ∀ i, i < a.length → a.getD i false = b.getD i false) : a = b := by
  apply List.ext_getElem h
  intro i h1 h2
  have := e i h1
  rwa [List.getD_eq_getElem?_getD, List.getD_eq_getElem?_getD, List.getElem?_eq_getElem h1, List.getElem?_eq_getElem h2] at this
theorem getD_take {a : List Bool} {n i : Nat} (h : i < n) : (a.take n).getD i false = a.getD i false := by
  rw [List.getD_eq_getElem?_getD, List.getD_eq_getElem?_getD, List.getElem?_take, if_pos h]
theorem getD_drp {a : List Bool} {n i : Nat} : (a.drop n).getD i false = a.getD (n + i) false := by
  rw [List.getD_eq_getElem?_getD, List.getD_eq_getElem?_getD, List.getElem?_drop]
def rowL (W : Nat) (l : List Bool) (q : Nat) : List Bool := (l.drop (W * q)).take W
theorem rowL_len {W H : Nat} {l : List Bool} (hn : l.length = W * H) {q : Nat} (hq : q < H) : (rowL W l q).length = W := by
  have h1 : W * q + W ≤ W * H := by
    have := Nat.mul_le_mul_left W (show q + 1 ≤ H by omega)
    rwa [Nat.mul_succ] at this
  unfold rowL
  rw [List.length_take, List.length_drop]; omega
theorem rowL_get {W : Nat} {l : List Bool} {q x : Nat} (hx : x < W) : (rowL W l q).getD x false = l.getD (W * q + x) false := by
  unfold rowL; rw [getD_take hx, getD_drp]
theorem row_turn {W d : Nat} (hd : d < W) {a b : List Bool} (ha : a.length = W) (hb : b.length = W) : (a.drop d = b.take (W - d) ∧ a.take d = b.drop (W - d)) ↔ ∀ x, x < W → a.getD ((x + d) % W) false = b.getD x false := by
  constructor
  · rintro ⟨h1, h2⟩ x hx
    by_cases h : x < W - d
    · rw [Nat.mod_eq_of_lt (by omega), Nat.add_comm, ← getD_drp, h1, getD_take h]
    · have e : (x + d) % W = x + d - W := by rw [Nat.mod_eq_sub_mod (by omega), Nat.mod_eq_of_lt (by omega)]
      have e2 : x = (W - d) + (x + d - W) := by omega
      rw [e, ← getD_take (a := a) (n := d) (show x + d - W < d by omega), h2, getD_drp, ← e2]
  · intro h
    constructor
    · refine ext_getD (by rw [List.length_drop, List.length_take]; omega) fun i hi => ?_
      rw [List.length_drop, ha] at hi
      rw [getD_drp, getD_take hi, ← h i (by omega), Nat.mod_eq_of_lt (by omega), Nat.add_comm]
    · refine ext_getD (by rw [List.length_drop, List.length_take]; omega) fun i hi => ?_
      rw [List.length_take] at hi
      rw [getD_take (by omega), getD_drp, ← h (W - d + i) (by omega), show W - d + i + d = i + W by omega, Nat.add_mod_right, Nat.mod_eq_of_lt (by omega)]
theorem rep_rows {W H : Nat} (hW0 : 0 < W) (hH0 : 0 < H) (l : List Bool) (dx dy : Int) : Rep (pln W H l) dx dy ↔ ∀ y, y < H → ∀ x, x < W → (rowL W l ((y + (dy % (H : Int)).toNat) % H)).getD ((x + (dx % (W : Int)).toNat) % W) false = (rowL W l y).getD x false := by
  have bx1 := Int.emod_nonneg dx (show (W : Int) ≠ 0 by omega)
  have by1 := Int.emod_nonneg dy (show (H : Int) ≠ 0 by omega)
  have key : ∀ x y : Nat, x < W → y < H → ((rowL W l ((y + (dy % (H : Int)).toNat) % H)).getD ((x + (dx % (W : Int)).toNat) % W) false = pln W H l (x + dx) (y + dy)) := fun x y hx hy => by
    rw [rowL_get (Nat.mod_lt _ hW0)]
    unfold pln
    have e1 : (((y : Int) + dy) % (H : Int)).toNat = (y + (dy % (H : Int)).toNat) % H := by
      have : (((y + (dy % (H : Int)).toNat) % H : Nat) : Int) = ((y : Int) + dy) % (H : Int) := by
        rw [Int.natCast_emod, Int.natCast_add, Int.toNat_of_nonneg by1, Int.add_emod_emod]
      omega
    have e2 : (((x : Int) + dx) % (W : Int)).toNat = (x + (dx % (W : Int)).toNat) % W := by
      have : (((x + (dx % (W : Int)).toNat) % W : Nat) : Int) = ((x : Int) + dx) % (W : Int) := by
        rw [Int.natCast_emod, Int.natCast_add, Int.toNat_of_nonneg bx1, Int.add_emod_emod]
      omega
    rw [e1, e2]
  constructor
  · intro h y hy x hx
    rw [key x y hx hy, h, rowL_get hx, pln_get l hx hy]
  · intro h x y
    have a1 := Int.emod_nonneg x (show (W : Int) ≠ 0 by omega)
    have a2 := Int.emod_lt_of_pos x (show (0 : Int) < W by omega)
    have c1 := Int.emod_nonneg y (show (H : Int) ≠ 0 by omega)
    have c2 := Int.emod_lt_of_pos y (show (0 : Int) < H by omega)
    have hx1 : (x % (W : Int)).toNat < W := by omega
    have hy1 : (y % (H : Int)).toNat < H := by omega
    have h1 := h (y % (H : Int)).toNat hy1 (x % (W : Int)).toNat hx1
    rw [key _ _ hx1 hy1, rowL_get hx1, ← pln_get l hx1 hy1, Int.toNat_of_nonneg a1, Int.toNat_of_nonneg c1, (pln_perX W H l).mod x, (pln_perY W H l).mod x y] at h1
    rw [← h1, ← (pln_perX W H l).mod (x % (W : Int) + dx), Int.emod_add_emod, (pln_perX W H l).mod, ← (pln_perY W H l).mod _ (y % (H : Int) + dy), Int.emod_add_emod, (pln_perY W H l).mod]
theorem rep_self (W H : Nat) (l : List Bool) : Rep (pln W H l) W 0 ∧ Rep (pln W H l) 0 H := ⟨rep_perX.2 (pln_perX W H l), rep_perY.2 (pln_perY W H l)⟩
theorem lat_some {W H : Nat} (hW0 : 0 < W) (hH0 : 0 < H) (l : List Bool) : ∃ A B C N : Nat, Lat (pln W H l) A B C ∧ A ≤ W ∧ C ≤ H ∧ (∀ b, b < B → ¬ Rep (pln W H l) b C) ∧ (∀ a : Nat, 0 < a → a < A → ¬ Rep (pln W H l) a 0) ∧ 0 < N ∧ N ≤ A ∧ N * B % A = 0 ∧ ∀ n, 0 < n → n < N → n * B % A ≠ 0 := by
  classical
  have first : ∀ (p : Nat → Prop) (n : Nat), p n → ∃ m, m ≤ n ∧ p m ∧ ∀ k, k < m → ¬ p k := by
    intro p n
    induction n using Nat.strongRecOn with
    | ind n ih =>
      intro hp
      by_cases h : ∃ k, k < n ∧ p k
      · obtain ⟨k, hk, hpk⟩ := h
        obtain ⟨m, h1, h2, h3⟩ := ih k hk hpk
        exact ⟨m, by omega, h2, h3⟩
      · exact ⟨n, Nat.le_refl _, hp, fun k hk hpk => h ⟨k, hk, hpk⟩⟩
  obtain ⟨A, hA1, ⟨hA0, hA⟩, hAm⟩ := first (fun a => 0 < a ∧ Rep (pln W H l) a 0) W ⟨hW0, (rep_self W H l).1⟩
  obtain ⟨C, hC1, ⟨hC0, B0, hB0, hC⟩, hCm⟩ := first (fun c => 0 < c ∧ ∃ b : Nat, b < A ∧ Rep (pln W H l) b c) H ⟨hH0, 0, hA0, (rep_self W H l).2⟩
  obtain ⟨B, hB1, hB, hBm⟩ := first (fun b => Rep (pln W H l) b C) B0 hC
  obtain ⟨N, hN1, ⟨hN0, hN⟩, hNm⟩ := first (fun n => 0 < n ∧ n * B % A = 0) A ⟨hA0, by rw [Nat.mul_mod_right]⟩
  refine ⟨A, B, C, N, ⟨hA0, hC0, by omega, hA, hB, fun v h0 hv => ?_, fun c h0 hc b hb hr => hCm c hc ⟨h0, b, hb, hr⟩⟩, hA1, hC1, hBm, fun a h0 ha hr => hAm a ha ⟨h0, hr⟩, hN0, hN1, hN, fun n h0 hn he => hNm n hn ⟨h0, he⟩⟩
  exact Nat.le_of_not_lt fun hlt => hAm v hlt ⟨h0, hv⟩
def lexL : List Bool → List Bool → Bool
  | a :: at1, b :: bs => if a = b then lexL at1 bs else b
  | _, _ => false
theorem lexL_irrefl : ∀ l : List Bool, lexL l l = false
  | [] => rfl
  | a :: at1 => by unfold lexL; rw [if_pos rfl]; exact lexL_irrefl at1
theorem lexL_trans : ∀ a b c : List Bool, lexL a b = true → lexL b c = true → lexL a c = true
  | [], _, _, h, _ => by unfold lexL at h; cases h
  | _ :: _, [], _, h, _ => by unfold lexL at h; cases h
  | _ :: _, _ :: _, [], _, h => by unfold lexL at h; cases h
  | a :: at1, b :: bs, c :: cs, h1, h2 => by
    unfold lexL at h1 h2 ⊢
    by_cases e1 : a = b
    · subst e1
      rw [if_pos rfl] at h1
      by_cases e2 : a = c
      · rw [if_pos e2] at h2 ⊢; exact lexL_trans at1 bs cs h1 h2
      · rw [if_neg e2] at h2 ⊢; exact h2
    · rw [if_neg e1] at h1
      by_cases e2 : b = c
      · subst e2; rw [if_neg e1]; exact h1
      · rw [if_neg e2] at h2
        subst h1 h2
        exact absurd rfl e2
theorem lexL_total : ∀ a b : List Bool, a.length = b.length → lexL a b = false → lexL b a = false → a = b
  | [], [], _, _, _ => rfl
  | [], _ :: _, h, _, _ => by simp at h
  | _ :: _, [], h, _, _ => by simp at h
  | a :: at1, b :: bs, h, h1, h2 => by
    unfold lexL at h1 h2
    by_cases e : a = b
    · subst e
      rw [if_pos rfl] at h1 h2
      rw [lexL_total at1 bs (by simpa using h) h1 h2]
    · rw [if_neg e] at h1
      rw [if_neg (fun e' => e e'.symm)] at h2
      exact absurd (by rw [h1, h2]) e
theorem lexL_at : ∀ (a b : List Bool) (i : Nat), a.length = b.length → i < a.length → (∀ j, j < i → a.getD j false = b.getD j false) → a.getD i false ≠ b.getD i false → lexL a b = b.getD i false
  | [], _, i, _, h, _, _ => by simp at h
  | _ :: _, [], _, h, _, _, _ => by simp at h
  | a :: at1, b :: bs, 0, _, _, _, hne => by
    unfold lexL
    rw [if_neg (by simpa using hne)]; rfl
  | a :: at1, b :: bs, i + 1, hl, hi, hall, hne => by
    have h0 := hall 0 (by omega)
    simp only [List.getD_cons_zero] at h0
    unfold lexL
    rw [if_pos h0, lexL_at at1 bs i (by simpa using hl) (by simpa using hi) (fun j hj => by have := hall (j + 1) (by omega); simpa using this) (by simpa using hne)]
    simp
def bfr (w h : Nat) (l : List Bool) (w' h' : Nat) (l' : List Bool) : Bool := if w ≠ w' then decide (w < w') else if h ≠ h' then decide (h < h') else lexL l l'
theorem bfr_irrefl (w h : Nat) (l : List Bool) : bfr w h l w h l = false := by
  unfold bfr; rw [if_neg (by simp), if_neg (by simp)]; exact lexL_irrefl l
theorem bfr_trans {w h w' h' w'' h'' : Nat} {l l' l'' : List Bool} (h1 : bfr w h l w' h' l' = true) (h2 : bfr w' h' l' w'' h'' l'' = true) : bfr w h l w'' h'' l'' = true := by
  unfold bfr at *
  by_cases a1 : w = w'
  · rw [if_neg (by simpa using a1)] at h1
    by_cases b1 : w' = w''
    · rw [if_neg (by simpa using b1)] at h2
      rw [if_neg (by simpa using a1.trans b1)]
      by_cases a2 : h = h'
      · rw [if_neg (by simpa using a2)] at h1
        by_cases b2 : h' = h''
        · rw [if_neg (by simpa using b2)] at h2
          rw [if_neg (by simpa using a2.trans b2)]
          exact lexL_trans _ _ _ h1 h2
        · rw [if_pos b2] at h2
          rw [if_pos (by rw [a2]; exact b2), a2]; exact h2
      · rw [if_pos a2] at h1
        have := of_decide_eq_true h1
        by_cases b2 : h' = h''
        · rw [if_pos (by omega)]; exact decide_eq_true (by omega)
        · rw [if_pos b2] at h2
          have := of_decide_eq_true h2
          rw [if_pos (by omega)]; exact decide_eq_true (by omega)
    · rw [if_pos b1] at h2
      rw [if_pos (by rw [a1]; exact b1), a1]; exact h2
  · rw [if_pos a1] at h1
    have := of_decide_eq_true h1
    by_cases b1 : w' = w''
    · rw [if_pos (by omega)]; exact decide_eq_true (by omega)
    · rw [if_pos b1] at h2
      have := of_decide_eq_true h2
      rw [if_pos (by omega)]; exact decide_eq_true (by omega)
theorem bfr_total {w h w' h' : Nat} {l l' : List Bool} (hl : l.length = w * h) (hl' : l'.length = w' * h') (h1 : bfr w h l w' h' l' = false) (h2 : bfr w' h' l' w h l = false) : w = w' ∧ h = h' ∧ l = l' := by
  unfold bfr at h1 h2
  by_cases a1 : w = w'
  · rw [if_neg (by simpa using a1)] at h1
    rw [if_neg (by simpa using a1.symm)] at h2
    by_cases a2 : h = h'
    · rw [if_neg (by simpa using a2)] at h1
      rw [if_neg (by simpa using a2.symm)] at h2
      exact ⟨a1, a2, lexL_total _ _ (by rw [hl, hl', a1, a2]) h1 h2⟩
    · rw [if_pos a2] at h1
      rw [if_pos (fun e => a2 e.symm)] at h2
      have := of_decide_eq_false h1
      have := of_decide_eq_false h2
      omega
  · rw [if_pos a1] at h1
    rw [if_pos (fun e => a1 e.symm)] at h2
    have := of_decide_eq_false h1
    have := of_decide_eq_false h2
    omega
structure Bf where
  u : Nat
  v : Nat
  f : List Bool
  o : Nat
section
variable (u v : Nat → Nat) (fm : Nat → Nat → Nat → List Bool)
def stpB (o y x : Nat) (b : Bf) : Bf := if bfr (u o) (v o) (fm o x y) b.u b.v b.f then ⟨u o, v o, fm o x y, o⟩ else b
def sX (o y : Nat) : Nat → Bf → Bf
  | 0, b => b
  | x + 1, b => stpB u v fm o y x (sX o y x b)
def sY (o : Nat) : Nat → Bf → Bf
  | 0, b => b
  | y + 1, b => sX u v fm o y (u o) (sY o y b)
def sO (b0 : Bf) : Nat → Bf
  | 0 => b0
  | o + 1 => sY u v fm o (v o) (sO b0 o)
variable {u v fm}
def NoB (b : Bf) (S : Nat → Nat → Nat → Prop) : Prop := ∀ o x y, S o x y → bfr (u o) (v o) (fm o x y) b.u b.v b.f = false
theorem stp_no {o y x : Nat} {b : Bf} {S : Nat → Nat → Nat → Prop} (h : NoB (u := u) (v := v) (fm := fm) b S) : NoB (u := u) (v := v) (fm := fm) (stpB u v fm o y x b) fun o' x' y' => S o' x' y' ∨ (o' = o ∧ x' = x ∧ y' = y) := by
  unfold stpB
  cases hb : bfr (u o) (v o) (fm o x y) b.u b.v b.f with
  | true =>
    rw [if_pos rfl]
    rintro o' x' y' (hs | ⟨rfl, rfl, rfl⟩)
    · have h1 := h o' x' y' hs
      cases h2 : bfr (u o') (v o') (fm o' x' y') (u o) (v o) (fm o x y) with
      | false => rfl
      | true => rw [bfr_trans h2 hb] at h1; cases h1
    · exact bfr_irrefl _ _ _
  | false =>
    rw [if_neg (by simp)]
    rintro o' x' y' (hs | ⟨rfl, rfl, rfl⟩)
    · exact h o' x' y' hs
    · exact hb
theorem sX_no {o y : Nat} {b : Bf} {S : Nat → Nat → Nat → Prop} (h : NoB (u := u) (v := v) (fm := fm) b S) : ∀ x, NoB (u := u) (v := v) (fm := fm) (sX u v fm o y x b) fun o' x' y' => S o' x' y' ∨ (o' = o ∧ x' < x ∧ y' = y)
  | 0 => fun o' x' y' hs => h o' x' y' (hs.resolve_right (by omega))
  | x + 1 => fun o' x' y' hs => by
    refine stp_no (sX_no h x) o' x' y' ?_
    rcases hs with hs | ⟨h1, h2, h3⟩
    · exact .inl (.inl hs)
    · by_cases e : x' = x
      · exact .inr ⟨h1, e, h3⟩
      · exact .inl (.inr ⟨h1, by omega, h3⟩)
theorem sY_no {o : Nat} {b : Bf} {S : Nat → Nat → Nat → Prop} (h : NoB (u := u) (v := v) (fm := fm) b S) : ∀ y, NoB (u := u) (v := v) (fm := fm) (sY u v fm o y b) fun o' x' y' => S o' x' y' ∨ (o' = o ∧ x' < u o ∧ y' < y)
  | 0 => fun o' x' y' hs => h o' x' y' (hs.resolve_right (by omega))
  | y + 1 => fun o' x' y' hs => by
    refine sX_no (sY_no h y) (u o) o' x' y' ?_
    rcases hs with hs | ⟨h1, h2, h3⟩
    · exact .inl (.inl hs)
    · by_cases e : y' = y
      · exact .inr ⟨h1, h2, e⟩
      · exact .inl (.inr ⟨h1, h2, by omega⟩)
theorem sO_no (b0 : Bf) : ∀ n, NoB (u := u) (v := v) (fm := fm) (sO u v fm b0 n) fun o' x' y' => o' < n ∧ x' < u o' ∧ y' < v o'
  | 0 => fun o' x' y' hs => by omega
  | n + 1 => fun o' x' y' hs => by
    refine sY_no (sO_no b0 n) (v n) o' x' y' ?_
    by_cases e : o' = n
    · subst e; exact .inr ⟨rfl, hs.2⟩
    · exact .inl ⟨by omega, hs.2⟩
theorem sO_all {p : Bf → Prop} {b0 : Bf} (h0 : p b0) {n : Nat} (h : ∀ o x y, o < n → x < u o → y < v o → p ⟨u o, v o, fm o x y, o⟩) : p (sO u v fm b0 n) := by
  have hX : ∀ o y b, o < n → y < v o → p b → ∀ x, x ≤ u o → p (sX u v fm o y x b) := by
    intro o y b ho hy hb x
    induction x with
    | zero => intro _; exact hb
    | succ x ih =>
      intro hx
      unfold sX stpB
      split
      · exact h o x y ho (by omega) hy
      · exact ih (by omega)
  have hY : ∀ o b, o < n → p b → ∀ y, y ≤ v o → p (sY u v fm o y b) := by
    intro o b ho hb y
    induction y with
    | zero => intro _; exact hb
    | succ y ih => intro hy; exact hX o y _ ho (by omega) (ih (by omega)) _ (Nat.le_refl _)
  have hO : ∀ m, m ≤ n → p (sO u v fm b0 m) := by
    intro m
    induction m with
    | zero => intro _; exact h0
    | succ m ih => intro hm; exact hY m _ (by omega) (ih (by omega)) _ (Nat.le_refl _)
  exact hO n (Nat.le_refl _)
end
theorem pmod_c (a : Int) {n : Nat} (hn : 0 < n) (hn64 : n ≤ 1000) : Contract Tryz.prog 65 [I a, I n] (I (a % (n : Int))) := by
  have hb := arM_bd a (n := n) (by omega)
  have h1 := Int.tmod_lt_of_pos a (show (0 : Int) < n by omega)
  have hr : aInt .rem .i64 a (n : Int) = some (.val (.int .i64 (a.tmod n))) := by
    simp only [aInt]; rw [if_neg (by omega)]
  rw [← arM_emod a (by omega)]
  by_cases c : a.tmod n < 0
  · have e : arM a n = a.tmod n + n := by unfold arM; rw [if_pos c]
    rw [e] at hb
    rw [e]
    generalize a.tmod n = r at *
    refine zi Tryz.func65 ?_
    refine zx1 @hr ?_
    exact zq1
    first | done | rfl
  · have e : arM a n = a.tmod n := by unfold arM; rw [if_neg c]
    rw [e]
    generalize a.tmod n = r at *
    refine zi Tryz.func65 ?_
    refine zx1 @hr ?_
    exact zq1
    first | done | rfl
section
variable {P : Program} {t e nb : Nat} {z : Value} {h : List AObj}
theorem slice_3L [S : SlT P t e nb z] {p b : Bool} {n : Nat} {cs : List AVal} {k k' k'' : IntKind} {lo hi mx : Int} (h0 : 0 ≤ lo) (h1 : lo ≤ hi) (h2 : hi ≤ mx) (h3 : mx ≤ n) (h4 : mx ≠ 0) :
    aSlice P t h (.list p b n cs) (some (.val (.int k lo))) (some (.val (.int k' hi))) (some (.val (.int k'' mx))) = some (.list p b (hi - lo).toNat ((cs.drop lo.toNat).take (hi - lo).toNat)) := by
  obtain ⟨⟨T, hT, hTe⟩, E, hE, g1, g2, g3, g4⟩ := S
  simp only [aSlice, hT, hTe, hE, sview, optInt, g1, Nat.mul_one]
  rw [if_pos ⟨h0, h1, h2, h3⟩, if_neg h4]
end
theorem aCut_list {P : Program} {t : TypeId} {h : List AObj} {p b : Bool} {n : Nat} {cs : List AVal} {lo hi mx : Option AVal} : aCut P t h (.list p b n cs) lo hi mx = none := by
  unfold aCut
  repeat' split
  all_goals first | rfl | contradiction
section
variable {W H : Nat} (hW0 : 0 < W) (hH0 : 0 < H) (hW : W ≤ 64) (hH : H ≤ 64) (b : Bool) {l : List Bool} (hn : l.length = W * H)
include hW0 hH0 hW hH hn
theorem row_c (y : Int) : Contract Tryz.prog 67 [GA W H b l, I y] (.list false b W (bools (rowL W l (y % (H : Int)).toNat))) := by
  have hm := pmod_c y hH0 (by omega)
  have b1 := Int.emod_nonneg y (show (H : Int) ≠ 0 by omega)
  have b2 := Int.emod_lt_of_pos y (show (0 : Int) < H by omega)
  obtain ⟨q, hq⟩ : ∃ q : Nat, y % (H : Int) = q := ⟨(y % (H : Int)).toNat, by omega⟩
  rw [hq] at hm b2 ⊢
  rw [Int.toNat_natCast]
  have hqH : q < H := by omega
  have hWH : W * H ≤ 64 * 64 := Nat.mul_le_mul hW hH
  have h1 : W * q + W ≤ W * H := by
    have := Nat.mul_le_mul_left W (show q + 1 ≤ H by omega)
    rwa [Nat.mul_succ] at this
  have m1 : (q : Int) * (W : Int) = ((W * q : Nat) : Int) := by rw [Int.natCast_mul, Int.mul_comm]
  have m2 : ((q : Int) + 1) * (W : Int) = ((W * q + W : Nat) : Int) := by rw [Int.add_mul, m1]; omega
  have hs : ∀ h : List AObj, aSlice Tryz.prog 22 h (.list false b l.length (bools l)) (some (I ((W * q : Nat) : Int))) (some (I ((W * q + W : Nat) : Int))) (some (I ((W * q + W : Nat) : Int))) = some (.list false b W (bools (rowL W l q))) := fun h => by
    rw [slice_3L (e := 4) (by omega) (by omega) (by omega) (by omega) (by omega), show (((W * q + W : Nat) : Int) - ((W * q : Nat) : Int)).toNat = W by omega, Int.toNat_natCast, bools_drop, bools_take]; rfl
  have hl2 : l.length = W * H := hn
  refine zi Tryz.func67 ?_
  refine zs ?_
  refine zc (hm) ?_
  refine zx5 @m1 @m2 @hs @aCut_list @cutB_none ?_
  exact zq1
  first | done | rfl
end
theorem turned_c {W d : Nat} (hd : d < W) (hW : W ≤ 64) (b1 b2 : Bool) {x y : List Bool} (hx : x.length = W) (hy : y.length = W) (r : Bool) (hr : r = true ↔ ∀ i, i < W → x.getD ((i + d) % W) false = y.getD i false) : Contract Tryz.prog 66 [.list false b1 W (bools x), .list false b2 W (bools y), I d] (B r) := by
  have l1 : (x.drop d).length = W - d := by rw [List.length_drop]; omega
  have l2 : (y.take (W - d)).length = W - d := by rw [List.length_take]; omega
  have l3 : (x.take d).length = d := by rw [List.length_take]; omega
  have l4 : (y.drop (W - d)).length = d := by rw [List.length_drop]; omega
  have q1 : Contract Tryz.prog 81 [.list false b1 (W - d) (bools (x.drop d)), .list false b2 (W - d) (bools (y.take (W - d)))] (B (decide (x.drop d = y.take (W - d)))) := by
    have := equalB_c b1 b2 (x.drop d) (y.take (W - d)) (by omega)
    rwa [show BA b1 (x.drop d) = .list false b1 (x.drop d).length (bools (x.drop d)) from rfl, show BA b2 (y.take (W - d)) = .list false b2 (y.take (W - d)).length (bools (y.take (W - d))) from rfl, l1, l2] at this
  have q2 : Contract Tryz.prog 81 [.list false b1 d (bools (x.take d)), .list false b2 d (bools (y.drop (W - d)))] (B (decide (x.take d = y.drop (W - d)))) := by
    have := equalB_c b1 b2 (x.take d) (y.drop (W - d)) (by omega)
    rwa [show BA b1 (x.take d) = .list false b1 (x.take d).length (bools (x.take d)) from rfl, show BA b2 (y.drop (W - d)) = .list false b2 (y.drop (W - d)).length (bools (y.drop (W - d))) from rfl, l3, l4] at this
  have e0 : ((W : Int) - (d : Int)) = ((W - d : Nat) : Int) := by omega
  have s1 : ∀ h : List AObj, aSlice Tryz.prog 22 h (.list false b1 W (bools x)) (some (I d)) none none = some (.list false b1 (W - d) (bools (x.drop d))) := fun h => by
    rw [slice_loL (e := 4) (by omega) (by omega), show ((W : Int) - (d : Int)).toNat = W - d by omega, Int.toNat_natCast, bools_drop, bools_take, List.take_of_length_le (by omega)]
  have s2 : ∀ h : List AObj, aSlice Tryz.prog 22 h (.list false b2 W (bools y)) none (some (I ((W - d : Nat) : Int))) none = some (.list false b2 (W - d) (bools (y.take (W - d)))) := fun h => by
    rw [slice_hiL (e := 4) (by omega) (by omega), Int.toNat_natCast, bools_take]
  have s3 : ∀ h : List AObj, aSlice Tryz.prog 22 h (.list false b1 W (bools x)) none (some (I d)) none = some (.list false b1 d (bools (x.take d))) := fun h => by
    rw [slice_hiL (e := 4) (by omega) (by omega), Int.toNat_natCast, bools_take]
  have s4 : ∀ h : List AObj, aSlice Tryz.prog 22 h (.list false b2 W (bools y)) (some (I ((W - d : Nat) : Int))) none none = some (.list false b2 d (bools (y.drop (W - d)))) := fun h => by
    rw [slice_loL (e := 4) (by omega) (by omega), show ((W : Int) - ((W - d : Nat) : Int)).toNat = d by omega, Int.toNat_natCast, bools_drop, bools_take, List.take_of_length_le (by omega)]
  rw [← row_turn hd hx hy] at hr
  by_cases c1 : x.drop d = y.take (W - d)
  · rw [decide_eq_true c1] at q1
    by_cases c2 : x.take d = y.drop (W - d)
    · rw [decide_eq_true c2] at q2
      obtain rfl := hr.2 ⟨c1, c2⟩
      refine zi Tryz.func66 ?_
      refine zx5 @e0 @s1 @s2 @s3 @s4 ?_
      refine zc q1 ?_
      refine zx5 @e0 @s1 @s2 @s3 @s4 ?_
      refine zc q2 ?_
      refine zs ?_
      exact zq1
    · rw [decide_eq_false c2] at q2
      obtain rfl : r = false := by cases r with | false => rfl | true => exact absurd (hr.1 rfl).2 c2
      refine zi Tryz.func66 ?_
      refine zx5 @e0 @s1 @s2 @s3 @s4 ?_
      refine zc q1 ?_
      refine zx5 @e0 @s1 @s2 @s3 @s4 ?_
      refine zc q2 ?_
      refine zs ?_
      exact zq1
  · rw [decide_eq_false c1] at q1
    obtain rfl : r = false := by cases r with | false => rfl | true => exact absurd (hr.1 rfl).1 c1
    refine zi Tryz.func66 ?_
    refine zx5 @e0 @s1 @s2 @s3 @s4 ?_
    refine zc q1 ?_
    refine zs ?_
    exact zq1
section
variable {W H : Nat} (hW0 : 0 < W) (hH0 : 0 < H) (hW : W ≤ 64) (hH : H ≤ 64) (b : Bool) {l : List Bool} (hn : l.length = W * H)
include hW0 hH0 hW hH hn
theorem repeats_c (dx dy : Int) (r : Bool) (hr : r = true ↔ Rep (pln W H l) dx dy) : Contract Tryz.prog 44 [GA W H b l, I dx, I dy] (B r) := by
  classical
  rw [rep_rows hW0 hH0] at hr
  have hmx := pmod_c dx hW0 (by omega)
  have hmy := pmod_c dy hH0 (by omega)
  have bx1 := Int.emod_nonneg dx (show (W : Int) ≠ 0 by omega)
  have bx2 := Int.emod_lt_of_pos dx (show (0 : Int) < W by omega)
  have by1 := Int.emod_nonneg dy (show (H : Int) ≠ 0 by omega)
  have by2 := Int.emod_lt_of_pos dy (show (0 : Int) < H by omega)
  obtain ⟨d, hd⟩ : ∃ d : Nat, dx % (W : Int) = d := ⟨(dx % (W : Int)).toNat, by omega⟩
  obtain ⟨q, hq⟩ : ∃ q : Nat, dy % (H : Int) = q := ⟨(dy % (H : Int)).toNat, by omega⟩
  rw [hd, hq, Int.toNat_natCast, Int.toNat_natCast] at hr
  rw [hd] at hmx bx2
  rw [hq] at hmy by2
  have hrow := fun y => row_c hW0 hH0 hW hH b hn y
  have ht : ∀ y : Nat, y < H → Contract Tryz.prog 66 [.list false b W (bools (rowL W l ((y + q) % H))), .list false b W (bools (rowL W l y)), I d] (B (decide (∀ x, x < W → (rowL W l ((y + q) % H)).getD ((x + d) % W) false = (rowL W l y).getD x false))) := fun y hy =>
    turned_c (by omega) hW b b (rowL_len hn (Nat.mod_lt _ hH0)) (rowL_len hn hy) _ decide_eq_true_iff
  refine zi Tryz.func44 ?_
  refine zs ?_
  refine zc (hmx) ?_
  refine zs ?_
  refine loopK_I [1, 2, 3, 13, 14] (fun y : Nat => y ≤ H ∧ ∀ y', y' < y → ∀ x, x < W → (rowL W l ((y' + q) % H)).getD ((x + d) % W) false = (rowL W l y').getD x false) (fun y => ⟨[(1, I d), (2, I dy), (3, .ptr 0 0 3), (13, I H), (14, I y)], [⟨24, 3, [I W, I H, BA b l]⟩]⟩) (fun y => H - y) 0 ⟨by omega, fun y' hy => by omega⟩ kz ?_
  rintro y ⟨hy, hall⟩
  by_cases hlt : y < H
  · have hr1 := hrow (((y + q : Nat) : Int))
    have hr2 := hrow (y : Int)
    rw [← Int.natCast_emod, Int.toNat_natCast] at hr1 hr2
    rw [Nat.mod_eq_of_lt hlt] at hr2
    have hty := ht y hlt
    have e1 : (y : Int) + (q : Int) = ((y + q : Nat) : Int) := by omega
    by_cases hok : ∀ x, x < W → (rowL W l ((y + q) % H)).getD ((x + d) % W) false = (rowL W l y).getD x false
    · rw [decide_eq_true hok] at hty
      refine zs ?_
      refine zc (hmy) ?_
      refine zx1 @e1 ?_
      refine callK_F 6 hr1 (by simp (disch := first | assumption | omega | rfl | simp only [RH]) only [↓RP, RZ, ↓reduceIte, Nat.reduceEqDiff, reduceCtorEq, Nat.reduceBEq, Nat.reduceAdd, Nat.reduceLeDiff, RA] <;> rfl) (.inr (by simp [noRef, bools_noRef])) ?_
      refine zs ?_
      refine callK_F 6 hr2 (by simp (disch := first | assumption | omega | rfl | simp only [RH]) only [↓RP, RZ, ↓reduceIte, Nat.reduceEqDiff, reduceCtorEq, Nat.reduceBEq, Nat.reduceAdd, Nat.reduceLeDiff, RA] <;> rfl) (.inr (by simp [noRef, bools_noRef])) ?_
      refine zs ?_
      refine zc hty ?_
      refine zs ?_
      refine ⟨y + 1, ⟨hlt, fun y' hy' => ?_⟩, rfl, by omega⟩
      by_cases e : y' = y
      · rw [e]; exact hok
      · exact hall y' (by omega)
    · rw [decide_eq_false hok] at hty
      obtain rfl : r = false := by cases r with | false => rfl | true => exact absurd (hr.1 rfl y hlt) hok
      refine zs ?_
      refine zc (hmy) ?_
      refine zx1 @e1 ?_
      refine callK_F 6 hr1 (by simp (disch := first | assumption | omega | rfl | simp only [RH]) only [↓RP, RZ, ↓reduceIte, Nat.reduceEqDiff, reduceCtorEq, Nat.reduceBEq, Nat.reduceAdd, Nat.reduceLeDiff, RA] <;> rfl) (.inr (by simp [noRef, bools_noRef])) ?_
      refine zs ?_
      refine callK_F 6 hr2 (by simp (disch := first | assumption | omega | rfl | simp only [RH]) only [↓RP, RZ, ↓reduceIte, Nat.reduceEqDiff, reduceCtorEq, Nat.reduceBEq, Nat.reduceAdd, Nat.reduceLeDiff, RA] <;> rfl) (.inr (by simp [noRef, bools_noRef])) ?_
      refine zs ?_
      refine zc hty ?_
      refine zs ?_
      exact zq1
  · obtain rfl : H = y := by omega
    obtain rfl := hr.2 hall
    refine zs ?_
    exact zq1
theorem of_c {A B C : Nat} (L : Lat (pln W H l) A B C) (hA : A ≤ W) (hC : C ≤ H) (hb : ∀ v, v < B → ¬ Rep (pln W H l) v C) (ha : ∀ v : Nat, 0 < v → v < A → ¬ Rep (pln W H l) v 0) : Contract Tryz.prog 20 [GA W H b l] (.tuple [.agg [I A, I B, I C], I 0]) := by
  classical
  have hz : gchk W H l.length = 0 := gchk_ok ⟨by omega, by omega, by omega, by omega, by rw [hn, Int.natCast_mul]⟩
  have hck := gcheckP_c W H b l
  rw [hz] at hck
  have hrp := fun dx dy r hr => repeats_c hW0 hH0 hW hH b hn dx dy r hr
  have c0 := L.c0
  have a0 := L.a0
  have bA := L.bA
  have y1 := hrp A 0 true ⟨fun _ => L.ra, fun _ => rfl⟩
  have y2 := hrp B C true ⟨fun _ => L.rc, fun _ => rfl⟩
  refine zi Tryz.func20 ?_
  refine zs ?_
  refine zc (hck) ?_
  refine zs ?_
  refine loopK_I [1, 2, 3, 5] (fun a : Nat => 1 ≤ a ∧ a ≤ A) (fun a => ⟨[(1, .ptr 0 0 3), (2, .ptr 1 0 3), (3, I 0), (5, .ptr 2 0 3)], [⟨24, 3, [I W, I H, BA b l]⟩, ⟨55, 3, [I 0, I 0, I 0]⟩, ⟨55, 3, [I a, I 0, I 0]⟩]⟩) (fun a => A - a) 1 ⟨by omega, by omega⟩ kz ?_
  rintro a ⟨h1, h2⟩
  by_cases hlt : a < A
  · have y0 := hrp a 0 false ⟨fun h => (by cases h), fun h => absurd h (ha a h1 hlt)⟩
    refine zs ?_
    refine zc (y0) ?_
    refine zs ?_
    exact ⟨a + 1, ⟨by omega, by omega⟩, rfl, by omega⟩
  obtain rfl : A = a := by omega
  refine zs ?_
  refine zc (y1) ?_
  refine zs ?_
  refine loopK_I [1, 2, 3, 5] (fun c : Nat => 1 ≤ c ∧ c ≤ C) (fun c => ⟨[(1, .ptr 0 0 3), (2, .ptr 1 0 3), (3, I 0), (5, .ptr 2 0 3)], [⟨24, 3, [I W, I H, BA b l]⟩, ⟨55, 3, [I 0, I 0, I 0]⟩, ⟨55, 3, [I A, I (if c = 1 then 0 else (A : Int) - 1), I c]⟩]⟩) (fun c => C - c) 1 ⟨by omega, by omega⟩ kz ?_
  rintro c ⟨g1, g2⟩
  generalize (if c = 1 then 0 else (A : Int) - 1) = B0 at *
  refine zs ?_
  refine loopK_I [1, 2, 3, 5, 33, 34] (fun v : Nat => v ≤ A ∧ (c = C → v ≤ B)) (fun v => ⟨[(1, .ptr 0 0 3), (2, .ptr 1 0 3), (3, I 0), (5, .ptr 2 0 3), (33, I A), (34, I v)], [⟨24, 3, [I W, I H, BA b l]⟩, ⟨55, 3, [I 0, I 0, I 0]⟩, ⟨55, 3, [I A, I (if v = 0 then B0 else (v : Int) - 1), I c]⟩]⟩) (fun v => A - v) 0 ⟨by omega, fun _ => by omega⟩ kz ?_
  rintro v ⟨k1, k2⟩
  have hB1 : v = A → (if v = 0 then B0 else (v : Int) - 1) = (A : Int) - 1 := fun e => by rw [if_neg (by omega), e]
  generalize (if v = 0 then B0 else (v : Int) - 1) = B1 at *
  by_cases hvA : v < A
  · by_cases hcC : c = C
    · subst hcC
      have k3 := k2 rfl
      by_cases hvB : v = B
      · subst hvB
        refine zs ?_
        refine zc (y2) ?_
        refine zs ?_
        exact zq2
      · have y0 := hrp v c false ⟨fun h => (by cases h), fun h => absurd h (hb v (by omega))⟩
        refine zs ?_
        refine zc (y0) ?_
        refine zs ?_
        exact ⟨v + 1, ⟨by omega, fun _ => by omega⟩, by rw [if_neg (by omega)]; simp, by omega⟩
    · have y0 := hrp v c false ⟨fun h => (by cases h), fun h => absurd h (L.mc c (by omega) (by omega) v hvA)⟩
      refine zs ?_
      refine zc (y0) ?_
      refine zs ?_
      exact ⟨v + 1, ⟨by omega, fun e => absurd e hcC⟩, by rw [if_neg (by omega)]; simp, by omega⟩
  · obtain rfl : A = v := by omega
    have hcC : c ≠ C := fun e => by have := k2 e; omega
    have hB1 := hB1 rfl
    refine zs ?_
    exact ⟨c + 1, ⟨by omega, by omega⟩, by rw [if_neg (by omega), hB1]; rfl, by omega⟩
end
theorem around_c (a : Int) {n : Nat} (hn : 0 < n) (hn64 : n ≤ 1000) : Contract Tryz.prog 28 [I a, I n] (I (arM a n)) := by
  have hb := arM_bd a (n := n) (by omega)
  have h1 := Int.tmod_lt_of_pos a (show (0 : Int) < n by omega)
  have hr : aInt .rem .i64 a (n : Int) = some (.val (.int .i64 (a.tmod n))) := by
    simp only [aInt]; rw [if_neg (by omega)]
  by_cases c : a.tmod n < 0
  · have e : arM a n = a.tmod n + n := by unfold arM; rw [if_pos c]
    rw [e] at hb
    rw [e]
    generalize a.tmod n = r at *
    refine zi Tryz.func28 ?_
    refine zx1 @hr ?_
    exact zq1
    first | done | rfl
  · have e : arM a n = a.tmod n := by unfold arM; rw [if_neg c]
    rw [e]
    generalize a.tmod n = r at *
    refine zi Tryz.func28 ?_
    refine zx1 @hr ?_
    exact zq1
    first | done | rfl
section
variable {W H : Nat} (hW0 : 0 < W) (hH0 : 0 < H) (hW : W ≤ 64) (hH : H ≤ 64) (b : Bool) {l : List Bool} (hn : l.length = W * H)
include hW0 hH0 hW hH hn
theorem shiftF_c {dx dy : Int} (d1 : 0 ≤ dx ∧ dx < W) (d2 : 0 ≤ dy ∧ dy < H) {x y : Nat} (hx : x < W) (hy : y < H) :
    Contract Tryz.prog 30 [I x, I y, .spot false [I W, I H, BA b l], .spot false [I dy], .spot false [I dx]] (B (uS W H l (shN dx W) (shN dy H) x y)) := by
  have a1 := around_c ((x : Int) - dx) hW0 (by omega)
  have a2 := around_c ((y : Int) - dy) hH0 (by omega)
  have s1 := shN_lt (d := dx) hW0 x
  have s2 := shN_lt (d := dy) hH0 y
  have b1 := arM_bd ((x : Int) - dx) (n := W) (by omega)
  have b2 := arM_bd ((y : Int) - dy) (n := H) (by omega)
  have e1 : arM ((x : Int) - dx) W = (shN dx W x : Int) := by unfold shN; omega
  have e2 : arM ((y : Int) - dy) H = (shN dy H y : Int) := by unfold shN; omega
  rw [e1] at a1
  rw [e2] at a2
  unfold uS
  generalize shN dx W x = p at *
  generalize shN dy H y = q at *
  have hil := idx_lt s1 s2
  have hWH : W * H ≤ 64 * 64 := Nat.mul_le_mul hW hH
  have m1 : (q : Int) * (W : Int) = ((W * q : Nat) : Int) := by rw [Int.natCast_mul, Int.mul_comm]
  have m2 : ((W * q : Nat) : Int) + (p : Int) = ((W * q + p : Nat) : Int) := by omega
  refine zi Tryz.func30 ?_
  refine zs ?_
  refine zc (a2) ?_
  refine zs ?_
  refine zc (a1) ?_
  refine zx2 @m1 @m2 ?_
  exact zq1
  first | done | rfl
theorem shiftP_c (dx dy : Int) : Contract Tryz.prog 8 [GA W H b l, I dx, I dy] (.tuple [GR W H false (tabN W (uS W H l (shN (arM dx W) W) (shN (arM dy H) H)) (W * H)), I 0]) := by
  have hz : gchk W H l.length = 0 := gchk_ok ⟨by omega, by omega, by omega, by omega, by rw [hn, Int.natCast_mul]⟩
  have hck := gcheckP_c W H b l
  rw [hz] at hck
  have a1 := around_c dx hW0 (by omega)
  have a2 := around_c dy hH0 (by omega)
  have b1 := arM_bd dx (n := W) (by omega)
  have b2 := arM_bd dy (n := H) (by omega)
  have hF := fun x y hx hy => shiftF_c hW0 hH0 hW hH b hn b1 b2 (x := x) (y := y) hx hy
  generalize arM dx W = ex at *
  generalize arM dy H = ey at *
  refine zi Tryz.func8 ?_
  refine zs ?_
  refine zc (hck) ?_
  refine zs ?_
  refine zc (a1) ?_
  refine zs ?_
  refine zc (a2) ?_
  refine zs ?_
  refine zc (build_c 30 [.spot false [I W, I H, BA b l], .spot false [I ey], .spot false [I ex]] W H (uS W H l (shN ex W) (shN ey H)) (by omega) (by omega) (fun r => by simp [argOf]; exact bools_arg l r 3) hF) ?_
  refine zs ?_
  exact zq2
  first | done | rfl
end
theorem rem_int2 {a b : Int} (h0 : 0 ≤ a) (h1 : 0 < b) : aInt .rem .i64 a b = some (.val (.int .i64 ((a.toNat % b.toNat : Nat) : Int))) := rem_int .i64 h0 h1
theorem quo_int2 {a b : Int} (h0 : 0 ≤ a) (h1 : 0 < b) (h2 : a ≤ 9223372036854775807) : aInt .quo .i64 a b = some (.val (.int .i64 ((a.toNat / b.toNat : Nat) : Int))) := quo_int h0 h1 h2
section
variable {W H : Nat} (hW0 : 0 < W) (hH0 : 0 < H) (hW : W ≤ 64) (hH : H ≤ 64) (b : Bool) {l : List Bool} (hn : l.length = W * H)
include hW0 hH0 hW hH hn
end
section
variable {W H : Nat} (hW0 : 0 < W) (hH0 : 0 < H) (hW : W ≤ 64) (hH : H ≤ 64) (b : Bool) {l : List Bool} (hn : l.length = W * H)
include hW0 hH0 hW hH hn
theorem rect_c : ∃ w h : Nat, MinPer (pln W H l) w h ∧ w ≤ W ∧ h ≤ H ∧ Contract Tryz.prog 10 [GA W H b l] (.tuple [I w, I h, I 0]) := by
  obtain ⟨A, B, C, N, L, hA, hC, hb, ha, hN0, hNA, hNd, hNm⟩ := lat_some hW0 hH0 l
  have hm := L.minper hN0 hNd hNm
  have hof := of_c hW0 hH0 hW hH b hn L hA hC hb ha
  have hBA := L.bA
  have hA0 := L.a0
  have hh : N * C ≤ H := hm.my H hH0 (pln_perY W H l)
  refine ⟨A, N * C, hm, hA, hh, ?_⟩
  have m2 : (N : Int) * (C : Int) = ((N * C : Nat) : Int) := by rw [Int.natCast_mul]
  refine zi Tryz.func10 ?_
  refine zs ?_
  refine zc (hof) ?_
  refine zs ?_
  refine loopK_I [1, 4, 5, 6] (fun n : Nat => 1 ≤ n ∧ n ≤ N) (fun n => ⟨[(1, .ptr 0 0 3), (4, I 0), (5, .ptr 1 0 3), (6, I n)], [⟨24, 3, [I W, I H, BA b l]⟩, ⟨55, 3, [I A, I B, I C]⟩]⟩) (fun n => N - n) 1 ⟨by omega, by omega⟩ kz ?_
  rintro n ⟨h1, h2⟩
  have hnb : n * B ≤ 64 * 64 := Nat.mul_le_mul (by omega) (by omega)
  have m1 : (n : Int) * (B : Int) = ((n * B : Nat) : Int) := by rw [Int.natCast_mul]
  have hr := rem_int2 (a := ((n * B : Nat) : Int)) (b := (A : Int)) (by omega) (by omega)
  rw [Int.toNat_natCast, Int.toNat_natCast] at hr
  by_cases hlt : n < N
  · have hne := hNm n h1 hlt
    generalize n * B % A = r at *
    refine zx2 @m1 @hr ?_
    exact ⟨n + 1, ⟨by omega, by omega⟩, rfl, by omega⟩
  · obtain rfl : N = n := by omega
    rw [hNd] at hr
    refine zx2 @m1 @hr ?_
    refine zx1 @m2 ?_
    exact zq3
theorem gpart_c {w h : Nat} (hw0 : 0 < w) (hh0 : 0 < h) (hwW : w ≤ W) (hhH : h ≤ H) : Contract Tryz.prog 11 [GA W H b l, I 0, I 0, I w, I h] (.tuple [GR w h false (win (pln W H l) 0 0 w h), I 0]) := by
  have hz : gchk W H l.length = 0 := gchk_ok ⟨by omega, by omega, by omega, by omega, by rw [hn, Int.natCast_mul]⟩
  have hck := gcheckP_c W H b l
  rw [hz] at hck
  have hWH : W * H ≤ 64 * 64 := Nat.mul_le_mul hW hH
  have hF : ∀ x y : Nat, x < w → y < h → Contract Tryz.prog 33 ([I x, I y] ++ [.spot false [I W, I H, BA b l], .spot false [I 0], .spot false [I 0]]) (B (pln W H l (0 + (x : Int)) (0 + (y : Int)))) := fun x y hx hy => by
    have hi := idx_lt (show x < W by omega) (show y < H by omega)
    rw [Int.zero_add, Int.zero_add, pln_get l (by omega) (by omega)]
    have m1 : (y : Int) * (W : Int) = ((W * y : Nat) : Int) := by rw [Int.natCast_mul, Int.mul_comm]
    have m2 : ((W * y : Nat) : Int) + (x : Int) = ((W * y + x : Nat) : Int) := by omega
    refine zi Tryz.func33 ?_
    simp (disch := first | assumption | omega | rfl | simp only [RH]) only [↓RP, RZ, ↓reduceIte, Nat.reduceEqDiff, reduceCtorEq, Nat.reduceBEq, Nat.reduceAdd, Nat.reduceLeDiff, List.cons_append, List.nil_append, Int.zero_add, Int.add_zero, m1, m2]
    exact zq1
    first | done | rfl
  refine zi Tryz.func11 ?_
  refine zs ?_
  refine zc (hck) ?_
  refine zs ?_
  refine zc (build_c 33 [.spot false [I W, I H, BA b l], .spot false [I 0], .spot false [I 0]] w h (fun x y => pln W H l (0 + (x : Int)) (0 + (y : Int))) (by omega) (by omega) (fun r => by simp [argOf]; exact bools_arg l r 3) hF) ?_
  refine zs ?_
  refine zr2 ?_
  first | done | rfl
end
theorem pln_nat (W H : Nat) (l : List Bool) (x y : Nat) : pln W H l x y = l.getD (W * (y % H) + x % W) false := by
  unfold pln
  rw [← Int.natCast_emod, ← Int.natCast_emod, Int.toNat_natCast, Int.toNat_natCast]
section
variable {W H : Nat} (hW0 : 0 < W) (hH0 : 0 < H) (hW : W ≤ 64) (hH : H ≤ 64) (b : Bool) {l : List Bool} (hn : l.length = W * H)
include hW0 hH0 hW hH hn
theorem window_c {x0 y0 w h : Nat} (hx0 : x0 ≤ 1000) (hy0 : y0 ≤ 1000) (hw0 : 0 < w) (hh0 : 0 < h) (hw : w ≤ 64) (hh : h ≤ 64) : Contract Tryz.prog 31 [GA W H b l, I x0, I y0, I w, I h] (GR w h false (win (pln W H l) x0 y0 w h)) := by
  have hWH : W * H ≤ 64 * 64 := Nat.mul_le_mul hW hH
  show Contract _ _ _ (GR w h false (tabN w (fun i k => pln W H l ((x0 : Int) + i) ((y0 : Int) + k)) (w * h)))
  obtain ⟨u, hu⟩ : ∃ u : Nat → Nat → Bool, u = fun i k : Nat => pln W H l ((x0 : Int) + i) ((y0 : Int) + k) := ⟨_, rfl⟩
  have hug : ∀ i k : Nat, u i k = l.getD (W * ((y0 + k) % H) + (x0 + i) % W) false := fun i k => by
    rw [hu]
    show pln W H l ((x0 : Int) + (i : Int)) ((y0 : Int) + (k : Int)) = _
    rw [← Int.natCast_add, ← Int.natCast_add, pln_nat]
  rw [← hu]
  clear hu
  have hpos := tabN_pos hw0 hh0 u
  refine zi Tryz.func31 ?_
  refine zs ?_
  refine loopK_W [1, 2, 3, 4, 5, 10, 11, 17, 18] (fun y : Nat => y ≤ h) (fun y => ⟨[(1, I x0), (2, I y0), (3, I w), (4, I h), (5, .ptr 0 0 3), (10, .ptr 1 0 3), (11, .ptr 2 0 3), (17, I h), (18, I y)], [⟨24, 3, [I W, I H, BA b l]⟩, ⟨24, 3, [I 0, I 0, .cap0 true]⟩, ⟨24, 3, [I w, I h, gw true 3 (bools (tabN w u (w * y)))]⟩, go 4 (bools (tabN w u (w * y)))]⟩) (fun y => h - y) 0 (by omega) ?_ ?_
  · simp only [↓RP, RG, FX, RQ, ↓reduceIte, Nat.reduceEqDiff, reduceCtorEq, Nat.reduceBEq, Nat.reduceAdd, Nat.reduceLeDiff]
    exact Wk.weak (fun t => .refl _) (.cons _ _ _ _ (WL.refl _) (.cons _ _ _ _ (WL.refl _) (.cons _ _ _ _ (.cons (.refl _) (.cons (.refl _) (.cons (.nil _) .nil))) (.nil _ (by simp [go, bools, tabN])))))
  intro y hy
  by_cases hy2 : y < h
  · refine zs ?_
    refine loopK_I [1, 2, 3, 4, 5, 10, 11, 12, 17, 18, 21, 22] (fun x : Nat => x ≤ w) (fun x => ⟨[(1, I x0), (2, I y0), (3, I w), (4, I h), (5, .ptr 0 0 3), (10, .ptr 1 0 3), (11, .ptr 2 0 3), (12, I y), (17, I h), (18, I y), (21, I w), (22, I x)], [⟨24, 3, [I W, I H, BA b l]⟩, ⟨24, 3, [I 0, I 0, .cap0 true]⟩, ⟨24, 3, [I w, I h, gw true 3 (bools (tabN w u (w * y + x)))]⟩, go 4 (bools (tabN w u (w * y + x)))]⟩) (fun x => w - x) 0 (by omega) (by simp only [↓RP, RG, FX, RQ, ↓reduceIte, Nat.reduceEqDiff, reduceCtorEq, Nat.reduceBEq, Nat.reduceAdd, Nat.reduceLeDiff]; simp) ?_
    intro x hx
    by_cases hx2 : x < w
    · have r1 := rem_int2 (a := (y0 : Int) + (y : Int)) (b := (H : Int)) (by omega) (by omega)
      have r2 := rem_int2 (a := (x0 : Int) + (x : Int)) (b := (W : Int)) (by omega) (by omega)
      rw [show ((y0 : Int) + (y : Int)).toNat = y0 + y by omega, Int.toNat_natCast] at r1
      rw [show ((x0 : Int) + (x : Int)).toNat = x0 + x by omega, Int.toNat_natCast] at r2
      have hg := hug x y
      have s1 : (y0 + y) % H < H := Nat.mod_lt _ hH0
      have s2 : (x0 + x) % W < W := Nat.mod_lt _ hW0
      have hil := idx_lt s2 s1
      generalize (y0 + y) % H = p at *
      generalize (x0 + x) % W = q at *
      have m1 : (p : Int) * (W : Int) = ((W * p : Nat) : Int) := by rw [Int.natCast_mul, Int.mul_comm]
      have m2 : ((W * p : Nat) : Int) + (q : Int) = ((W * p + q : Nat) : Int) := by omega
      have hbl : (tabN w u (w * y + x)).length ≤ 1000000000 := by
        rw [tabN_len]
        have : w * y ≤ 64 * 64 := Nat.mul_le_mul (by omega) (by omega)
        omega
      refine zx5 @append_bool @r1 @r2 @m1 @m2 ?_
      exact ⟨x + 1, by omega, by rw [show w * y + (x + 1) = w * y + x + 1 from rfl, tabN_succ w u hx2, hg]; rfl, by omega⟩
    · obtain rfl : w = x := by omega
      refine zs ?_
      exact ⟨y + 1, by omega, rfl, by omega⟩
  · obtain rfl : h = y := by omega
    refine zs ?_
    refine zr1 ?_
    first | done | (rw [bools_isEmpty]; cases hT : tabN w u (w * h) with | nil => rw [hT] at hpos; simp [bools] at hpos | cons a r => rfl)
end
theorem op_and {op : Nat} (h : op < 16) : aInt .and .i64 (op : Int) 4 = some (I (if op.testBit 2 then 4 else 0)) ∧ aInt .and .i64 (op : Int) 1 = some (I (if op.testBit 0 then 1 else 0)) ∧ aInt .and .i64 (op : Int) 2 = some (I (if op.testBit 1 then 2 else 0)) ∧ aInt .and .i64 (op : Int) 8 = some (I (if op.testBit 3 then 8 else 0)) := by
  have : op = 0 ∨ op = 1 ∨ op = 2 ∨ op = 3 ∨ op = 4 ∨ op = 5 ∨ op = 6 ∨ op = 7 ∨ op = 8 ∨ op = 9 ∨ op = 10 ∨ op = 11 ∨ op = 12 ∨ op = 13 ∨ op = 14 ∨ op = 15 := by omega
  rcases this with rfl | rfl | rfl | rfl | rfl | rfl | rfl | rfl | rfl | rfl | rfl | rfl | rfl | rfl | rfl | rfl <;> exact ⟨rfl, rfl, rfl, rfl⟩
def apU (W H : Nat) (l : List Bool) (ex cx ry sd : Bool) (x y : Nat) : Bool :=
  l.getD (W * (if ry then H - 1 - (if ex then x else y) else if ex then x else y) + (if cx then W - 1 - (if ex then y else x) else if ex then y else x)) false != sd
section
variable {W H : Nat} (hW0 : 0 < W) (hH0 : 0 < H) (hW : W ≤ 64) (hH : H ≤ 64) (b : Bool) {l : List Bool} (hn : l.length = W * H)
include hW0 hH0 hW hH hn
set_option maxHeartbeats 4000000 in
theorem applied_g (ex cx ry sd : Bool) (op : Int) (a4 : aInt .and .i64 op 4 = some (I (if ex then 4 else 0))) (a1 : aInt .and .i64 op 1 = some (I (if cx then 1 else 0))) (a2 : aInt .and .i64 op 2 = some (I (if ry then 2 else 0))) (a8 : aInt .and .i64 op 8 = some (I (if sd then 8 else 0))) :
    Contract Tryz.prog 26 [GA W H b l, I op] (GR (if ex then H else W : Nat) (if ex then W else H : Nat) false (tabN (if ex then H else W) (apU W H l ex cx ry sd) ((if ex then H else W) * if ex then W else H))) := by
  have hWH : W * H ≤ 64 * 64 := Nat.mul_le_mul hW hH
  have z0 : ((0 : Int) != 0) = false := rfl
  have z1 : ((1 : Int) != 0) = true := rfl
  have z2 : ((2 : Int) != 0) = true := rfl
  have z4 : ((4 : Int) != 0) = true := rfl
  have z8 : ((8 : Int) != 0) = true := rfl
  cases ex with
  | true =>
    simp only [if_true] at a4 ⊢
    refine zi Tryz.func26 ?_
    refine zx1 @a4 ?_
    have hpos := tabN_pos hH0 hW0 (apU W H l true cx ry sd)
    refine loopK_W [1, 2, 4, 5, 6, 7, 24, 25] (fun y : Nat => y ≤ W) (fun y => ⟨[(1, I op), (2, .ptr 0 0 3), (4, .ptr 1 0 3), (5, I H), (6, I W), (7, .ptr 2 0 3), (24, I W), (25, I y)], [⟨24, 3, [I W, I H, BA b l]⟩, ⟨24, 3, [I 0, I 0, .cap0 true]⟩, ⟨24, 3, [I H, I W, gw true 3 (bools (tabN H (apU W H l true cx ry sd) (H * y)))]⟩, go 4 (bools (tabN H (apU W H l true cx ry sd) (H * y)))]⟩) (fun y => W - y) 0 (by omega) ?_ ?_
    · simp only [↓RP, RG, FX, RQ, ↓reduceIte, Nat.reduceEqDiff, reduceCtorEq, Nat.reduceBEq, Nat.reduceAdd, Nat.reduceLeDiff]
      exact Wk.weak (fun t => .refl _) (.cons _ _ _ _ (WL.refl _) (.cons _ _ _ _ (WL.refl _) (.cons _ _ _ _ (.cons (.refl _) (.cons (.refl _) (.cons (.nil _) .nil))) (.nil _ (by simp [go, bools, tabN])))))
    intro y hy
    by_cases hy2 : y < W
    · refine zs ?_
      refine loopK_I [1, 2, 4, 5, 6, 7, 8, 24, 25, 28, 29] (fun x : Nat => x ≤ H) (fun x => ⟨[(1, I op), (2, .ptr 0 0 3), (4, .ptr 1 0 3), (5, I H), (6, I W), (7, .ptr 2 0 3), (8, I y), (24, I W), (25, I y), (28, I H), (29, I x)], [⟨24, 3, [I W, I H, BA b l]⟩, ⟨24, 3, [I 0, I 0, .cap0 true]⟩, ⟨24, 3, [I H, I W, gw true 3 (bools (tabN H (apU W H l true cx ry sd) (H * y + x)))]⟩, go 4 (bools (tabN H (apU W H l true cx ry sd) (H * y + x)))]⟩) (fun x => H - x) 0 (by omega) (by simp only [↓RP, RG, FX, RQ, ↓reduceIte, Nat.reduceEqDiff, reduceCtorEq, Nat.reduceBEq, Nat.reduceAdd, Nat.reduceLeDiff]; simp) ?_
      intro x hx
      by_cases hx2 : x < H
      · have hsu := tabN_succ H (apU W H l true cx ry sd) (y := y) hx2
        have hbl : (tabN H (apU W H l true cx ry sd) (H * y + x)).length ≤ 1000000000 := by
          rw [tabN_len]
          have : H * y ≤ 64 * 64 := Nat.mul_le_mul (by omega) (by omega)
          omega
        have hug : (apU W H l true cx ry sd) x y = (l.getD (W * (if ry then H - 1 - x else x) + (if cx then W - 1 - y else y)) false != sd) := rfl
        rw [hug] at hsu
        clear hug
        generalize tabN H (apU W H l true cx ry sd) (H * y + x) = T1 at *
        have d1 : (W : Int) - 1 - (y : Int) = ((W - 1 - y : Nat) : Int) := by omega
        have d2 : (H : Int) - 1 - (x : Int) = ((H - 1 - x : Nat) : Int) := by omega
        have key : ∀ p q : Nat, p < H → q < W → (p : Int) * (W : Int) = ((W * p : Nat) : Int) ∧ ((W * p : Nat) : Int) + (q : Int) = ((W * p + q : Nat) : Int) ∧ W * p + q < W * H := fun p q hp hq => ⟨by rw [Int.natCast_mul, Int.mul_comm], by omega, idx_lt hq hp⟩
        cases cx with
        | true =>
          cases ry with
          | true =>
            simp only [if_true] at a1 a2 hsu
            obtain ⟨m1, m2, m3⟩ := key (H - 1 - x) (W - 1 - y) (by omega) (by omega)
            cases sd with
            | true =>
              simp only [if_true] at a8
              simp (disch := first | assumption | omega | rfl | simp only [RH]) only [↓RP, RZ, ↓reduceIte, Nat.reduceEqDiff, reduceCtorEq, Nat.reduceBEq, Nat.reduceAdd, Nat.reduceLeDiff, append_bool, a4, a1, a2, a8, d1, d2, m1, m2, z1, z2, z4, z8]
              exact ⟨x + 1, by omega, by rw [show H * y + (x + 1) = H * y + x + 1 from rfl, hsu]; rfl, by omega⟩
            | false =>
              simp only [if_false, Bool.false_eq_true] at a8
              simp (disch := first | assumption | omega | rfl | simp only [RH]) only [↓RP, RZ, ↓reduceIte, Nat.reduceEqDiff, reduceCtorEq, Nat.reduceBEq, Nat.reduceAdd, Nat.reduceLeDiff, append_bool, a4, a1, a2, a8, d1, d2, m1, m2, z1, z2, z4, z8, z0]
              exact ⟨x + 1, by omega, by rw [show H * y + (x + 1) = H * y + x + 1 from rfl, hsu]; rfl, by omega⟩
          | false =>
            simp only [if_true, if_false, Bool.false_eq_true] at a1 a2 hsu
            obtain ⟨m1, m2, m3⟩ := key x (W - 1 - y) (by omega) (by omega)
            cases sd with
            | true =>
              simp only [if_true] at a8
              simp (disch := first | assumption | omega | rfl | simp only [RH]) only [↓RP, RZ, ↓reduceIte, Nat.reduceEqDiff, reduceCtorEq, Nat.reduceBEq, Nat.reduceAdd, Nat.reduceLeDiff, append_bool, a4, a1, a2, a8, d1, d2, m1, m2, z1, z2, z4, z8, z0]
              exact ⟨x + 1, by omega, by rw [show H * y + (x + 1) = H * y + x + 1 from rfl, hsu]; rfl, by omega⟩
            | false =>
              simp only [if_false, Bool.false_eq_true] at a8
              simp (disch := first | assumption | omega | rfl | simp only [RH]) only [↓RP, RZ, ↓reduceIte, Nat.reduceEqDiff, reduceCtorEq, Nat.reduceBEq, Nat.reduceAdd, Nat.reduceLeDiff, append_bool, a4, a1, a2, a8, d1, d2, m1, m2, z1, z2, z4, z8, z0]
              exact ⟨x + 1, by omega, by rw [show H * y + (x + 1) = H * y + x + 1 from rfl, hsu]; rfl, by omega⟩
        | false =>
          cases ry with
          | true =>
            simp only [if_true, if_false, Bool.false_eq_true] at a1 a2 hsu
            obtain ⟨m1, m2, m3⟩ := key (H - 1 - x) y (by omega) (by omega)
            cases sd with
            | true =>
              simp only [if_true] at a8
              simp (disch := first | assumption | omega | rfl | simp only [RH]) only [↓RP, RZ, ↓reduceIte, Nat.reduceEqDiff, reduceCtorEq, Nat.reduceBEq, Nat.reduceAdd, Nat.reduceLeDiff, append_bool, a4, a1, a2, a8, d1, d2, m1, m2, z1, z2, z4, z8, z0]
              exact ⟨x + 1, by omega, by rw [show H * y + (x + 1) = H * y + x + 1 from rfl, hsu]; rfl, by omega⟩
            | false =>
              simp only [if_false, Bool.false_eq_true] at a8
              simp (disch := first | assumption | omega | rfl | simp only [RH]) only [↓RP, RZ, ↓reduceIte, Nat.reduceEqDiff, reduceCtorEq, Nat.reduceBEq, Nat.reduceAdd, Nat.reduceLeDiff, append_bool, a4, a1, a2, a8, d1, d2, m1, m2, z1, z2, z4, z8, z0]
              exact ⟨x + 1, by omega, by rw [show H * y + (x + 1) = H * y + x + 1 from rfl, hsu]; rfl, by omega⟩
          | false =>
            simp only [if_false, Bool.false_eq_true] at a1 a2 hsu
            obtain ⟨m1, m2, m3⟩ := key x y (by omega) (by omega)
            cases sd with
            | true =>
              simp only [if_true] at a8
              simp (disch := first | assumption | omega | rfl | simp only [RH]) only [↓RP, RZ, ↓reduceIte, Nat.reduceEqDiff, reduceCtorEq, Nat.reduceBEq, Nat.reduceAdd, Nat.reduceLeDiff, append_bool, a4, a1, a2, a8, d1, d2, m1, m2, z1, z2, z4, z8, z0]
              exact ⟨x + 1, by omega, by rw [show H * y + (x + 1) = H * y + x + 1 from rfl, hsu]; rfl, by omega⟩
            | false =>
              simp only [if_false, Bool.false_eq_true] at a8
              simp (disch := first | assumption | omega | rfl | simp only [RH]) only [↓RP, RZ, ↓reduceIte, Nat.reduceEqDiff, reduceCtorEq, Nat.reduceBEq, Nat.reduceAdd, Nat.reduceLeDiff, append_bool, a4, a1, a2, a8, d1, d2, m1, m2, z1, z2, z4, z8, z0]
              exact ⟨x + 1, by omega, by rw [show H * y + (x + 1) = H * y + x + 1 from rfl, hsu]; rfl, by omega⟩
      · obtain rfl : H = x := by omega
        refine zs ?_
        exact ⟨y + 1, by omega, rfl, by omega⟩
    · obtain rfl : W = y := by omega
      refine zs ?_
      refine zr1 ?_
      first | done | (rw [bools_isEmpty]; cases hT : tabN H (apU W H l true cx ry sd) (H * W) with | nil => rw [hT] at hpos; simp [bools] at hpos | cons a r => rfl)
  | false =>
    simp only [if_false, Bool.false_eq_true] at a4 ⊢
    refine zi Tryz.func26 ?_
    refine zx1 @a4 ?_
    have hpos := tabN_pos hW0 hH0 (apU W H l false cx ry sd)
    refine loopK_W [1, 2, 4, 5, 6, 7, 24, 25] (fun y : Nat => y ≤ H) (fun y => ⟨[(1, I op), (2, .ptr 0 0 3), (4, .ptr 1 0 3), (5, I W), (6, I H), (7, .ptr 2 0 3), (24, I H), (25, I y)], [⟨24, 3, [I W, I H, BA b l]⟩, ⟨24, 3, [I 0, I 0, .cap0 true]⟩, ⟨24, 3, [I W, I H, gw true 3 (bools (tabN W (apU W H l false cx ry sd) (W * y)))]⟩, go 4 (bools (tabN W (apU W H l false cx ry sd) (W * y)))]⟩) (fun y => H - y) 0 (by omega) ?_ ?_
    · simp only [↓RP, RG, FX, RQ, ↓reduceIte, Nat.reduceEqDiff, reduceCtorEq, Nat.reduceBEq, Nat.reduceAdd, Nat.reduceLeDiff]
      exact Wk.weak (fun t => .refl _) (.cons _ _ _ _ (WL.refl _) (.cons _ _ _ _ (WL.refl _) (.cons _ _ _ _ (.cons (.refl _) (.cons (.refl _) (.cons (.nil _) .nil))) (.nil _ (by simp [go, bools, tabN])))))
    intro y hy
    by_cases hy2 : y < H
    · refine zs ?_
      refine loopK_I [1, 2, 4, 5, 6, 7, 8, 24, 25, 28, 29] (fun x : Nat => x ≤ W) (fun x => ⟨[(1, I op), (2, .ptr 0 0 3), (4, .ptr 1 0 3), (5, I W), (6, I H), (7, .ptr 2 0 3), (8, I y), (24, I H), (25, I y), (28, I W), (29, I x)], [⟨24, 3, [I W, I H, BA b l]⟩, ⟨24, 3, [I 0, I 0, .cap0 true]⟩, ⟨24, 3, [I W, I H, gw true 3 (bools (tabN W (apU W H l false cx ry sd) (W * y + x)))]⟩, go 4 (bools (tabN W (apU W H l false cx ry sd) (W * y + x)))]⟩) (fun x => W - x) 0 (by omega) (by simp only [↓RP, RG, FX, RQ, ↓reduceIte, Nat.reduceEqDiff, reduceCtorEq, Nat.reduceBEq, Nat.reduceAdd, Nat.reduceLeDiff]; simp) ?_
      intro x hx
      by_cases hx2 : x < W
      · have hsu := tabN_succ W (apU W H l false cx ry sd) (y := y) hx2
        have hbl : (tabN W (apU W H l false cx ry sd) (W * y + x)).length ≤ 1000000000 := by
          rw [tabN_len]
          have : W * y ≤ 64 * 64 := Nat.mul_le_mul (by omega) (by omega)
          omega
        have hug : (apU W H l false cx ry sd) x y = (l.getD (W * (if ry then H - 1 - y else y) + (if cx then W - 1 - x else x)) false != sd) := rfl
        rw [hug] at hsu
        clear hug
        generalize tabN W (apU W H l false cx ry sd) (W * y + x) = T1 at *
        have d1 : (W : Int) - 1 - (x : Int) = ((W - 1 - x : Nat) : Int) := by omega
        have d2 : (H : Int) - 1 - (y : Int) = ((H - 1 - y : Nat) : Int) := by omega
        have key : ∀ p q : Nat, p < H → q < W → (p : Int) * (W : Int) = ((W * p : Nat) : Int) ∧ ((W * p : Nat) : Int) + (q : Int) = ((W * p + q : Nat) : Int) ∧ W * p + q < W * H := fun p q hp hq => ⟨by rw [Int.natCast_mul, Int.mul_comm], by omega, idx_lt hq hp⟩
        cases cx with
        | true =>
          cases ry with
          | true =>
            simp only [if_true] at a1 a2 hsu
            obtain ⟨m1, m2, m3⟩ := key (H - 1 - y) (W - 1 - x) (by omega) (by omega)
            cases sd with
            | true =>
              simp only [if_true] at a8
              simp (disch := first | assumption | omega | rfl | simp only [RH]) only [↓RP, RZ, ↓reduceIte, Nat.reduceEqDiff, reduceCtorEq, Nat.reduceBEq, Nat.reduceAdd, Nat.reduceLeDiff, append_bool, a4, a1, a2, a8, d1, d2, m1, m2, z1, z2, z4, z8]
              exact ⟨x + 1, by omega, by rw [show W * y + (x + 1) = W * y + x + 1 from rfl, hsu]; rfl, by omega⟩
            | false =>
              simp only [if_false, Bool.false_eq_true] at a8
              simp (disch := first | assumption | omega | rfl | simp only [RH]) only [↓RP, RZ, ↓reduceIte, Nat.reduceEqDiff, reduceCtorEq, Nat.reduceBEq, Nat.reduceAdd, Nat.reduceLeDiff, append_bool, a4, a1, a2, a8, d1, d2, m1, m2, z1, z2, z4, z8, z0]
              exact ⟨x + 1, by omega, by rw [show W * y + (x + 1) = W * y + x + 1 from rfl, hsu]; rfl, by omega⟩
          | false =>
            simp only [if_true, if_false, Bool.false_eq_true] at a1 a2 hsu
            obtain ⟨m1, m2, m3⟩ := key y (W - 1 - x) (by omega) (by omega)
            cases sd with
            | true =>
              simp only [if_true] at a8
              simp (disch := first | assumption | omega | rfl | simp only [RH]) only [↓RP, RZ, ↓reduceIte, Nat.reduceEqDiff, reduceCtorEq, Nat.reduceBEq, Nat.reduceAdd, Nat.reduceLeDiff, append_bool, a4, a1, a2, a8, d1, d2, m1, m2, z1, z2, z4, z8, z0]
              exact ⟨x + 1, by omega, by rw [show W * y + (x + 1) = W * y + x + 1 from rfl, hsu]; rfl, by omega⟩
            | false =>
              simp only [if_false, Bool.false_eq_true] at a8
              simp (disch := first | assumption | omega | rfl | simp only [RH]) only [↓RP, RZ, ↓reduceIte, Nat.reduceEqDiff, reduceCtorEq, Nat.reduceBEq, Nat.reduceAdd, Nat.reduceLeDiff, append_bool, a4, a1, a2, a8, d1, d2, m1, m2, z1, z2, z4, z8, z0]
              exact ⟨x + 1, by omega, by rw [show W * y + (x + 1) = W * y + x + 1 from rfl, hsu]; rfl, by omega⟩
        | false =>
          cases ry with
          | true =>
            simp only [if_true, if_false, Bool.false_eq_true] at a1 a2 hsu
            obtain ⟨m1, m2, m3⟩ := key (H - 1 - y) x (by omega) (by omega)
            cases sd with
            | true =>
              simp only [if_true] at a8
              simp (disch := first | assumption | omega | rfl | simp only [RH]) only [↓RP, RZ, ↓reduceIte, Nat.reduceEqDiff, reduceCtorEq, Nat.reduceBEq, Nat.reduceAdd, Nat.reduceLeDiff, append_bool, a4, a1, a2, a8, d1, d2, m1, m2, z1, z2, z4, z8, z0]
              exact ⟨x + 1, by omega, by rw [show W * y + (x + 1) = W * y + x + 1 from rfl, hsu]; rfl, by omega⟩
            | false =>
              simp only [if_false, Bool.false_eq_true] at a8
              simp (disch := first | assumption | omega | rfl | simp only [RH]) only [↓RP, RZ, ↓reduceIte, Nat.reduceEqDiff, reduceCtorEq, Nat.reduceBEq, Nat.reduceAdd, Nat.reduceLeDiff, append_bool, a4, a1, a2, a8, d1, d2, m1, m2, z1, z2, z4, z8, z0]
              exact ⟨x + 1, by omega, by rw [show W * y + (x + 1) = W * y + x + 1 from rfl, hsu]; rfl, by omega⟩
          | false =>
            simp only [if_false, Bool.false_eq_true] at a1 a2 hsu
            obtain ⟨m1, m2, m3⟩ := key y x (by omega) (by omega)
            cases sd with
            | true =>
              simp only [if_true] at a8
              simp (disch := first | assumption | omega | rfl | simp only [RH]) only [↓RP, RZ, ↓reduceIte, Nat.reduceEqDiff, reduceCtorEq, Nat.reduceBEq, Nat.reduceAdd, Nat.reduceLeDiff, append_bool, a4, a1, a2, a8, d1, d2, m1, m2, z1, z2, z4, z8, z0]
              exact ⟨x + 1, by omega, by rw [show W * y + (x + 1) = W * y + x + 1 from rfl, hsu]; rfl, by omega⟩
            | false =>
              simp only [if_false, Bool.false_eq_true] at a8
              simp (disch := first | assumption | omega | rfl | simp only [RH]) only [↓RP, RZ, ↓reduceIte, Nat.reduceEqDiff, reduceCtorEq, Nat.reduceBEq, Nat.reduceAdd, Nat.reduceLeDiff, append_bool, a4, a1, a2, a8, d1, d2, m1, m2, z1, z2, z4, z8, z0]
              exact ⟨x + 1, by omega, by rw [show W * y + (x + 1) = W * y + x + 1 from rfl, hsu]; rfl, by omega⟩
      · obtain rfl : W = x := by omega
        refine zs ?_
        exact ⟨y + 1, by omega, rfl, by omega⟩
    · obtain rfl : H = y := by omega
      refine zs ?_
      refine zr1 ?_
      first | done | (rw [bools_isEmpty]; cases hT : tabN W (apU W H l false cx ry sd) (W * H) with | nil => rw [hT] at hpos; simp [bools] at hpos | cons a r => rfl)
end
theorem ap_sim {W H : Nat} (hW0 : 0 < W) (hH0 : 0 < H) (l : List Bool) (ex cx ry sd : Bool) : Sim (actP cx ry ex sd (pln W H l)) (pln (if ex then H else W) (if ex then W else H) (tabN (if ex then H else W) (apU W H l ex cx ry sd) ((if ex then H else W) * if ex then W else H))) := by
  have p1 : PerX (actP cx ry ex sd (pln W H l)) ((if ex then H else W : Nat) : Int) := act_perX cx ry ex sd (by cases ex; (· exact pln_perX W H l); exact pln_perY W H l)
  have p2 : PerY (actP cx ry ex sd (pln W H l)) ((if ex then W else H : Nat) : Int) := act_perY cx ry ex sd (by cases ex; (· exact pln_perY W H l); exact pln_perX W H l)
  have w1 : 0 < if ex then H else W := by cases ex <;> assumption
  have w2 : 0 < if ex then W else H := by cases ex <;> assumption
  obtain ⟨s, t, hst⟩ : ∃ s t : Int, ∀ x y : Nat, x < (if ex then H else W) → y < (if ex then W else H) → apU W H l ex cx ry sd x y = actP cx ry ex sd (pln W H l) ((x : Int) + s) ((y : Int) + t) := by
    cases ex with
    | true =>
      refine ⟨if ry then 1 - (H : Int) else 0, if cx then 1 - (W : Int) else 0, fun x y hx hy => ?_⟩
      simp only [if_true] at hx hy
      unfold apU actP
      simp only [if_true]
      cases cx with
      | true =>
        cases ry with
        | true =>
          simp only [if_true]
          rw [← pln_get (W := W) (H := H) l (show W - 1 - y < W by omega) (show H - 1 - x < H by omega)]
          congr 2 <;> omega
        | false =>
          simp only [if_true, if_false, Bool.false_eq_true]
          rw [← pln_get (W := W) (H := H) l (show W - 1 - y < W by omega) (show x < H by omega)]
          congr 2 <;> omega
      | false =>
        cases ry with
        | true =>
          simp only [if_true, if_false, Bool.false_eq_true]
          rw [← pln_get (W := W) (H := H) l (show y < W by omega) (show H - 1 - x < H by omega)]
          congr 2 <;> omega
        | false =>
          simp only [if_false, Bool.false_eq_true]
          rw [← pln_get (W := W) (H := H) l (show y < W by omega) (show x < H by omega)]
          congr 2 <;> omega
    | false =>
      refine ⟨if cx then 1 - (W : Int) else 0, if ry then 1 - (H : Int) else 0, fun x y hx hy => ?_⟩
      simp only [if_false, Bool.false_eq_true] at hx hy
      unfold apU actP
      simp only [if_false, Bool.false_eq_true]
      cases cx with
      | true =>
        cases ry with
        | true =>
          simp only [if_true]
          rw [← pln_get (W := W) (H := H) l (show W - 1 - x < W by omega) (show H - 1 - y < H by omega)]
          congr 2 <;> omega
        | false =>
          simp only [if_true, if_false, Bool.false_eq_true]
          rw [← pln_get (W := W) (H := H) l (show W - 1 - x < W by omega) (show y < H by omega)]
          congr 2 <;> omega
      | false =>
        cases ry with
        | true =>
          simp only [if_true, if_false, Bool.false_eq_true]
          rw [← pln_get (W := W) (H := H) l (show x < W by omega) (show H - 1 - y < H by omega)]
          congr 2 <;> omega
        | false =>
          simp only [if_false, Bool.false_eq_true]
          rw [← pln_get (W := W) (H := H) l (show x < W by omega) (show y < H by omega)]
          congr 2 <;> omega
  generalize (if ex then H else W) = w at *
  generalize (if ex then W else H) = h at *
  refine ⟨s, t, fun x y => ?_⟩
  have a1 := Int.emod_nonneg x (show (w : Int) ≠ 0 by omega)
  have a2 := Int.emod_lt_of_pos x (show (0 : Int) < w by omega)
  have b1 := Int.emod_nonneg y (show (h : Int) ≠ 0 by omega)
  have b2 := Int.emod_lt_of_pos y (show (0 : Int) < h by omega)
  have hx : (x % (w : Int)).toNat < w := by omega
  have hy : (y % (h : Int)).toNat < h := by omega
  unfold pln
  rw [tabN_get _ _ hx (idx_lt hx hy), hst _ _ hx hy, Int.toNat_of_nonneg a1, Int.toNat_of_nonneg b1]
  show actP cx ry ex sd (pln W H l) (x % (w : Int) + s) (y % (h : Int) + t) = actP cx ry ex sd (pln W H l) (x + s) (y + t)
  rw [← p1.mod (x % (w : Int) + s), Int.emod_add_emod, p1.mod, ← p2.mod _ (y % (h : Int) + t), Int.emod_add_emod, p2.mod]
structure Gr where
  w : Nat
  h : Nat
  b : Bool
  l : List Bool
def grC (g : Gr) : List AVal := [I g.w, I g.h, BA g.b g.l]
def grL (gs : List Gr) : List AVal := gs.flatMap grC
theorem grL_drop : ∀ (gs : List Gr) (i : Nat) (hi : i < gs.length), ∃ t, (grL gs).drop (i * 3) = grC gs[i] ++ t
  | g :: gs, 0, _ => ⟨grL gs, rfl⟩
  | g :: gs, i + 1, h => by
    obtain ⟨t, ht⟩ := grL_drop gs i (by simpa using h)
    refine ⟨t, ?_⟩
    show (grC g ++ grL gs).drop ((i + 1) * 3) = _
    rw [show (i + 1) * 3 = (grC g).length + i * 3 by simp [grC]; omega, ← List.drop_drop, List.drop_left]
    exact ht
theorem map_ren_grL (f : Nat → Option Nat) (n : Nat) : ∀ gs : List Gr, (grL gs).map (ren f (n + 2)) = grL gs
  | [] => rfl
  | g :: gs => by
    show (grC g ++ grL gs).map _ = grC g ++ grL gs
    rw [List.map_append, map_ren_grL f n gs]
    congr 1
    simp only [grC, List.map_cons, List.map_nil, RK]
theorem check_c (p : Bool) {gs : List Gr} (hl : gs.length ≤ 1000) (hg : ∀ g ∈ gs, 0 < g.w ∧ g.w ≤ 16 ∧ 0 < g.h ∧ g.h ≤ 16 ∧ g.l.length = g.w * g.h) : Contract Tryz.prog 24 [.list false p gs.length (grL gs)] (I 0) := by
  have hpx : ∀ (i : Nat) (hi : i < gs.length), pX (some (true, 3)) ((grL gs).drop (i * 3)) = some (.agg [I (gs[i]).w, I (gs[i]).h, BA (gs[i]).b (gs[i]).l]) := fun i hi => by
    obtain ⟨t, ht⟩ := grL_drop gs i hi
    rw [ht]; rfl
  refine zi Tryz.func24 ?_
  refine zs ?_
  refine loopK_WW [0, 2, 8, 9, 10] (fun i : Nat => i ≤ gs.length) (fun i => ⟨[(0, .list false p gs.length (grL gs)), (2, I 0), (8, .list false p gs.length (grL gs)), (9, I gs.length), (10, I i)], []⟩) (fun i => gs.length - i) 0 (by omega) (by simp only [↓RP, RG, FX, RQ, ↓reduceIte, Nat.reduceEqDiff, reduceCtorEq, Nat.reduceBEq, Nat.reduceAdd, Nat.reduceLeDiff]; exact Wk.of_eq rfl) ?_
  intro i hi
  by_cases hlt : i < gs.length
  · have hx := hpx i hlt
    obtain ⟨g1, g2, g3, g4, g5⟩ := hg gs[i] (List.getElem_mem hlt)
    have hz : gchk (gs[i]).w (gs[i]).h (gs[i]).l.length = 0 := gchk_ok ⟨by omega, by omega, by omega, by omega, by rw [g5, Int.natCast_mul]⟩
    have hck := gcheckP_c (gs[i]).w (gs[i]).h (gs[i]).b (gs[i]).l
    rw [hz] at hck
    generalize gs[i] = g at *
    refine zx1 @hx ?_
    refine zc (hck) ?_
    refine zs ?_
    exact ⟨i + 1, hlt, (Wk.drop (hb := []) (h1 := []) (gs := [_]) 8 [] rfl (by decide) (by simp) (by simp)).trans (Wk.of_eq (by simp only [RK, List.idxOf?_cons, List.idxOf?_nil, Nat.reduceBEq, Option.map_some, Option.map_none, List.map_cons, List.map_nil, List.getD_cons_zero, List.getD_cons_succ, Bool.false_eq_true, ↓reduceIte, Nat.add_zero, List.append_nil, map_ren_grL]; rfl)), by omega⟩
  · obtain rfl : gs.length = i := by omega
    refine zs ?_
    refine loopK_WW [2, 20, 21, 22] (fun i : Nat => i ≤ gs.length) (fun i => ⟨[(2, I 0), (20, .list false p gs.length (grL gs)), (21, I gs.length), (22, I i)], []⟩) (fun i => gs.length - i) 0 (by omega) (by simp only [↓RP, RG, FX, RQ, ↓reduceIte, Nat.reduceEqDiff, reduceCtorEq, Nat.reduceBEq, Nat.reduceAdd, Nat.reduceLeDiff]; exact Wk.of_eq rfl) ?_
    intro i hi
    by_cases hlt : i < gs.length
    · have hx := hpx i hlt
      obtain ⟨g1, g2, g3, g4, g5⟩ := hg gs[i] (List.getElem_mem hlt)
      generalize gs[i] = g at *
      refine zx1 @hx ?_
      exact ⟨i + 1, hlt, (Wk.drop (hb := []) (h1 := []) (gs := [_]) 8 [] rfl (by decide) (by simp) (by simp)).trans (Wk.of_eq (by simp only [RK, List.idxOf?_cons, List.idxOf?_nil, Nat.reduceBEq, Option.map_some, Option.map_none, List.map_cons, List.map_nil, List.getD_cons_zero, List.getD_cons_succ, Bool.false_eq_true, ↓reduceIte, Nat.add_zero, List.append_nil, map_ren_grL]; rfl)), by omega⟩
    · obtain rfl : gs.length = i := by omega
      refine zs ?_
      exact zq1
theorem is_op_c {op : Nat} (h : op < 16) : Contract Tryz.prog 25 [I op] (B true) := by
  refine zi Tryz.func25 ?_
  refine zs ?_
  exact zq1
section
variable {W H : Nat} (hW0 : 0 < W) (hH0 : 0 < H) (hW : W ≤ 16) (hH : H ≤ 16) (b : Bool) {l : List Bool} (hn : l.length = W * H)
include hW0 hH0 hW hH hn
theorem apply_c {op : Nat} (h : op < 16) : ∃ w h l', w = (if op.testBit 2 then H else W) ∧ h = (if op.testBit 2 then W else H) ∧ l'.length = w * h ∧ Sim (actP (op.testBit 0) (op.testBit 1) (op.testBit 2) (op.testBit 3) (pln W H l)) (pln w h l') ∧ Contract Tryz.prog 26 [GA W H b l, I op] (GR w h false l') ∧ Contract Tryz.prog 7 [GA W H b l, I op] (.tuple [GR w h false l', I 0]) := by
  obtain ⟨a4, a1, a2, a8⟩ := op_and h
  have hap := applied_g hW0 hH0 (by omega) (by omega) b hn (op.testBit 2) (op.testBit 0) (op.testBit 1) (op.testBit 3) (op : Int) a4 a1 a2 a8
  have hs := ap_sim hW0 hH0 l (op.testBit 2) (op.testBit 0) (op.testBit 1) (op.testBit 3)
  have hl := tabN_len (if op.testBit 2 then H else W) (apU W H l (op.testBit 2) (op.testBit 0) (op.testBit 1) (op.testBit 3)) ((if op.testBit 2 then H else W) * if op.testBit 2 then W else H)
  have hio := is_op_c h
  have hck := check_c false (gs := [⟨W, H, b, l⟩]) (by simp) (by simp; omega)
  refine ⟨_, _, _, rfl, rfl, hl, hs, hap, ?_⟩
  generalize tabN (if op.testBit 2 then H else W) (apU W H l (op.testBit 2) (op.testBit 0) (op.testBit 1) (op.testBit 3)) ((if op.testBit 2 then H else W) * if op.testBit 2 then W else H) = l' at *
  generalize (if op.testBit 2 then H else W) = w at *
  generalize (if op.testBit 2 then W else H) = h at *
  refine zi Tryz.func7 ?_
  refine zs ?_
  refine zc hck ?_
  refine zs ?_
  refine zc (hio) ?_
  refine zs ?_
  refine zc (hap) ?_
  refine zs ?_
  exact zq2
  first | done | rfl
end
theorem before_c {w h w' h' : Nat} (b b' : Bool) {l l' : List Bool} (hw : w ≤ 1000) (hh : h ≤ 1000) (hw' : w' ≤ 1000) (hh' : h' ≤ 1000) (hl : l.length = w * h) (hl' : l'.length = w' * h') : Contract Tryz.prog 32 [GA w h b l, GA w' h' b' l'] (B (bfr w h l w' h' l')) := by
  have hb1 : w * h ≤ 1000 * 1000 := Nat.mul_le_mul hw hh
  by_cases e1 : w = w'
  · subst e1
    by_cases e2 : h = h'
    · subst e2
      have he : bfr w h l w h l' = lexL l l' := by unfold bfr; rw [if_neg (by simp), if_neg (by simp)]
      rw [he]
      have hll : l.length = l'.length := by omega
      refine zi Tryz.func32 ?_
      refine zs ?_
      refine loopK_I [2, 3, 30, 31, 32] (fun i : Nat => i ≤ l.length ∧ ∀ j, j < i → l.getD j false = l'.getD j false) (fun i => ⟨[(2, .ptr 0 0 3), (3, .ptr 1 0 3), (30, BA b l), (31, I l.length), (32, I i)], [⟨24, 3, [I w, I h, BA b l]⟩, ⟨24, 3, [I w, I h, BA b' l']⟩]⟩) (fun i => l.length - i) 0 ⟨by omega, fun j hj => by omega⟩ kz ?_
      rintro i ⟨hi, hall⟩
      by_cases hlt : i < l.length
      · have hlt' : i < l'.length := by omega
        by_cases e : l.getD i false = l'.getD i false
        · cases hv : l'.getD i false with
          | true =>
            rw [hv] at e
            refine zx3 @e @hv (show (true == true) = true from rfl) ?_
            refine ⟨i + 1, ⟨hlt, fun j hj => ?_⟩, rfl, by omega⟩
            by_cases hji : j = i
            · rw [hji, e, hv]
            · exact hall j (by omega)
          | false =>
            rw [hv] at e
            refine zx3 @e @hv (show (false == false) = true from rfl) ?_
            refine ⟨i + 1, ⟨hlt, fun j hj => ?_⟩, rfl, by omega⟩
            by_cases hji : j = i
            · rw [hji, e, hv]
            · exact hall j (by omega)
        · have hx := lexL_at l l' i hll hlt hall e
          cases hv : l'.getD i false with
          | true =>
            have e' : l.getD i false = false := by cases h9 : l.getD i false with | false => rfl | true => rw [h9, hv] at e; exact absurd rfl e
            rw [hx, hv]
            refine zx3 @e' @hv (show (false == true) = false from rfl) ?_
            exact zq1
          | false =>
            have e' : l.getD i false = true := by cases h9 : l.getD i false with | true => rfl | false => rw [h9, hv] at e; exact absurd rfl e
            rw [hx, hv]
            refine zx3 @e' @hv (show (true == false) = false from rfl) ?_
            exact zq1
      · obtain rfl : l.length = i := by omega
        have : l = l' := ext_getD hll hall
        subst this
        rw [lexL_irrefl]
        refine zs ?_
        exact zq1
    · have he : bfr w h l w h' l' = decide (h < h') := by unfold bfr; rw [if_neg (by simp), if_pos e2]
      rw [he]
      by_cases c : h < h'
      · rw [decide_eq_true c]
        refine zi Tryz.func32 ?_
        refine zs ?_
        exact zq1
      · rw [decide_eq_false c]
        refine zi Tryz.func32 ?_
        refine zs ?_
        exact zq1
  · have he : bfr w h l w' h' l' = decide (w < w') := by unfold bfr; rw [if_pos e1]
    rw [he]
    by_cases c : w < w'
    · rw [decide_eq_true c]
      refine zi Tryz.func32 ?_
      refine zs ?_
      exact zq1
    · rw [decide_eq_false c]
      refine zi Tryz.func32 ?_
      refine zs ?_
      exact zq1
def opP (o : Nat) (P : Int → Int → Bool) : Int → Int → Bool := actP (o.testBit 0) (o.testBit 1) (o.testBit 2) (o.testBit 3) P
theorem opP_sim (o : Nat) {P Q : Int → Int → Bool} (h : Sim P Q) : Sim (opP o P) (opP o Q) := act_sim _ _ _ _ h
theorem op_bits (a b c d : Bool) : ∃ o, o < 16 ∧ o.testBit 0 = a ∧ o.testBit 1 = b ∧ o.testBit 2 = c ∧ o.testBit 3 = d := by
  refine ⟨(if a then 1 else 0) + (if b then 2 else 0) + (if c then 4 else 0) + (if d then 8 else 0), ?_⟩
  cases a <;> cases b <;> cases c <;> cases d <;> decide
theorem win_mod {P : Int → Int → Bool} {w h : Nat} (hp : PerX P w) (hq : PerY P h) (s t : Int) (u v : Nat) : win P s t u v = win P (s % (w : Int)) (t % (h : Int)) u v := win_congr fun i k _ _ => by
  rw [← hp.mod (s % (w : Int) + i), Int.emod_add_emod, hp.mod, ← hq.mod _ (t % (h : Int) + k), Int.emod_add_emod, hq.mod]
theorem sO_stay {u v : Nat → Nat} {fm : Nat → Nat → Nat → List Bool} {b0 : Bf} {n : Nat} (h : ∀ o x y, o < n → x < u o → y < v o → bfr (u o) (v o) (fm o x y) (sO u v fm b0 1).u (sO u v fm b0 1).v (sO u v fm b0 1).f = false) : ∀ m, 1 ≤ m → m ≤ n → sO u v fm b0 m = sO u v fm b0 1
  | 0, h0, _ => by omega
  | 1, _, _ => rfl
  | m + 2, _, hm => by
    have ih := sO_stay h (m + 1) (by omega) (by omega)
    show sY u v fm (m + 1) (v (m + 1)) (sO u v fm b0 (m + 1)) = _
    rw [ih]
    generalize sO u v fm b0 1 = Z at *
    have hX : ∀ y, y < v (m + 1) → ∀ x, x ≤ u (m + 1) → sX u v fm (m + 1) y x Z = Z := by
      intro y hy x
      induction x with
      | zero => intro _; rfl
      | succ x ihx =>
        intro hx
        show stpB u v fm (m + 1) y x (sX u v fm (m + 1) y x Z) = Z
        rw [ihx (by omega)]
        unfold stpB
        rw [h (m + 1) x y (by omega) (by omega) hy, if_neg (by simp)]
    have hY : ∀ y, y ≤ v (m + 1) → sY u v fm (m + 1) y Z = Z := by
      intro y
      induction y with
      | zero => intro _; rfl
      | succ y ihy =>
        intro hy
        show sX u v fm (m + 1) y (u (m + 1)) (sY u v fm (m + 1) y Z) = Z
        rw [ihy (by omega)]
        exact hX y (by omega) _ (Nat.le_refl _)
    exact hY _ (Nat.le_refl _)
def OkB (b : Bf) : Prop := b.u ≤ 16 ∧ b.v ≤ 16 ∧ b.f.length = b.u * b.v
section
variable {W H : Nat} (hW0 : 0 < W) (hH0 : 0 < H) (hW : W ≤ 16) (hH : H ≤ 16) (b : Bool) {l : List Bool} (hn : l.length = W * H)
include hW0 hH0 hW hH hn
set_option maxHeartbeats 4000000 in
theorem least_c : ∃ Z : Bf, Z.o < 16 ∧ MinPer (opP Z.o (pln W H l)) Z.u Z.v ∧ (∃ s t, Z.f = win (opP Z.o (pln W H l)) s t Z.u Z.v) ∧ (∀ u v f, IsForm (pln W H l) u v f → bfr u v f Z.u Z.v Z.f = false) ∧ (∀ u v s t, MinPer (pln W H l) u v → (∀ u' v' f', IsForm (pln W H l) u' v' f' → bfr u' v' f' u v (win (pln W H l) s t u v) = false) → Z.o = 0) ∧ OkB Z ∧ Contract Tryz.prog 9 [GA W H b l] (.tuple [GR Z.u Z.v false Z.f, I Z.o, I 0]) := by
  obtain ⟨w, h, hm, hwW, hhH, hrect⟩ := rect_c hW0 hH0 (by omega) (by omega) b hn
  have hw0 := hm.w0
  have hh0 := hm.h0
  have hwin := window_c hW0 hH0 (by omega) (by omega) b hn (x0 := 0) (y0 := 0) (by omega) (by omega) hw0 hh0 (by omega) (by omega)
  have hwl := win_len (pln W H l) 0 0 w h
  have hsim : Sim (pln W H l) (pln w h (win (pln W H l) 0 0 w h)) := ⟨0, 0, fun x y => by rw [pln_win hm.px hm.py hw0 hh0]; congr 1 <;> omega⟩
  have hck := check_c false (gs := [⟨W, H, b, l⟩]) (by simp) (by simp; omega)
  have hdat : ∀ o : Nat, ∃ d : Nat × Nat × List Bool × Nat × Nat, o < 16 → 0 < d.1 ∧ d.1 ≤ 16 ∧ 0 < d.2.1 ∧ d.2.1 ≤ 16 ∧ d.2.2.1.length = d.1 * d.2.1 ∧ Sim (opP o (pln w h (win (pln W H l) 0 0 w h))) (pln d.1 d.2.1 d.2.2.1) ∧ MinPer (pln d.1 d.2.1 d.2.2.1) d.2.2.2.1 d.2.2.2.2 ∧ d.2.2.2.1 ≤ d.1 ∧ d.2.2.2.2 ≤ d.2.1
      ∧ Contract Tryz.prog 26 [GA w h false (win (pln W H l) 0 0 w h), I o] (GR d.1 d.2.1 false d.2.2.1) ∧ Contract Tryz.prog 10 [GA d.1 d.2.1 false d.2.2.1] (.tuple [I d.2.2.2.1, I d.2.2.2.2, I 0]) := fun o => by
    by_cases ho : o < 16
    · obtain ⟨ow, oh, ol, e1, e2, hol, hs, hap, _⟩ := apply_c hw0 hh0 (by omega) (by omega) false hwl ho
      have w1 : 0 < ow ∧ ow ≤ 16 := by rw [e1]; split <;> omega
      have w2 : 0 < oh ∧ oh ≤ 16 := by rw [e2]; split <;> omega
      obtain ⟨u, v, g1, g2, g3, g4⟩ := rect_c w1.1 w2.1 (by omega) (by omega) false hol
      exact ⟨(ow, oh, ol, u, v), fun _ => ⟨w1.1, w1.2, w2.1, w2.2, hol, hs, g1, g2, g3, hap, g4⟩⟩
    · exact ⟨(0, 0, [], 0, 0), fun h => absurd h ho⟩
  obtain ⟨D, hD⟩ := Classical.skolem.1 hdat
  clear hdat
  obtain ⟨u, hu⟩ : ∃ u : Nat → Nat, u = fun o => (D o).2.2.2.1 := ⟨_, rfl⟩
  obtain ⟨v, hv⟩ : ∃ v : Nat → Nat, v = fun o => (D o).2.2.2.2 := ⟨_, rfl⟩
  obtain ⟨fm, hfm⟩ : ∃ fm : Nat → Nat → Nat → List Bool, fm = fun (o x y : Nat) => win (pln (D o).1 (D o).2.1 (D o).2.2.1) (x : Int) (y : Int) (u o) (v o) := ⟨_, rfl⟩
  obtain ⟨b0, hb0⟩ : ∃ b0 : Bf, b0 = ⟨w, h, win (pln W H l) 0 0 w h, 0⟩ := ⟨_, rfl⟩
  have hu' : ∀ o, (D o).2.2.2.1 = u o := fun o => by rw [hu]
  have hv' : ∀ o, (D o).2.2.2.2 = v o := fun o => by rw [hv]
  have hfm' : ∀ o x y : Nat, win (pln (D o).1 (D o).2.1 (D o).2.2.1) (x : Int) (y : Int) (u o) (v o) = fm o x y := fun o x y => by rw [hfm]
  simp only [hu', hv'] at hD
  have hop : ∀ o, o < 16 → Sim (opP o (pln W H l)) (pln (D o).1 (D o).2.1 (D o).2.2.1) := fun o ho => (opP_sim o hsim).trans (hD o ho).2.2.2.2.2.1
  have hok : ∀ o x y, o < 16 → OkB ⟨u o, v o, fm o x y, o⟩ := fun o x y ho => by
    obtain ⟨d1, d2, d3, d4, _, _, _, d8, d9, _⟩ := hD o ho
    exact ⟨by show u o ≤ 16; omega, by show v o ≤ 16; omega, by show (fm o x y).length = u o * v o; rw [← hfm']; exact win_len ..⟩
  have hok0 : OkB b0 := by rw [hb0]; exact ⟨by show w ≤ 16; omega, by show h ≤ 16; omega, hwl⟩
  have hstp : ∀ o y x Z, o < 16 → OkB Z → OkB (stpB u v fm o y x Z) := fun o y x Z ho hB => by
    unfold stpB; split
    · exact hok o x y ho
    · exact hB
  have hwf : ∀ o, o < 16 → ∀ u' v' s t, MinPer (opP o (pln W H l)) u' v' → u' = u o ∧ v' = v o ∧ ∃ x y : Nat, x < u o ∧ y < v o ∧ win (opP o (pln W H l)) s t u' v' = fm o x y := fun o ho u' v' s t hmin => by
    have hmo := (hD o ho).2.2.2.2.2.2.1
    obtain ⟨rfl, rfl⟩ := (hmin.sim (hop o ho)).eq hmo
    obtain ⟨s', t', e⟩ := (hop o ho).symm
    have b1 := Int.emod_nonneg (s + s') (show (u o : Int) ≠ 0 by have := hmo.w0; omega)
    have b2 := Int.emod_lt_of_pos (s + s') (show (0 : Int) < u o by have := hmo.w0; omega)
    have b3 := Int.emod_nonneg (t + t') (show (v o : Int) ≠ 0 by have := hmo.h0; omega)
    have b4 := Int.emod_lt_of_pos (t + t') (show (0 : Int) < v o by have := hmo.h0; omega)
    refine ⟨rfl, rfl, ((s + s') % (u o : Int)).toNat, ((t + t') % (v o : Int)).toNat, by omega, by omega, ?_⟩
    rw [← hfm', Int.toNat_of_nonneg b1, Int.toNat_of_nonneg b3, ← win_mod hmo.px hmo.py]
    exact win_congr fun i k _ _ => by rw [e]; congr 1 <;> omega
  have hfo : ∀ o x y, o < 16 → IsForm (pln W H l) (u o) (v o) (fm o x y) := fun o x y ho => by
    obtain ⟨s, t, e⟩ := hop o ho
    refine ⟨_, _, _, _, (hD o ho).2.2.2.2.2.2.1.sim (hop o ho).symm, x + s, y + t, ?_⟩
    rw [← hfm']
    exact win_congr fun i k _ _ => by rw [e]; unfold opP; congr 1 <;> omega
  refine ⟨sO u v fm b0 16, ?_, ?_, ?_, ?_, ?_, ?_, ?_⟩
  · exact sO_all (p := fun Z => Z.o < 16) (by rw [hb0]; show 0 < 16; omega) fun o x y ho _ _ => ho
  · refine sO_all (p := fun Z => MinPer (opP Z.o (pln W H l)) Z.u Z.v) (by rw [hb0]; show MinPer (opP 0 (pln W H l)) w h; unfold opP; simp only [Nat.zero_testBit, act_id]; exact hm) fun o x y ho _ _ => ?_
    exact (hD o ho).2.2.2.2.2.2.1.sim (hop o ho).symm
  · refine sO_all (p := fun Z => ∃ s t, Z.f = win (opP Z.o (pln W H l)) s t Z.u Z.v) ⟨0, 0, by rw [hb0]; show win (pln W H l) 0 0 w h = win (opP 0 (pln W H l)) 0 0 w h; unfold opP; simp only [Nat.zero_testBit, act_id]⟩ fun o x y ho _ _ => ?_
    obtain ⟨s, t, e⟩ := hop o ho
    refine ⟨x + s, y + t, ?_⟩
    show fm o x y = _
    rw [← hfm']
    exact win_congr fun i k _ _ => by rw [e]; congr 1 <;> omega
  · rintro u' v' f' ⟨a1, a2, a3, a4, hmin, s, t, rfl⟩
    obtain ⟨o, ho, e0, e1, e2, e3⟩ := op_bits a1 a2 a3 a4
    have hpe : actP a1 a2 a3 a4 (pln W H l) = opP o (pln W H l) := by unfold opP; rw [e0, e1, e2, e3]
    rw [hpe] at hmin ⊢
    obtain ⟨rfl, rfl, x, y, hx, hy, hf⟩ := hwf o ho u' v' s t hmin
    rw [hf]
    exact sO_no b0 16 o _ _ ⟨ho, hx, hy⟩
  · intro u' v' s t hmin hle
    have hid : opP 0 (pln W H l) = pln W H l := by unfold opP; simp only [Nat.zero_testBit, act_id]
    obtain ⟨h1, h2⟩ : IsForm (pln W H l) (sO u v fm b0 1).u (sO u v fm b0 1).v (sO u v fm b0 1).f ∧ (sO u v fm b0 1).o = 0 := by
      refine sO_all (p := fun Z => IsForm (pln W H l) Z.u Z.v Z.f ∧ Z.o = 0) ?_ fun o x y ho _ _ => ⟨hfo o x y (by omega), show o = 0 by omega⟩
      rw [hb0]
      exact ⟨⟨false, false, false, false, by rw [act_id]; exact hm, 0, 0, by rw [act_id]⟩, rfl⟩
    have h3 := hle _ _ _ h1
    rw [← hid] at hmin
    obtain ⟨rfl, rfl, x, y, hx, hy, hf⟩ := hwf 0 (by omega) u' v' s t hmin
    rw [hid] at hf
    have h4 := sO_no (u := u) (v := v) (fm := fm) b0 1 0 x y ⟨by omega, hx, hy⟩
    rw [hf] at h3 hle
    have hl1 : OkB (sO u v fm b0 1) := sO_all hok0 fun o x y ho _ _ => hok o x y (by omega)
    obtain ⟨e1, e2, e3⟩ := bfr_total hl1.2.2 (hok 0 x y (by omega)).2.2 h3 h4
    rw [sO_stay (n := 16) (fun o x' y' ho _ _ => by rw [e1, e2, e3]; exact hle _ _ _ (hfo o x' y' (by omega))) 16 (by omega) (by omega), h2]
  · exact sO_all hok0 fun o x y ho _ _ => hok o x y ho
  clear hop hsim hck
  have hck := check_c false (gs := [⟨W, H, b, l⟩]) (by simp) (by simp; omega)
  have hfw : ∀ o, o < 16 → ∀ x y, x < u o → y < v o → Contract Tryz.prog 31 [GA (D o).1 (D o).2.1 false (D o).2.2.1, I x, I y, I (u o), I (v o)] (GR (u o) (v o) false (fm o x y)) := fun o ho x y hx hy => by
    obtain ⟨d1, d2, d3, d4, d5, _, d7, d8, d9, _⟩ := hD o ho
    have := window_c d1 d3 (by omega) (by omega) false d5 (x0 := x) (y0 := y) (w := u o) (h := v o) (by omega) (by omega) d7.w0 d7.h0 (by omega) (by omega)
    rwa [hfm'] at this
  have hbe : ∀ o, o < 16 → ∀ x y (Z : Bf), OkB Z → Contract Tryz.prog 32 [GA (u o) (v o) false (fm o x y), GA Z.u Z.v false Z.f] (B (bfr (u o) (v o) (fm o x y) Z.u Z.v Z.f)) := fun o ho x y Z hB => by
    obtain ⟨o1, o2, o3⟩ : u o ≤ 16 ∧ v o ≤ 16 ∧ (fm o x y).length = u o * v o := hok o x y ho
    obtain ⟨p1, p2, p3⟩ := hB
    exact before_c false false (by omega) (by omega) (by omega) (by omega) o3 p3
  clear hfm hu hv
  refine zi Tryz.func9 ?_
  refine zs ?_
  refine zc hck ?_
  refine zs ?_
  refine zc (hrect) ?_
  refine zs ?_
  refine zc hwin ?_
  refine zs ?_
  refine loopK_WW [1, 2, 3, 4, 6, 7, 9, 10, 36] (fun o : Nat => o ≤ 16 ∧ OkB (sO u v fm b0 o)) (fun o => ⟨[(1, .ptr 0 0 3), (2, .ptr 1 0 3), (3, I 0), (4, I 0), (6, I w), (7, I h), (9, .ptr 2 0 3), (10, I (sO u v fm b0 o).o), (36, I o)], [⟨24, 3, [I W, I H, BA b l]⟩, ⟨24, 3, [I 0, I 0, .cap0 true]⟩, ⟨24, 3, [I (sO u v fm b0 o).u, I (sO u v fm b0 o).v, BR false (sO u v fm b0 o).f]⟩]⟩) (fun o => 16 - o) 0 ⟨by omega, hok0⟩ (by simp only [↓RP, RG, FX, RQ, ↓reduceIte, Nat.reduceEqDiff, reduceCtorEq, Nat.reduceBEq, Nat.reduceAdd, Nat.reduceLeDiff]; refine Wk.of_eq ?_; rw [show sO u v fm b0 0 = b0 from rfl, hb0]; rfl) ?_
  rintro o ⟨ho, hB⟩
  by_cases hlo : o < 16
  · obtain ⟨d1, d2, d3, d4, d5, _, d7, d8, d9, hap, hrc⟩ := hD o hlo
    have hfwo := hfw o hlo
    have hbeo := hbe o hlo
    have hso : sO u v fm b0 (o + 1) = sY u v fm o (v o) (sO u v fm b0 o) := rfl
    generalize sO u v fm b0 o = Z0 at *
    generalize (D o).1 = ow at *
    generalize (D o).2.1 = oh at *
    generalize (D o).2.2.1 = ol at *
    refine zs ?_
    refine zc hwin ?_
    refine zs ?_
    refine zc hap ?_
    refine zs ?_
    refine zc hrc ?_
    refine zs ?_
    refine loopK_I [1, 2, 3, 4, 6, 7, 9, 10, 11, 12, 13, 14, 36, 51, 52] (fun y : Nat => y ≤ v o ∧ OkB (sY u v fm o y Z0)) (fun y => ⟨[(1, .ptr 0 0 3), (2, .ptr 1 0 3), (3, I 0), (4, I 0), (6, I w), (7, I h), (9, .ptr 2 0 3), (10, I (sY u v fm o y Z0).o), (11, I o), (12, .ptr 3 0 3), (13, I (u o)), (14, I (v o)), (36, I o), (51, I (v o)), (52, I y)], [⟨24, 3, [I W, I H, BA b l]⟩, ⟨24, 3, [I 0, I 0, .cap0 true]⟩, ⟨24, 3, [I (sY u v fm o y Z0).u, I (sY u v fm o y Z0).v, BR false (sY u v fm o y Z0).f]⟩, ⟨24, 3, [I ow, I oh, BR false ol]⟩]⟩) (fun y => v o - y) 0 ⟨by omega, hB⟩ kz ?_
    rintro y ⟨hy, hBy⟩
    by_cases hly : y < v o
    · have hsy : sY u v fm o (y + 1) Z0 = sX u v fm o y (u o) (sY u v fm o y Z0) := rfl
      generalize sY u v fm o y Z0 = Z1 at *
      refine zs ?_
      refine loopK_WW [1, 2, 3, 4, 6, 7, 9, 10, 11, 12, 13, 14, 16, 36, 51, 52, 55, 56] (fun x : Nat => x ≤ u o ∧ OkB (sX u v fm o y x Z1)) (fun x => ⟨[(1, .ptr 0 0 3), (2, .ptr 1 0 3), (3, I 0), (4, I 0), (6, I w), (7, I h), (9, .ptr 2 0 3), (10, I (sX u v fm o y x Z1).o), (11, I o), (12, .ptr 3 0 3), (13, I (u o)), (14, I (v o)), (16, I y), (36, I o), (51, I (v o)), (52, I y), (55, I (u o)), (56, I x)], [⟨24, 3, [I W, I H, BA b l]⟩, ⟨24, 3, [I 0, I 0, .cap0 true]⟩, ⟨24, 3, [I (sX u v fm o y x Z1).u, I (sX u v fm o y x Z1).v, BR false (sX u v fm o y x Z1).f]⟩, ⟨24, 3, [I ow, I oh, BR false ol]⟩]⟩) (fun x => u o - x) 0 ⟨by omega, hBy⟩ (by simp only [↓RP, RG, FX, RQ, ↓reduceIte, Nat.reduceEqDiff, reduceCtorEq, Nat.reduceBEq, Nat.reduceAdd, Nat.reduceLeDiff]; exact Wk.of_eq rfl) ?_
      rintro x ⟨hx, hBx⟩
      by_cases hlx : x < u o
      · have hfx := hfwo x y hlx hly
        have hbx := hbeo x y _ hBx
        have hokx := hstp o y x _ hlo hBx
        have hsx : sX u v fm o y (x + 1) Z1 = stpB u v fm o y x (sX u v fm o y x Z1) := rfl
        generalize sX u v fm o y x Z1 = Z at *
        cases hc : bfr (u o) (v o) (fm o x y) Z.u Z.v Z.f with
        | true =>
          rw [hc] at hbx
          have hst : stpB u v fm o y x Z = ⟨u o, v o, fm o x y, o⟩ := by unfold stpB; rw [hc, if_pos rfl]
          rw [hst] at hsx hokx
          refine zs ?_
          refine zc hfx ?_
          refine zs ?_
          refine zc hbx ?_
          refine zs ?_
          refine ⟨x + 1, ⟨hlx, by rw [hsx]; exact hokx⟩, (Wk.drop (hb := []) (h1 := []) (gs := [_, _, _, _, _]) 8 [0, 1, 2, 3] rfl (by decide) (by simp) (by simp)).trans (Wk.of_eq ?_), by omega⟩
          rw [hsx]
          simp only [RK, List.idxOf?_cons, List.idxOf?_nil, Nat.reduceBEq, Option.map_some, Option.map_none, List.map_cons, List.map_nil, List.getD_cons_zero, List.getD_cons_succ, Bool.false_eq_true, ↓reduceIte, Nat.add_zero, List.append_nil, map_ren_bools]
          rfl
        | false =>
          rw [hc] at hbx
          have hst : stpB u v fm o y x Z = Z := by unfold stpB; rw [hc, if_neg (by simp)]
          rw [hst] at hsx hokx
          refine zs ?_
          refine zc hfx ?_
          refine zs ?_
          refine zc hbx ?_
          refine zs ?_
          refine ⟨x + 1, ⟨hlx, by rw [hsx]; exact hokx⟩, (Wk.drop (hb := []) (h1 := []) (gs := [_, _, _, _, _]) 8 [0, 1, 2, 3] rfl (by decide) (by simp) (by simp)).trans (Wk.of_eq ?_), by omega⟩
          rw [hsx]
          simp only [RK, List.idxOf?_cons, List.idxOf?_nil, Nat.reduceBEq, Option.map_some, Option.map_none, List.map_cons, List.map_nil, List.getD_cons_zero, List.getD_cons_succ, Bool.false_eq_true, ↓reduceIte, Nat.add_zero, List.append_nil, map_ren_bools]
          rfl
      · have ex : u o = x := by omega
        subst ex
        refine zs ?_
        exact ⟨y + 1, ⟨hly, by rw [hsy]; exact hBx⟩, by rw [hsy]; rfl, by omega⟩
    · have ey : v o = y := by omega
      subst ey
      refine zs ?_
      refine ⟨o + 1, ⟨hlo, by rw [hso]; exact hBy⟩, (Wk.drop (hb := []) (h1 := []) (gs := [_, _, _, _]) 8 [0, 1, 2] rfl (by decide) (by simp) (by simp)).trans (Wk.of_eq ?_), by omega⟩
      rw [hso]
      simp only [RK, List.idxOf?_cons, List.idxOf?_nil, Nat.reduceBEq, Option.map_some, Option.map_none, List.map_cons, List.map_nil, List.getD_cons_zero, List.getD_cons_succ, Bool.false_eq_true, ↓reduceIte, Nat.add_zero, List.append_nil, map_ren_bools]
      rfl
  · obtain rfl : o = 16 := by omega
    generalize sO u v fm b0 16 = Z at *
    refine zs ?_
    exact zq3
end
theorem first_nat (p : Nat → Prop) : ∀ n, p n → ∃ m, m ≤ n ∧ p m ∧ ∀ k, k < m → ¬ p k := by
  classical
  intro n
  induction n using Nat.strongRecOn with
  | ind n ih =>
    intro hp
    by_cases h : ∃ k, k < n ∧ p k
    · obtain ⟨k, hk, hpk⟩ := h
      obtain ⟨m, h1, h2, h3⟩ := ih k hk hpk
      exact ⟨m, by omega, h2, h3⟩
    · exact ⟨n, Nat.le_refl _, hp, fun k hk hpk => h ⟨k, hk, hpk⟩⟩
theorem row_pln {W H : Nat} (hH0 : 0 < H) (l : List Bool) {x : Nat} (hx : x < W) (y : Nat) : (rowL W l (y % H)).getD x false = pln W H l x y := by
  rw [rowL_get hx, pln_nat, Nat.mod_eq_of_lt hx]
section
variable {W H W' H' : Nat} (hW0 : 0 < W) (hH0 : 0 < H) (hW : W ≤ 64) (hH : H ≤ 64) (hW0' : 0 < W') (hH0' : 0 < H') (hW' : W' ≤ 64) (hH' : H' ≤ 64) (b b' : Bool) {l l' : List Bool} (hn : l.length = W * H) (hn' : l'.length = W' * H')
include hW0 hH0 hW hH hW0' hH0' hW' hH' hn hn'
set_option maxHeartbeats 4000000 in
theorem offset_c : ∃ px py e : Int, Contract Tryz.prog 64 [GA W H b l, GA W' H' b' l'] (.tuple [.agg [I px, I py], I e]) ∧ (W = W' → H = H' → l = l' → e = 0) := by
  classical
  obtain ⟨A, B', C, N, L, hA, hC, hb, ha, _⟩ := lat_some hW0 hH0 l
  obtain ⟨A', B'', C', N', L', hA', hC', hb', ha', _⟩ := lat_some hW0' hH0' l'
  have q1 := of_c hW0 hH0 hW hH b hn L hA hC hb ha
  have q2 := of_c hW0' hH0' hW' hH' b' hn' L' hA' hC' hb' ha'
  have a0 := L.a0
  have c0 := L.c0
  have heq : W = W' → H = H' → l = l' → A = A' ∧ B' = B'' ∧ C = C' := by
    rintro rfl rfl rfl
    have e1 : A = A' := Nat.le_antisymm (L.ma _ L'.a0 L'.ra) (L'.ma _ L.a0 L.ra)
    subst e1
    have e2 : C = C' := by
      rcases Nat.lt_trichotomy C C' with h | h | h
      · exact absurd L.rc (L'.mc C c0 h B' L.bA)
      · exact h
      · exact absurd L'.rc (L.mc C' L'.c0 h B'' L'.bA)
    subst e2
    have e3 : B' = B'' := by
      rcases Nat.lt_trichotomy B' B'' with h | h | h
      · exact absurd L.rc (hb' B' h)
      · exact h
      · exact absurd L'.rc (hb B'' h)
    exact ⟨rfl, e3, rfl⟩
  by_cases hsame : A = A' ∧ B' = B'' ∧ C = C'
  rotate_left
  · refine ⟨0, 0, 6, ?_, fun h1 h2 h3 => absurd (heq h1 h2 h3) hsame⟩
    have hne : ¬ ((A : Int) = A' ∧ (B' : Int) = B'' ∧ (C : Int) = C') := fun h => hsame ⟨by omega, by omega, by omega⟩
    refine zi Tryz.func64 ?_
    refine zs ?_
    refine zc (q1) ?_
    refine zs ?_
    refine zc (q2) ?_
    have hcmp : ((A : Int) == A' && ((B' : Int) == B'' && (C : Int) == C')) = false := by
      rw [Bool.eq_false_iff]; intro h; simp only [Bool.and_eq_true, beq_iff_eq] at h; exact hne h
    refine zx1 @hcmp ?_
    exact zq2
  obtain ⟨rfl, rfl, rfl⟩ := hsame
  have hcmp : ((A : Int) == A && ((B' : Int) == B' && (C : Int) == C)) = true := by simp
  have hAC : A * C ≤ 64 * 64 := Nat.mul_le_mul (by omega) (by omega)
  obtain ⟨ce, hce⟩ : ∃ ce : Nat → Nat → Nat → Bool, ce = fun y x i => (pln W H l ((i % A : Nat) : Int) ((i / A : Nat) : Int) == pln W' H' l' ((i % A + x : Nat) : Int) ((i / A + y : Nat) : Int)) := ⟨_, rfl⟩
  have hrow := fun y => row_c hW0 hH0 hW hH b hn y
  have hrow' := fun y => row_c hW0' hH0' hW' hH' b' hn' y
  have hmod := fun a => pmod_c a hW0' (by omega)
  have hceg : ∀ y x i, ce y x i = ((rowL W l ((i / A) % H)).getD (i % A) false == (rowL W' l' ((i / A + y) % H')).getD ((i % A + x) % W') false) := fun y x i => by
    rw [hce]
    show (pln W H l ((i % A : Nat) : Int) ((i / A : Nat) : Int) == pln W' H' l' ((i % A + x : Nat) : Int) ((i / A + y : Nat) : Int)) = _
    rw [← row_pln hH0 l (show i % A < W by have := Nat.mod_lt i a0; omega)]
    have e := (pln_perX W' H' l').mod ((i % A + x : Nat) : Int) ((i / A + y : Nat) : Int)
    rw [← Int.natCast_emod] at e
    rw [← e, ← row_pln hH0' l' (Nat.mod_lt _ hW0')]
  have hself : W = W' → H = H' → l = l' → ∀ i, ce 0 0 i = true := by
    rintro rfl rfl rfl i
    rw [hce]; simp
  clear hce
  obtain ⟨y1, x1, hy1, hx1, hfd, hno⟩ : ∃ y1 x1 : Nat, y1 ≤ C ∧ (y1 < C → x1 < A) ∧ (y1 < C → ∀ i, i < A * C → ce y1 x1 i = true) ∧ ∀ y x, y < C → x < A → (y < y1 ∨ (y = y1 ∧ x < x1)) → ¬ ∀ i, i < A * C → ce y x i = true := by
    obtain ⟨y1, h1, h2, h3⟩ := first_nat (fun y => y = C ∨ ∃ x, x < A ∧ ∀ i, i < A * C → ce y x i = true) C (.inl rfl)
    by_cases hy : y1 < C
    · obtain ⟨x0, hx0, hx0'⟩ := h2.resolve_left (by omega)
      obtain ⟨x1, g1, ⟨g2, g3⟩, g4⟩ := first_nat (fun x => x < A ∧ ∀ i, i < A * C → ce y1 x i = true) x0 ⟨hx0, hx0'⟩
      refine ⟨y1, x1, h1, fun _ => g2, fun _ => g3, fun y x hyC hxA h hall => ?_⟩
      rcases h with h | ⟨rfl, h⟩
      · exact h3 y h (.inr ⟨x, hxA, hall⟩)
      · exact g4 x h ⟨hxA, hall⟩
    · refine ⟨y1, 0, h1, fun h => absurd h hy, fun h => absurd h hy, fun y x hyC hxA h hall => ?_⟩
      rcases h with h | ⟨_, h⟩
      · exact h3 y h (.inr ⟨x, hxA, hall⟩)
      · omega
  refine ⟨if y1 < C then (x1 : Int) else 0, if y1 < C then (y1 : Int) else 0, if y1 < C then 0 else 6, ?_, fun h1 h2 h3 => ?_⟩
  rotate_left
  · have h0 := hself h1 h2 h3
    by_cases hy : y1 < C
    · rw [if_pos hy]
    · exact absurd (fun i _ => h0 i) (hno 0 0 (by omega) (by omega) (.inl (by omega)))
  clear hself
  refine zi Tryz.func64 ?_
  refine zs ?_
  refine zc (q1) ?_
  refine zs ?_
  refine zc (q2) ?_
  refine zx1 @hcmp ?_
  refine loopK_I [2, 3, 4, 5, 6, 8, 38, 39] (fun y : Nat => y ≤ y1) (fun y => ⟨[(2, .ptr 0 0 3), (3, .ptr 1 0 3), (4, .ptr 2 0 2), (5, I 0), (6, .ptr 3 0 3), (8, .ptr 4 0 3), (38, I C), (39, I y)], [⟨24, 3, [I W, I H, BA b l]⟩, ⟨24, 3, [I W', I H', BA b' l']⟩, ⟨102, 2, [I 0, I 0]⟩, ⟨55, 3, [I A, I B', I C]⟩, ⟨55, 3, [I A, I B', I C]⟩]⟩) (fun y => C - y) 0 (by omega) kz ?_
  intro y hy
  by_cases hlt : y < C
  · refine zs ?_
    refine loopK_I [2, 3, 4, 5, 6, 8, 9, 38, 39, 43, 44] (fun x : Nat => x ≤ A ∧ (y = y1 → x ≤ x1)) (fun x => ⟨[(2, .ptr 0 0 3), (3, .ptr 1 0 3), (4, .ptr 2 0 2), (5, I 0), (6, .ptr 3 0 3), (8, .ptr 4 0 3), (9, I y), (38, I C), (39, I y), (43, I A), (44, I x)], [⟨24, 3, [I W, I H, BA b l]⟩, ⟨24, 3, [I W', I H', BA b' l']⟩, ⟨102, 2, [I 0, I 0]⟩, ⟨55, 3, [I A, I B', I C]⟩, ⟨55, 3, [I A, I B', I C]⟩]⟩) (fun x => A - x) 0 ⟨by omega, fun _ => by omega⟩ kz ?_
    rintro x ⟨hxA, hxy⟩
    by_cases hlx : x < A
    · have m0 : (A : Int) * (C : Int) = ((A * C : Nat) : Int) := by rw [Int.natCast_mul]
      obtain ⟨sm, hsm⟩ : ∃ sm : Nat → Bool, sm = fun i => decide (∀ j, j < i → ce y x j = true) := ⟨_, rfl⟩
      have hsm0 : sm 0 = true := by rw [hsm]; exact decide_eq_true fun j hj => by omega
      have hsme : sm (A * C) = true ↔ ∀ j, j < A * C → ce y x j = true := by rw [hsm]; exact decide_eq_true_iff
      have hsms : ∀ i, sm (i + 1) = (sm i && ce y x i) := fun i => by
        rw [hsm, Bool.eq_iff_iff]
        simp only [Bool.and_eq_true, decide_eq_true_eq]
        constructor
        · intro h; exact ⟨fun j hj => h j (by omega), h i (by omega)⟩
        · rintro ⟨h1, h2⟩ j hj
          by_cases e : j = i
          · rw [e]; exact h2
          · exact h1 j (by omega)
      clear hsm
      refine zx1 @m0 ?_
      refine loopK_I [2, 3, 4, 5, 6, 8, 9, 10, 11, 38, 39, 43, 44, 51, 52] (fun i : Nat => i ≤ A * C) (fun i => ⟨[(2, .ptr 0 0 3), (3, .ptr 1 0 3), (4, .ptr 2 0 2), (5, I 0), (6, .ptr 3 0 3), (8, .ptr 4 0 3), (9, I y), (10, I x), (11, B (sm i)), (38, I C), (39, I y), (43, I A), (44, I x), (51, I ((A * C : Nat) : Int)), (52, I i)], [⟨24, 3, [I W, I H, BA b l]⟩, ⟨24, 3, [I W', I H', BA b' l']⟩, ⟨102, 2, [I 0, I 0]⟩, ⟨55, 3, [I A, I B', I C]⟩, ⟨55, 3, [I A, I B', I C]⟩]⟩) (fun i => A * C - i) 0 (by omega) (by simp only [↓RP, RG, FX, RQ, ↓reduceIte, Nat.reduceEqDiff, reduceCtorEq, Nat.reduceBEq, Nat.reduceAdd, Nat.reduceLeDiff]; rw [hsm0]; rfl) ?_
      intro i hi
      by_cases hli : i < A * C
      · have r1 := rem_int2 (a := (i : Int)) (b := (A : Int)) (by omega) (by omega)
        have r2 := quo_int2 (a := (i : Int)) (b := (A : Int)) (by omega) (by omega) (by omega)
        rw [Int.toNat_natCast, Int.toNat_natCast] at r1 r2
        have hsi := hsms i
        have hci := hceg y x i
        have k1 : i % A < A := Nat.mod_lt _ a0
        have k2 : i / A < C := Nat.div_lt_of_lt_mul hli
        generalize i % A = p at *
        generalize i / A = q at *
        cases hc : sm i with
        | false =>
          rw [hc, Bool.false_and] at hsi
          refine zx2 @r1 @r2 ?_
          exact ⟨i + 1, hli, by rw [hsi]; rfl, by omega⟩
        | true =>
          rw [hc, Bool.true_and, hci] at hsi
          have g1 := hrow (q : Int)
          have g2 := hrow' (((q + y : Nat) : Int))
          have g3 := hmod (((p + x : Nat) : Int))
          rw [← Int.natCast_emod, Int.toNat_natCast] at g1 g2
          rw [← Int.natCast_emod] at g3
          have l1 := rowL_len hn (Nat.mod_lt q hH0)
          have l2 := rowL_len hn' (Nat.mod_lt (q + y) hH0')
          have l3 : (p + x) % W' < W' := Nat.mod_lt _ hW0'
          generalize rowL W l (q % H) = R1 at *
          generalize rowL W' l' ((q + y) % H') = R2 at *
          generalize (p + x) % W' = z at *
          have n1 : (q : Int) + (y : Int) = ((q + y : Nat) : Int) := by omega
          have n2 : (p : Int) + (x : Int) = ((p + x : Nat) : Int) := by omega
          refine zx2 @r1 @r2 ?_
          refine callK_F 6 g1 (by simp (disch := first | assumption | omega | rfl | simp only [RH]) only [↓RP, RZ, ↓reduceIte, Nat.reduceEqDiff, reduceCtorEq, Nat.reduceBEq, Nat.reduceAdd, Nat.reduceLeDiff, RA] <;> rfl) (.inr (by simp [noRef, bools_noRef])) ?_
          refine zx2 @n1 @n2 ?_
          refine callK_F 6 g2 (by simp (disch := first | assumption | omega | rfl | simp only [RH]) only [↓RP, RZ, ↓reduceIte, Nat.reduceEqDiff, reduceCtorEq, Nat.reduceBEq, Nat.reduceAdd, Nat.reduceLeDiff, RA] <;> rfl) (.inr (by simp [noRef, bools_noRef])) ?_
          refine zx2 @n1 @n2 ?_
          refine zc g3 ?_
          refine zx2 @n1 @n2 ?_
          exact ⟨i + 1, hli, by rw [hsi]; rfl, by omega⟩
      · obtain rfl : A * C = i := by omega
        by_cases hhit : y = y1 ∧ x = x1
        · obtain ⟨rfl, rfl⟩ := hhit
          rw [hsme.2 (hfd hlt)]
          simp only [if_pos hlt]
          refine zs ?_
          exact zq2
        · have hnot : sm (A * C) = false := by
            rw [Bool.eq_false_iff]
            intro h
            refine hno y x hlt hlx ?_ (hsme.1 h)
            by_cases e : y = y1
            · exact .inr ⟨e, by have := hxy e; omega⟩
            · exact .inl (by omega)
          rw [hnot]
          refine zs ?_
          exact ⟨x + 1, ⟨hlx, fun e => by have := hxy e; omega⟩, rfl, by omega⟩
    · obtain rfl : A = x := by omega
      have hyy : y ≠ y1 := fun e => by have := hxy e; have := hx1 (by omega); omega
      refine zs ?_
      exact ⟨y + 1, by omega, rfl, by omega⟩
  · obtain rfl : y1 = y := by omega
    simp only [if_neg hlt]
    refine zs ?_
    exact zq2
end
def lkL (e : Nat → Int) (n : Nat) : List Int := ((List.range n).filter fun o => decide (e o = 0)).map Int.ofNat
theorem lkL_succ (e : Nat → Int) (n : Nat) : lkL e (n + 1) = if e n = 0 then lkL e n ++ [(n : Int)] else lkL e n := by
  unfold lkL
  rw [List.range_succ, List.filter_append]
  by_cases h : e n = 0
  · rw [if_pos h, List.filter_cons_of_pos (by simpa using h), List.map_append]; rfl
  · rw [if_neg h, List.filter_cons_of_neg (by simpa using h), List.filter_nil, List.append_nil]
theorem lkL_len (e : Nat → Int) (n : Nat) : (lkL e n).length ≤ n := by
  unfold lkL
  rw [List.length_map]
  have := List.length_filter_le (fun o => decide (e o = 0)) (List.range n)
  simpa using this
theorem lkL_zero {e : Nat → Int} (h : e 0 = 0) : ∀ n, ∃ t, lkL e (n + 1) = 0 :: t
  | 0 => ⟨[], by rw [lkL_succ, if_pos h]; rfl⟩
  | n + 1 => by
    obtain ⟨t, ht⟩ := lkL_zero h n
    rw [lkL_succ, ht]
    split
    · exact ⟨t ++ [((n + 1 : Nat) : Int)], rfl⟩
    · exact ⟨t, rfl⟩
theorem apU_id {W H : Nat} (hW0 : 0 < W) {l : List Bool} (hn : l.length = W * H) : tabN W (apU W H l false false false false) (W * H) = l := by
  refine List.ext_getElem (by rw [tabN_len, hn]) fun i h1 h2 => ?_
  have hi : i < W * H := by rwa [tabN_len] at h1
  have k1 : i % W < W := Nat.mod_lt _ hW0
  have k2 : i / W < H := Nat.div_lt_of_lt_mul hi
  have hd : W * (i / W) + i % W = i := Nat.div_add_mod ..
  have := tabN_get W (apU W H l false false false false) k1 (idx_lt k1 k2)
  rw [hd] at this
  rw [List.getD_eq_getElem?_getD, List.getElem?_eq_getElem h1, Option.getD_some] at this
  rw [this]
  unfold apU
  simp only [if_false, Bool.false_eq_true, Bool.bne_false]
  rw [hd, List.getD_eq_getElem?_getD, List.getElem?_eq_getElem h2, Option.getD_some]
section
variable {W H : Nat} (hW0 : 0 < W) (hH0 : 0 < H) (hW : W ≤ 16) (hH : H ≤ 16) (b b' : Bool) {l : List Bool} (hn : l.length = W * H)
include hW0 hH0 hW hH hn
set_option maxHeartbeats 4000000 in
theorem alike_c : ∃ X : List Int, X.length ≤ 16 ∧ (∃ t, X = 0 :: t) ∧ Contract Tryz.prog 19 [GA W H b l, GA W H b' l] (.tuple [LR X.isEmpty X, I 0]) := by
  have hck := check_c false (gs := [⟨W, H, b, l⟩, ⟨W, H, b', l⟩]) (by simp) (by simp; omega)
  have hdat : ∀ o : Nat, ∃ d : Nat × Nat × List Bool × Int × Int × Int, o < 16 → d.1 ≤ 16 ∧ d.2.1 ≤ 16 ∧ d.2.2.1.length = d.1 * d.2.1 ∧ (o = 0 → d.2.2.2.2.2 = 0)
      ∧ Contract Tryz.prog 26 [GA W H b l, I o] (GR d.1 d.2.1 false d.2.2.1) ∧ Contract Tryz.prog 64 [GA d.1 d.2.1 false d.2.2.1, GA W H b' l] (.tuple [.agg [I d.2.2.2.1, I d.2.2.2.2.1], I d.2.2.2.2.2]) := fun o => by
    by_cases ho0 : o = 0
    · subst ho0
      obtain ⟨a4, a1, a2, a8⟩ := op_and (op := 0) (by omega)
      have hap := applied_g hW0 hH0 (by omega) (by omega) b hn false false false false ((0 : Nat) : Int) a4 a1 a2 a8
      simp only [if_false, Bool.false_eq_true] at hap
      rw [apU_id hW0 hn] at hap
      obtain ⟨px, py, e, h1, h2⟩ := offset_c hW0 hH0 (by omega) (by omega) hW0 hH0 (by omega) (by omega) false b' hn hn
      exact ⟨(W, H, l, px, py, e), fun _ => ⟨by omega, by omega, hn, fun _ => h2 rfl rfl rfl, hap, h1⟩⟩
    by_cases ho : o < 16
    · obtain ⟨ow, oh, ol, e1, e2, hol, hs, hap, _⟩ := apply_c hW0 hH0 hW hH b hn ho
      have w1 : 0 < ow ∧ ow ≤ 16 := by rw [e1]; split <;> omega
      have w2 : 0 < oh ∧ oh ≤ 16 := by rw [e2]; split <;> omega
      obtain ⟨px, py, e, h1, h2⟩ := offset_c w1.1 w2.1 (by omega) (by omega) hW0 hH0 (by omega) (by omega) false b' hol hn
      exact ⟨(ow, oh, ol, px, py, e), fun _ => ⟨w1.2, w2.2, hol, fun h => absurd h ho0, hap, h1⟩⟩
    · exact ⟨(0, 0, [], 0, 0, 0), fun h => absurd h ho⟩
  obtain ⟨D, hD⟩ := Classical.skolem.1 hdat
  clear hdat
  obtain ⟨er, her⟩ : ∃ er : Nat → Int, er = fun o => (D o).2.2.2.2.2 := ⟨_, rfl⟩
  have her' : ∀ o, (D o).2.2.2.2.2 = er o := fun o => by rw [her]
  simp only [her'] at hD
  clear her her'
  have hz : ∃ t, lkL er 16 = 0 :: t := lkL_zero ((hD 0 (by omega)).2.2.2.1 rfl) 15
  have hlk : Contract Tryz.prog 43 [GA W H b l, GA W H b' l] (LR (lkL er 16).isEmpty (lkL er 16)) := by
    refine zi Tryz.func43 ?_
    refine zs ?_
    refine loopK_WW [2, 3, 5, 9] (fun o : Nat => o ≤ 16) (fun o => ⟨[(2, .ptr 0 0 3), (3, .ptr 1 0 3), (5, gw true 2 (ints (lkL er o))), (9, I o)], [⟨24, 3, [I W, I H, BA b l]⟩, ⟨24, 3, [I W, I H, BA b' l]⟩, go 3 (ints (lkL er o))]⟩) (fun o => 16 - o) 0 (by omega) ?_ ?_
    · simp only [↓RP, RG, FX, RQ, ↓reduceIte, Nat.reduceEqDiff, reduceCtorEq, Nat.reduceBEq, Nat.reduceAdd, Nat.reduceLeDiff]
      exact Wk.weak (WE.cons _ (.refl _) (WE.cons _ (.refl _) (WE.cons _ (.nil _) (WE.cons _ (.refl _) WE.nil)))) (.cons _ _ _ _ (WL.refl _) (.cons _ _ _ _ (WL.refl _) (.nil _ (by simp [go, ints, lkL]))))
    intro o ho
    have hle := lkL_len er o
    by_cases hlo : o < 16
    · obtain ⟨d1, d2, d3, _, hap, hof⟩ := hD o hlo
      have hsu := lkL_succ er o
      generalize lkL er o = X at *
      generalize (D o).1 = ow at *
      generalize (D o).2.1 = oh at *
      generalize (D o).2.2.1 = ol at *
      generalize (D o).2.2.2.1 = px at *
      generalize (D o).2.2.2.2.1 = py at *
      have hxl : (ints X).length = X.length := ints_length X
      refine zs ?_
      refine zc hap ?_
      refine zs ?_
      refine zc hof ?_
      refine zs ?_
      by_cases hq : er o = 0
      · rw [if_pos hq] at hsu
        rw [hq]
        refine zx1 @append_int ?_
        refine ⟨o + 1, by omega, (Wk.drop (hb := []) (h1 := []) (gs := [_, _, _, _]) 8 [0, 1, 2] rfl (by decide) (by simp) (by simp)).trans (Wk.of_eq (by rw [hsu]; simp (disch := omega) only [RK, List.idxOf?_cons, List.idxOf?_nil, Nat.reduceBEq, Option.map_some, Option.map_none, List.map_cons, List.map_nil, List.getD_cons_zero, List.getD_cons_succ, Bool.false_eq_true, ↓reduceIte, Nat.add_zero, List.append_nil, map_ren_bools]; rfl)), by omega⟩
      · rw [if_neg hq] at hsu
        refine zx1 @hq ?_
        refine ⟨o + 1, by omega, (Wk.drop (hb := []) (h1 := []) (gs := [_, _, _, _]) 8 [0, 1, 2] rfl (by decide) (by simp) (by simp)).trans (Wk.of_eq (by rw [hsu]; simp (disch := omega) only [RK, List.idxOf?_cons, List.idxOf?_nil, Nat.reduceBEq, Option.map_some, Option.map_none, List.map_cons, List.map_nil, List.getD_cons_zero, List.getD_cons_succ, Bool.false_eq_true, ↓reduceIte, Nat.add_zero, List.append_nil, map_ren_bools]; rfl)), by omega⟩
    · obtain rfl : o = 16 := by omega
      clear hz hD
      generalize lkL er 16 = X at *
      refine zs ?_
      refine zr1 ?_
      simp only [Bool.true_and, ints_isEmpty]
  have hle := lkL_len er 16
  refine ⟨lkL er 16, hle, hz, ?_⟩
  clear hz hD
  generalize lkL er 16 = X at *
  refine zi Tryz.func19 ?_
  refine zs ?_
  refine zc hck ?_
  refine zs ?_
  refine callK_V 6 hlk (by simp (disch := first | assumption | omega | rfl | simp only [RH]) only [↓RP, RZ, ↓reduceIte, Nat.reduceEqDiff, reduceCtorEq, Nat.reduceBEq, Nat.reduceAdd, Nat.reduceLeDiff, RA] <;> rfl) (.inl (by simp [allFresh, ints_fresh])) ?_
  refine zs ?_
  exact zq2
  first | done | rfl
end
theorem faC_get {W H : Nat} {l : List Bool} {x y : Nat} (hy : y < H) : (faC W H l x).getD y false = l.getD (W * y + x) false := by simp [faC, List.getD_eq_getElem?_getD, hy]
theorem faR_get {W : Nat} {l : List Bool} {x y : Nat} (hx : x < W) : (faR W l y).getD x false = !l.getD (W * y + x) false := by simp [faR, List.getD_eq_getElem?_getD, hx]
theorem alK_mem {W H : Nat} {l : List Bool} {c : Bool} {x : Fl} : x ∈ alK W H l c (W + H) ↔ (∃ a, a < W ∧ x ∈ thF true a (faC W H l a) c) ∨ ∃ a, a < H ∧ x ∈ thF false a (faR W l a) c := by
  rw [alK_split, List.mem_append, List.mem_flatMap, List.mem_flatMap]
  simp only [List.mem_range]
theorem stR_iff {f : List Bool} {c : Bool} {i : Nat} : stR f c i = true ↔ f.getD i false = c ∧ pvF f i ≠ c := by
  unfold stR
  simp only [Bool.and_eq_true, beq_iff_eq, Bool.not_eq_true', beq_eq_false_iff_ne]
theorem run_some {f : List Bool} {c : Bool} {y s0 : Nat} (hy : y < f.length) (hc : f.getD y false = c) (hs0 : s0 < f.length) (hs : f.getD s0 false ≠ c) : ∃ i t, i ∈ sts f c ∧ t < lenR f c i ∧ (i + t) % f.length = y := by
  have h0 : 0 < f.length := by omega
  obtain ⟨q, hq⟩ : ∃ q : Nat → Nat, q = fun k => (y + (f.length - k)) % f.length := ⟨_, rfl⟩
  have q0 : q 0 = y := by rw [hq]; show (y + (f.length - 0)) % f.length = y; rw [Nat.sub_zero, Nat.add_mod_right, Nat.mod_eq_of_lt hy]
  have hall : ∀ d, d ≤ f.length → (∀ j, j ≤ d → f.getD (q j) false = c) ∨ ∃ k, k < d ∧ (∀ j, j ≤ k → f.getD (q j) false = c) ∧ f.getD (q (k + 1)) false ≠ c := by
    intro d
    induction d with
    | zero => intro _; refine .inl fun j hj => ?_; rw [show j = 0 by omega, q0]; exact hc
    | succ d ih =>
      intro hd
      rcases ih (by omega) with h | ⟨k, h1, h2⟩
      · by_cases hn : f.getD (q (d + 1)) false = c
        · refine .inl fun j hj => ?_
          by_cases hjd : j ≤ d
          · exact h j hjd
          · rw [show j = d + 1 by omega]; exact hn
        · exact .inr ⟨d, by omega, h, hn⟩
      · exact .inr ⟨k, by omega, h2⟩
  obtain ⟨j, hj, ej⟩ := rot_back (n := f.length) (s := y) hs0
  have hj0 : j ≠ 0 := fun e => hs (by rw [← ej, e, Nat.add_zero, Nat.mod_eq_of_lt hy]; exact hc)
  have eq0 : q (f.length - j) = s0 := by
    rw [hq]
    show (y + (f.length - (f.length - j))) % f.length = s0
    rw [show f.length - (f.length - j) = j by omega]; exact ej
  rcases hall f.length (Nat.le_refl _) with h | ⟨k, hk, h1, h2⟩
  · exact absurd (by rw [← eq0]; exact h _ (by omega)) hs
  have qk : ∀ t, t ≤ k → (q k + t) % f.length = q (k - t) := fun t ht => by
    rw [hq]
    show ((y + (f.length - k)) % f.length + t) % f.length = (y + (f.length - (k - t))) % f.length
    rw [Nat.mod_add_mod]
    congr 1; omega
  have hqk : q k < f.length := by rw [hq]; exact Nat.mod_lt _ h0
  have hpv : pvF f (q k) = f.getD (q (k + 1)) false := by
    rw [pvF_mod hqk]
    congr 1
    rw [hq]
    show ((y + (f.length - k)) % f.length + (f.length - 1)) % f.length = (y + (f.length - (k + 1))) % f.length
    rw [Nat.mod_add_mod, show y + (f.length - k) + (f.length - 1) = (y + (f.length - (k + 1))) + f.length by omega, Nat.add_mod_right]
  refine ⟨q k, k, sts_mem.2 ⟨hqk, stR_iff.2 ⟨h1 k (Nat.le_refl _), by rw [hpv]; exact h2⟩⟩, ?_, by rw [qk k (Nat.le_refl _), Nat.sub_self, q0]⟩
  refine Classical.byContradiction fun hlt => ?_
  have hle : lenR f c (q k) ≤ k := by omega
  have he := lenR_end (f := f) (c := c) (i := q k) (by omega)
  rw [qk _ hle] at he
  exact he (h1 _ (by omega))
theorem thF_facts {w : Bool} {a : Nat} {f : List Bool} {c : Bool} (h0 : 0 < f.length) {x : Fl} (hx : x ∈ thF w a f c) :
    x.w = w ∧ x.a = a ∧ x.f < f.length ∧ 1 ≤ x.n ∧ x.n ≤ f.length ∧ (x.z = decide (x.n = f.length)) ∧ (x.z = true → x.f = 0) ∧ (∀ k, k < x.n → f.getD ((x.f + k) % f.length) false = c) ∧ (x.z = false → f.getD ((x.f + (f.length - 1)) % f.length) false ≠ c ∧ f.getD ((x.f + x.n) % f.length) false ≠ c) := by
  unfold thF at hx
  by_cases h : tw c f = f.length
  · rw [if_pos h, List.mem_singleton] at hx
    subst hx
    refine ⟨rfl, rfl, h0, h0, Nat.le_refl _, (decide_eq_true rfl).symm, fun _ => rfl, fun k hk => ?_, (fun hz => by cases hz)⟩
    exact tw_all h _ (Nat.mod_lt _ h0)
  · rw [if_neg h] at hx
    unfold stL at hx
    obtain ⟨i, hi, rfl⟩ := List.mem_map.1 hx
    obtain ⟨i1, i2⟩ := sts_mem.1 hi
    obtain ⟨s1, s2⟩ := stR_iff.1 i2
    obtain ⟨s, hs, hsc⟩ : ∃ s, s < f.length ∧ f.getD s false ≠ c := by
      refine Classical.byContradiction fun hno => h (whole_iff.2 fun s hs => Classical.byContradiction fun hne => hno ⟨s, hs, hne⟩)
    have hlt := lenR_lt i1 hs hsc
    refine ⟨rfl, rfl, i1, lenR_pos i1 s1, lenR_le f c i, ?_, (fun hz => by cases hz), fun k hk => lenR_in hk, fun _ => ⟨?_, lenR_end hlt⟩⟩
    · show false = decide (lenR f c i = f.length)
      rw [decide_eq_false (by omega)]
    · rw [pvF_mod i1] at s2; exact s2
theorem offs_nhg {W n : Nat} {l : List Bool} {p : Nat → Bool} (h : Offs W n l p) : ¬ Hg W n l := fun hg => by
  obtain ⟨h0, h1, h2⟩ := offs_iff.2 h
  exact h1 (off_hg hg (fil_okS n p) h0 h2)
theorem whole_up {W H : Nat} {l : List Bool} {t : Nat} (ht : t < W + H) : (∀ i, i < (faK W H l t).length → (faK W H l t).getD i false = true) ↔ ∀ c, c < W + H → ov W l c t = false := by
  unfold faK ov
  by_cases h : t < W
  · simp only [if_pos h, faC_len]
    constructor
    · intro hall c hc
      by_cases h2 : c < W
      · rw [if_pos h2]
      · rw [if_neg h2]
        have := hall (c - W) (by omega)
        rw [faC_get (by omega)] at this
        rw [this]; rfl
    · intro hall y hy
      have := hall (W + y) (by omega)
      rw [if_neg (by omega), show W + y - W = y by omega] at this
      rw [faC_get hy]
      simpa using this
  · simp only [if_neg h, faR_len]
    constructor
    · intro hall c hc
      by_cases h2 : c < W
      · rw [if_pos h2]
        have := hall c h2
        rw [faR_get h2] at this
        simpa using this
      · rw [if_neg h2]
    · intro hall x hx
      have := hall x (by omega)
      rw [if_pos hx] at this
      rw [faR_get hx, this]; rfl
theorem whole_dn {W H : Nat} {l : List Bool} {t : Nat} (ht : t < W + H) : (∀ i, i < (faK W H l t).length → (faK W H l t).getD i false = false) ↔ ∀ c, c < W + H → ov W l t c = false := by
  unfold faK ov
  by_cases h : t < W
  · simp only [if_pos h, faC_len]
    constructor
    · intro hall c hc
      by_cases h2 : c < W
      · rw [if_pos h2]
      · rw [if_neg h2]
        have := hall (c - W) (by omega)
        rwa [faC_get (by omega)] at this
    · intro hall y hy
      have := hall (W + y) (by omega)
      rw [if_neg (by omega), show W + y - W = y by omega] at this
      rw [faC_get hy]; exact this
  · simp only [if_neg h, faR_len]
    constructor
    · intro hall c hc
      by_cases h2 : c < W
      · rw [if_pos h2]
        have := hall c h2
        rwa [faR_get h2] at this
      · rw [if_neg h2]
    · intro hall x hx
      have := hall x (by omega)
      rw [if_pos hx] at this
      rw [faR_get hx]; exact this
theorem ov_self (W : Nat) (l : List Bool) (t : Nat) : ov W l t t = false := by
  unfold ov
  by_cases h : t < W
  · rw [if_pos h, if_pos h]
  · rw [if_neg h, if_neg h]
theorem offs_one {W n : Nat} {l : List Bool} {t : Nat} (hn : 2 ≤ n) (ht : t < n) : Offs W n l (fun a => decide (a = t)) ↔ ∀ c, c < n → ov W l c t = false := by
  constructor
  · rintro ⟨_, _, h⟩ c hc
    by_cases e : c = t
    · rw [e]; exact ov_self W l t
    · cases ho : ov W l c t with
      | false => rfl
      | true => exact absurd ⟨decide_eq_false e, decide_eq_true rfl, ho⟩ (h c hc t ht)
  · intro h
    obtain ⟨o, ho, hne⟩ : ∃ o, o < n ∧ o ≠ t := by
      by_cases e : t = 0
      · exact ⟨1, by omega, by omega⟩
      · exact ⟨0, by omega, by omega⟩
    refine ⟨⟨t, ht, decide_eq_true rfl⟩, ⟨o, ho, decide_eq_false hne⟩, fun a ha c hc => ?_⟩
    rintro ⟨h1, h2, h3⟩
    have e : c = t := of_decide_eq_true h2
    rw [e, h a ha] at h3; cases h3
theorem offs_rest {W n : Nat} {l : List Bool} {t : Nat} (hn : 2 ≤ n) (ht : t < n) (h : ∀ c, c < n → ov W l t c = false) : Offs W n l fun a => !decide (a = t) := by
  obtain ⟨o, ho, hne⟩ : ∃ o, o < n ∧ o ≠ t := by
    by_cases e : t = 0
    · exact ⟨1, by omega, by omega⟩
    · exact ⟨0, by omega, by omega⟩
  refine ⟨⟨o, ho, by simp [hne]⟩, ⟨t, ht, by simp⟩, fun a ha c hc => ?_⟩
  rintro ⟨h1, h2, h3⟩
  have e : a = t := by simpa using h1
  rw [e, h c hc] at h3; cases h3
def tno (W : Nat) (x : Fl) : Nat := if x.w then x.a else W + x.a
theorem thF_z {w : Bool} {a : Nat} {f : List Bool} {c : Bool} : (∃ x ∈ thF w a f c, x.z = true) ↔ tw c f = f.length := by
  unfold thF
  by_cases h : tw c f = f.length
  · rw [if_pos h]
    exact ⟨fun _ => h, fun _ => ⟨flW w a f, by simp, rfl⟩⟩
  · rw [if_neg h]
    refine ⟨fun ⟨x, hx, hz⟩ => ?_, fun h' => absurd h' h⟩
    unfold stL at hx
    obtain ⟨i, _, rfl⟩ := List.mem_map.1 hx
    cases hz
theorem al_whole {W H : Nat} (hW0 : 0 < W) (hH0 : 0 < H) {l : List Bool} {c : Bool} {t : Nat} (ht : t < W + H) : (∃ x ∈ alK W H l c (W + H), x.z = true ∧ tno W x = t) ↔ ∀ i, i < (faK W H l t).length → (faK W H l t).getD i false = c := by
  rw [← whole_iff]
  constructor
  · rintro ⟨x, hx, hz, e⟩
    rcases alK_mem.1 hx with ⟨a, ha, h⟩ | ⟨a, ha, h⟩
    · obtain ⟨h1, h2, _⟩ := thF_facts (by rw [faC_len]; exact hH0) h
      unfold tno at e
      rw [h1, if_pos rfl, h2] at e
      subst e
      unfold faK
      rw [if_pos ha]
      exact thF_z.1 ⟨x, h, hz⟩
    · obtain ⟨h1, h2, _⟩ := thF_facts (by rw [faR_len]; exact hW0) h
      unfold tno at e
      rw [h1, if_neg (by simp), h2] at e
      subst e
      unfold faK
      rw [if_neg (by omega), show W + a - W = a by omega]
      exact thF_z.1 ⟨x, h, hz⟩
  · intro h
    unfold faK at h
    by_cases hW : t < W
    · rw [if_pos hW] at h
      obtain ⟨x, hx, hz⟩ := (thF_z (w := true) (a := t)).2 h
      obtain ⟨h1, h2, _⟩ := thF_facts (by rw [faC_len]; exact hH0) hx
      exact ⟨x, alK_mem.2 (.inl ⟨t, hW, hx⟩), hz, by unfold tno; rw [h1, if_pos rfl, h2]⟩
    · rw [if_neg hW] at h
      obtain ⟨x, hx, hz⟩ := (thF_z (w := false) (a := t - W)).2 h
      obtain ⟨h1, h2, _⟩ := thF_facts (by rw [faR_len]; exact hW0) hx
      exact ⟨x, alK_mem.2 (.inr ⟨t - W, by omega, hx⟩), hz, by unfold tno; rw [h1, if_neg (by simp), h2]; omega⟩
theorem al_tno {W H : Nat} (hW0 : 0 < W) (hH0 : 0 < H) {l : List Bool} {c : Bool} {x : Fl} (hx : x ∈ alK W H l c (W + H)) : tno W x < W + H ∧ x.a < W + H ∧ x.n ≤ max W H := by
  unfold tno
  rcases alK_mem.1 hx with ⟨a, ha, h⟩ | ⟨a, ha, h⟩
  · obtain ⟨h1, h2, _, _, h5, _⟩ := thF_facts (by rw [faC_len]; exact hH0) h
    rw [faC_len] at h5
    rw [h1, if_pos rfl, h2]; omega
  · obtain ⟨h1, h2, _, _, h5, _⟩ := thF_facts (by rw [faR_len]; exact hW0) h
    rw [faR_len] at h5
    rw [h1, if_neg (by simp), h2]; omega
theorem whole_apart {W H : Nat} (hW0 : 0 < W) (hH0 : 0 < H) {l : List Bool} {c : Bool} {x : Fl} (hx : x ∈ alK W H l c (W + H)) (hz : x.z = true) : ¬ Hg W (W + H) l := by
  obtain ⟨ht, _⟩ := al_tno hW0 hH0 hx
  have hw := (al_whole hW0 hH0 (c := c) ht).1 ⟨x, hx, hz, rfl⟩
  cases c with
  | true => exact offs_nhg ((offs_one (by omega) ht).2 ((whole_up ht).1 hw))
  | false => exact offs_nhg (offs_rest (by omega) ht ((whole_dn ht).1 hw))
def RunP (P : Int → Int → Bool) (c : Bool) (n : Nat) : Prop := ∃ x y : Int, (∀ k : Nat, k < n → P x (y + k) = c) ∨ ∀ k : Nat, k < n → P (x + k) y = !c
theorem run_sim {P Q : Int → Int → Bool} (h : Sim P Q) {c : Bool} {n : Nat} : RunP Q c n → RunP P c n := by
  obtain ⟨s, t, e⟩ := h
  rintro ⟨x, y, h | h⟩
  · exact ⟨x + s, y + t, .inl fun k hk => by rw [← h k hk, e]; congr 1; omega⟩
  · exact ⟨x + s, y + t, .inr fun k hk => by rw [← h k hk, e]; congr 1; omega⟩
theorem run_dir {f : Int → Bool} {v : Bool} {n : Nat} (b : Bool) {y : Int} (h : ∀ k : Nat, k < n → f (if b then -(y + k) else y + k) = v) : ∃ y' : Int, ∀ k : Nat, k < n → f (y' + k) = v := by
  cases b with
  | true =>
    refine ⟨-y - ((n : Int) - 1), fun k hk => ?_⟩
    have := h (n - 1 - k) (by omega)
    simp only [if_true] at this
    rw [← this]; congr 1; omega
  | false =>
    refine ⟨y, fun k hk => ?_⟩
    have := h k hk
    simpa only [Bool.false_eq_true, if_false] using this
theorem run_act1 (cx ry ex sd : Bool) {P : Int → Int → Bool} {c : Bool} {n : Nat} : RunP (actP cx ry ex sd P) c n → RunP P (xor c (xor ex sd)) n := by
  have hx : ∀ a v : Bool, (a != sd) = v → a = xor v sd := fun a v => by cases a <;> cases sd <;> cases v <;> simp
  rintro ⟨x, y, h | h⟩
  · cases ex with
    | false =>
      obtain ⟨y', h'⟩ := run_dir (f := fun z => P (if cx then -x else x) z) (v := xor c sd) ry (y := y) (n := n) fun k hk => hx _ _ (by have := h k hk; unfold actP at this; simpa only [Bool.false_eq_true, if_false] using this)
      exact ⟨_, y', .inl fun k hk => by rw [h' k hk]; cases c <;> cases sd <;> rfl⟩
    | true =>
      obtain ⟨y', h'⟩ := run_dir (f := fun z => P z (if ry then -x else x)) (v := xor c sd) cx (y := y) (n := n) fun k hk => hx _ _ (by have := h k hk; unfold actP at this; simpa only [if_true] using this)
      exact ⟨y', _, .inr fun k hk => by rw [h' k hk]; cases c <;> cases sd <;> rfl⟩
  · cases ex with
    | false =>
      obtain ⟨x', h'⟩ := run_dir (f := fun z => P z (if ry then -y else y)) (v := xor (!c) sd) cx (y := x) (n := n) fun k hk => hx _ _ (by have := h k hk; unfold actP at this; simpa only [Bool.false_eq_true, if_false] using this)
      exact ⟨x', _, .inr fun k hk => by rw [h' k hk]; cases c <;> cases sd <;> rfl⟩
    | true =>
      obtain ⟨x', h'⟩ := run_dir (f := fun z => P (if cx then -y else y) z) (v := xor (!c) sd) ry (y := x) (n := n) fun k hk => hx _ _ (by have := h k hk; unfold actP at this; simpa only [if_true] using this)
      exact ⟨_, x', .inl fun k hk => by rw [h' k hk]; cases c <;> cases sd <;> rfl⟩
theorem act_inv (cx ry ex sd : Bool) (P : Int → Int → Bool) : actP (if ex then ry else cx) (if ex then cx else ry) ex sd (actP cx ry ex sd P) = P := by
  rw [act_act]
  cases ex <;> cases cx <;> cases ry <;> cases sd <;> simp [act_id]
theorem run_act (cx ry ex sd : Bool) {P : Int → Int → Bool} {c : Bool} {n : Nat} : RunP (actP cx ry ex sd P) c n ↔ RunP P (xor c (xor ex sd)) n := by
  refine ⟨run_act1 cx ry ex sd, fun h => ?_⟩
  rw [← act_inv cx ry ex sd P] at h
  have := run_act1 _ _ _ _ h
  have e : xor (xor c (xor ex sd)) (xor ex sd) = c := by cases c <;> cases ex <;> cases sd <;> rfl
  rwa [e] at this
theorem lgF_iff {xs : List Fl} {n : Nat} : ∀ i, n ≤ lgF xs i ↔ n = 0 ∨ ∃ j, j < i ∧ n ≤ (flD xs j).n
  | 0 => by unfold lgF; constructor <;> (intro h; first | (left; omega) | (rcases h with h | ⟨j, hj, _⟩ <;> omega))
  | i + 1 => by
    have e : lgF xs (i + 1) = max (lgF xs i) (flD xs i).n := rfl
    have ih := lgF_iff (xs := xs) (n := n) i
    rw [e]
    constructor
    · intro h
      by_cases h1 : n ≤ lgF xs i
      · rcases ih.1 h1 with h2 | ⟨j, hj, h2⟩
        · exact .inl h2
        · exact .inr ⟨j, by omega, h2⟩
      · exact .inr ⟨i, by omega, by omega⟩
    · rintro (h | ⟨j, hj, h⟩)
      · omega
      · by_cases hji : j = i
        · subst hji; omega
        · have := ih.2 (.inr ⟨j, by omega, h⟩); omega
theorem lgF_mem {xs : List Fl} {n : Nat} : n ≤ lgF xs xs.length ↔ n = 0 ∨ ∃ x ∈ xs, n ≤ x.n := by
  rw [lgF_iff]
  constructor
  · rintro (h | ⟨j, hj, h⟩)
    · exact .inl h
    · exact .inr ⟨flD xs j, by rw [flD_get hj]; exact List.getElem_mem hj, h⟩
  · rintro (h | ⟨x, hx, h⟩)
    · exact .inl h
    · obtain ⟨j, hj, rfl⟩ := List.mem_iff_getElem.1 hx
      exact .inr ⟨j, hj, by rw [flD_get hj]; exact h⟩
theorem thread_run {w : Bool} {a : Nat} {f : List Bool} {c : Bool} {n s y0 : Nat} (hs : s < f.length) (hsc : f.getD s false ≠ c) (hn : 0 < n) (hy : y0 < f.length) (h : ∀ k, k < n → f.getD ((y0 + k) % f.length) false = c) : ∃ x ∈ thF w a f c, n ≤ x.n := by
  have h0 := h 0 hn
  rw [Nat.add_zero, Nat.mod_eq_of_lt hy] at h0
  obtain ⟨i, t, hi, ht, e⟩ := run_some hy h0 hs hsc
  have hlt := lenR_lt (sts_mem.1 hi).1 hs hsc
  have hle : t + n ≤ lenR f c i := by
    refine Classical.byContradiction fun hno => lenR_end hlt ?_
    have := h (lenR f c i - t) (by omega)
    rw [← e, Nat.mod_add_mod, show i + t + (lenR f c i - t) = i + lenR f c i by omega] at this
    exact this
  have hw : tw c f ≠ f.length := fun hw => hsc (tw_all hw s hs)
  exact ⟨flI w a f c i, by unfold thF; rw [if_neg hw]; exact List.mem_map.2 ⟨i, hi, rfl⟩, by show n ≤ lenR f c i; omega⟩
theorem pln_faC {W H : Nat} (hW0 : 0 < W) (hH0 : 0 < H) {l : List Bool} (x : Int) {y : Nat} (hy : y < H) : (faC W H l (x % (W : Int)).toNat).getD y false = pln W H l x y := by
  have b1 := Int.emod_nonneg x (show (W : Int) ≠ 0 by omega)
  have b2 := Int.emod_lt_of_pos x (show (0 : Int) < W by omega)
  rw [faC_get hy]
  unfold pln
  rw [Int.emod_eq_of_lt (show (0 : Int) ≤ y by omega) (by omega), Int.toNat_natCast]
theorem pln_faR {W H : Nat} (hW0 : 0 < W) (hH0 : 0 < H) {l : List Bool} (y : Int) {x : Nat} (hx : x < W) : (faR W l (y % (H : Int)).toNat).getD x false = !pln W H l x y := by
  rw [faR_get hx]
  unfold pln
  rw [Int.emod_eq_of_lt (show (0 : Int) ≤ x by omega) (by omega), Int.toNat_natCast]
section
variable {W H : Nat} (hW0 : 0 < W) (hH0 : 0 < H) {l : List Bool}
include hW0 hH0
theorem long_run (hg : Hg W (W + H) l) (c : Bool) (n : Nat) : RunP (pln W H l) c n ↔ n ≤ lgF (alK W H l c (W + H)) (alK W H l c (W + H)).length := by
  have hno : ∀ t, t < W + H → ∃ s, s < (faK W H l t).length ∧ (faK W H l t).getD s false ≠ c := fun t ht => by
    refine Classical.byContradiction fun h => ?_
    obtain ⟨x, hx, hz, _⟩ := (al_whole hW0 hH0 (c := c) ht).2 fun i hi => Classical.byContradiction fun hne => h ⟨i, hi, hne⟩
    exact whole_apart hW0 hH0 hx hz hg
  rw [lgF_mem]
  constructor
  · rintro ⟨x, y, h⟩
    rcases Nat.eq_zero_or_pos n with hn | hn
    · exact .inl hn
    refine .inr ?_
    have bx1 := Int.emod_nonneg x (show (W : Int) ≠ 0 by omega)
    have bx2 := Int.emod_lt_of_pos x (show (0 : Int) < W by omega)
    have by1 := Int.emod_nonneg y (show (H : Int) ≠ 0 by omega)
    have by2 := Int.emod_lt_of_pos y (show (0 : Int) < H by omega)
    rcases h with h | h
    · obtain ⟨s, hs, hsc⟩ := hno (x % (W : Int)).toNat (by omega)
      unfold faK at hs hsc
      rw [if_pos (by omega)] at hs hsc
      obtain ⟨z, hz, hzn⟩ := thread_run (w := true) (a := (x % (W : Int)).toNat) hs hsc hn (y0 := (y % (H : Int)).toNat) (by rw [faC_len]; omega) fun k hk => by
        rw [faC_len, pln_faC hW0 hH0 x (Nat.mod_lt _ hH0), ← h k hk]
        have e : (((((y % (H : Int)).toNat + k) % H : Nat)) : Int) = (y + k) % (H : Int) := by
          rw [Int.natCast_emod, Int.natCast_add, Int.toNat_of_nonneg by1, Int.emod_add_emod]
        rw [e, (pln_perY W H l).mod]
      exact ⟨z, alK_mem.2 (.inl ⟨_, by omega, hz⟩), hzn⟩
    · obtain ⟨s, hs, hsc⟩ := hno (W + (y % (H : Int)).toNat) (by omega)
      unfold faK at hs hsc
      rw [if_neg (by omega), show W + (y % (H : Int)).toNat - W = (y % (H : Int)).toNat by omega] at hs hsc
      obtain ⟨z, hz, hzn⟩ := thread_run (w := false) (a := (y % (H : Int)).toNat) hs hsc hn (y0 := (x % (W : Int)).toNat) (by rw [faR_len]; omega) fun k hk => by
        rw [faR_len, pln_faR hW0 hH0 y (Nat.mod_lt _ hW0)]
        have e : (((((x % (W : Int)).toNat + k) % W : Nat)) : Int) = (x + k) % (W : Int) := by
          rw [Int.natCast_emod, Int.natCast_add, Int.toNat_of_nonneg bx1, Int.emod_add_emod]
        rw [e, (pln_perX W H l).mod, h k hk, Bool.not_not]
      exact ⟨z, alK_mem.2 (.inr ⟨_, by omega, hz⟩), hzn⟩
  · rintro (hn | ⟨z, hz, hzn⟩)
    · exact ⟨0, 0, .inl fun k hk => by omega⟩
    rcases alK_mem.1 hz with ⟨a, ha, h⟩ | ⟨a, ha, h⟩
    · obtain ⟨_, _, h3, _, _, _, _, h8, _⟩ := thF_facts (by rw [faC_len]; exact hH0) h
      rw [faC_len] at h3 h8
      refine ⟨a, z.f, .inl fun k hk => ?_⟩
      have := h8 k (by omega)
      have e := pln_faC hW0 hH0 (l := l) (a : Int) (Nat.mod_lt (z.f + k) hH0)
      rw [Int.emod_eq_of_lt (by omega) (by omega), Int.toNat_natCast, this, Int.natCast_emod, (pln_perY W H l).mod] at e
      rw [e, Int.natCast_add]
    · obtain ⟨_, _, h3, _, _, _, _, h8, _⟩ := thF_facts (by rw [faR_len]; exact hW0) h
      rw [faR_len] at h3 h8
      refine ⟨z.f, a, .inr fun k hk => ?_⟩
      have := h8 k (by omega)
      have e := pln_faR hW0 hH0 (l := l) (a : Int) (Nat.mod_lt (z.f + k) hW0)
      rw [Int.emod_eq_of_lt (by omega) (by omega), Int.toNat_natCast, this, Int.natCast_emod, (pln_perX W H l).mod] at e
      rw [e, Bool.not_not, Int.natCast_add]
end
theorem same_plane {W H W' H' : Nat} (hW0 : 0 < W) (hH0 : 0 < H) (hW0' : 0 < W') (hH0' : 0 < H') {l l' : List Bool} (hn : l.length = W * H) (hn' : l'.length = W' * H') (cx ry ex sd : Bool) (h : Sim (actP cx ry ex sd (pln W H l)) (pln W' H' l')) :
    (Hg W (W + H) l ↔ Hg W' (W' + H') l') ∧ (Hg W (W + H) l → ∀ c, lgF (alK W H l c (W + H)) (alK W H l c (W + H)).length = lgF (alK W' H' l' (xor c (xor ex sd)) (W' + H')) (alK W' H' l' (xor c (xor ex sd)) (W' + H')).length) := by
  have p1 : PerX (actP cx ry ex sd (pln W H l)) ((if ex then H else W : Nat) : Int) := act_perX cx ry ex sd (by cases ex; (· exact pln_perX W H l); exact pln_perY W H l)
  have p2 : PerY (actP cx ry ex sd (pln W H l)) ((if ex then W else H : Nat) : Int) := act_perY cx ry ex sd (by cases ex; (· exact pln_perY W H l); exact pln_perX W H l)
  have w1 : 0 < if ex then H else W := by cases ex <;> assumption
  have w2 : 0 < if ex then W else H := by cases ex <;> assumption
  have hh : Hg W (W + H) l ↔ Hg W' (W' + H') l' := by
    rw [hg_plane hn, hg_plane hn', hgP_act cx ry ex sd hW0 hH0 (pln_perX W H l) (pln_perY W H l), hgP_sim w1 w2 p1 p2 h]
    exact hgP_any w1 w2 (h.perX p1) (h.perY p2) hW0' hH0' (pln_perX W' H' l') (pln_perY W' H' l')
  refine ⟨hh, fun hg c => ?_⟩
  have key : ∀ n, n ≤ lgF (alK W H l c (W + H)) (alK W H l c (W + H)).length ↔ n ≤ lgF (alK W' H' l' (xor c (xor ex sd)) (W' + H')) (alK W' H' l' (xor c (xor ex sd)) (W' + H')).length := fun n => by
    rw [← long_run hW0 hH0 hg, ← long_run hW0' hH0' (hh.1 hg)]
    have r := run_act cx ry ex sd (P := pln W H l) (c := xor c (xor ex sd)) (n := n)
    have e : xor (xor c (xor ex sd)) (xor ex sd) = c := by cases c <;> cases ex <;> cases sd <;> rfl
    rw [e] at r
    exact ⟨fun hr => run_sim h.symm (r.2 hr), fun hr => r.1 (run_sim h hr)⟩
  have a1 := (key (lgF (alK W H l c (W + H)) (alK W H l c (W + H)).length)).1 (Nat.le_refl _)
  have a2 := (key (lgF (alK W' H' l' (xor c (xor ex sd)) (W' + H')) (alK W' H' l' (xor c (xor ex sd)) (W' + H')).length)).2 (Nat.le_refl _)
  omega
theorem listA_c {W H : Nat} (hW0 : 0 < W) (hH0 : 0 < H) (hW : W ≤ 64) (hH : H ≤ 64) (b : Bool) {l : List Bool} (hn : l.length = W * H) (c : Bool) : Contract Tryz.prog 45 [GA W H b l, I (if c then 0 else 1)] (.tuple [flV true (alK W H l c (W + H)), I 0]) := by
  have := listP_c hW0 hH0 hW hH b hn c
  rwa [sdK_all hW0 hH0] at this
theorem ren_LL (f : Nat → Option Nat) (n : Nat) (rs : List (List Int)) : (LL rs).map (ren f (n + 2)) = LL rs := by
  simp only [LL, List.map_map]
  refine List.map_congr_left fun r _ => ?_
  show ren f (n + 2) (LR r.isEmpty r) = LR r.isEmpty r
  simp only [LR, ren_list, map_ren_ints]
def pv (id : Nat) (p : Bool) (o : List Int) : AVal := if p then .ref id 0 o.length o.length else .lit 1 (ints [0])
def po (p : Bool) (o : List Int) : List AObj := if p then [⟨3, 1, ints o⟩] else []
theorem walkP_ok {W H n : Nat} (hN : W + H = n) (hW0 : 0 < W) (hH0 : 0 < H) (hn40 : n ≤ 64) (b : Bool) {l : List Bool} (hn : l.length = W * H) (hb : (best W n l (n - 1)).length = n) :
    Contract Tryz.prog 36 [GA W H b l] (.tuple [LR false (wk W n l n), I 0]) := by
  have hh := hangsP_c hN hW0 hH0 hn40 b hn
  rw [decide_eq_true hb] at hh
  have hNc : (W : Int) + (H : Int) = (n : Int) := by omega
  have hcell : ofCell (.slice none 0 0) = .cap0 true := rfl
  have hO := order_c hN hW0 hH0 (by omega) (by omega) b hn
  have hbb : (bel W n l).length = n := by simp [bel]
  have hat : ∀ c, c < n → ((LL (bel W n l)).drop c)[0]? = some (LR (nI (belT W n l c)).isEmpty (nI (belT W n l c))) := by
    intro c hc
    rw [LL_at (rs := bel W n l) (by omega), bel_adj hc]
  have hag : ∀ (h : List AObj) (m : Nat), (LL (abv W n l)).map (argOf h (m + 2)) = LLa (abv W n l) := fun h m => argOf_LL h m _
  have hre : ∀ (f : Nat → Option Nat) (m : Nat), (LL (abv W n l)).map (ren f (m + 2)) = LL (abv W n l) := fun f m => ren_LL f m _
  have hre2 : ∀ (f : Nat → Option Nat) (m : Nat), (LL (bel W n l)).map (ren f (m + 2)) = LL (bel W n l) := fun f m => ren_LL f m _
  have hR : ∀ a, a < n → Contract Tryz.prog 51 [.list false false n (LLa (abv W n l)), I a] (LR false (srch (adjT W n l) (far0 n a) [a])) := fun a ha => reached_c hn40 l ha
  generalize LLa (abv W n l) = lz at *
  generalize LL (abv W n l) = la at *
  generalize LL (bel W n l) = ld at *
  refine zi Tryz.func36 ?_
  refine zs ?_
  refine zc (hh) ?_
  refine zs ?_
  refine callK_F 6 hO (by simp (disch := first | assumption | omega | rfl | simp only [RH]) only [↓RP, RZ, ↓reduceIte, Nat.reduceEqDiff, reduceCtorEq, Nat.reduceBEq, Nat.reduceAdd, Nat.reduceLeDiff, RA] <;> rfl) (.inr (by simp [noRef, bools_noRef])) ?_
  refine zx2 @hcell @hNc ?_
  refine loopK_WW [6, 7, 8, 32, 33] (fun k : Nat => k ≤ n) (fun k : Nat => ⟨[(6, .ptr 1 0 2), (7, I n), (8, pv 2 (decide (0 < k)) (wk W n l k)), (32, I n), (33, I k)], ⟨24, 3, [I W, I H, BA b l]⟩ :: ⟨84, 2, [.list true false n ld, .list true false n la]⟩ :: po (decide (0 < k)) (wk W n l k)⟩) (fun k => n - k) 0 (by omega) (Wk.of_eq kz) ?_
  intro k hk
  by_cases hlt : k < n
  · have hmod : (k + 1) % n < n := Nat.mod_lt _ (by omega)
    have hne : k ≠ (k + 1) % n := by
      by_cases e : k + 1 < n
      · rw [Nat.mod_eq_of_lt e]; omega
      · have : k + 1 = n := by omega
        rw [this, Nat.mod_self]; omega
    have hmt : ((k : Int) + 1).toNat % n = (k + 1) % n := by rw [show ((k : Int) + 1).toNat = k + 1 by omega]
    have hwk : wk W n l (k + 1) = wk W n l k ++ wayT W n l k ((k + 1) % n) := rfl
    have hkl := wk_len (W := W) (n := n) l k hk
    have hkn : k * n ≤ 64 * 64 := Nat.mul_le_mul (by omega) hn40
    have hw0 : k = 0 → wk W n l k = [0] := by rintro rfl; rfl
    have hwl := wayT_len (W := W) (n := n) l hmod hlt
    have hnear := all_near (W := W) l hb hmod hlt
    have hRm := hR _ hmod
    have hD := srch_dist (W := W) l hmod
    unfold wayT at hwk hwl
    generalize hmm : (k + 1) % n = m at *
    generalize srch (adjT W n l) (far0 n m) [m] = far at *
    have hfl := hD.len
    by_cases hk0 : 0 < k
    · have hdk : decide (0 < k) = true := decide_eq_true hk0
      rw [hdk]
      simp (disch := first | assumption | omega | rfl | simp only [RH]) only [↓RP, RZ, ↓reduceIte, Nat.reduceEqDiff, reduceCtorEq, Nat.reduceBEq, Nat.reduceAdd, Nat.reduceLeDiff, pv, po]
      refine callK_F 6 hRm (by simp (disch := first | assumption | omega | rfl | simp only [RH]) only [↓RP, RZ, ↓reduceIte, Nat.reduceEqDiff, reduceCtorEq, Nat.reduceBEq, Nat.reduceAdd, Nat.reduceLeDiff, RA, hmt, hag] <;> rfl) (.inl (by simp [allFresh, ints_fresh])) ?_
      refine zx1 @hmt ?_
      refine loopK_WW [6, 7, 8, 10, 11, 12, 32, 33] (fun s : Nat × List Int × Bool => s.1 < n ∧ 0 ≤ far.getD s.1 0 ∧ s.2.1 ++ wayL W n l far (far.getD s.1 0).toNat s.1 = wk W n l (k + 1) ∧ (s.2.2 = false → s.1 = k ∧ s.2.1 = [0]))
        (fun s => ⟨[(6, .ptr 1 0 2), (7, I n), (8, pv 4 s.2.2 s.2.1), (10, I m), (11, .ptr 2 0 1), (12, .ptr 3 0 1), (32, I n), (33, I k)], ⟨24, 3, [I W, I H, BA b l]⟩ :: ⟨84, 2, [.list true false n ld, .list true false n la]⟩ :: ⟨47, 1, [LR false far]⟩ :: ⟨3, 1, [I s.1]⟩ :: po s.2.2 s.2.1⟩)
        (fun s => (far.getD s.1 0).toNat) (k, wk W n l k, true) ⟨hlt, hnear, hwk.symm, by intro h; first | exact Bool.noConfusion h | exact ⟨rfl, hw0 (by omega)⟩⟩ (by refine (Wk.of_eq (by simp only [↓RP, RG, FX, RQ, ↓reduceIte, Nat.reduceEqDiff, reduceCtorEq, Nat.reduceBEq, Nat.reduceAdd, Nat.reduceLeDiff, hmt]; rfl)).trans ((Wk.drop (hb := []) (h1 := []) (gs := [_, _, _, _, _]) (env := _) 8 [0, 1, 3, 4, 2] rfl (by decide) (by simp) (by simp)).trans (Wk.of_eq (by simp only [RK, List.idxOf?_cons, List.idxOf?_nil, Nat.reduceBEq, Option.map_some, Option.map_none, List.map_cons, List.map_nil, List.getD_cons_zero, List.getD_cons_succ, Bool.false_eq_true, ↓reduceIte, Nat.add_zero, List.append_nil, hre, hre2, ren_litE, LR, ren_list, map_ren_ints]; rfl)))) ?_
      rintro ⟨x, o, p⟩ ⟨j1, j2, j3, j4⟩
      simp only at j1 j2 j3 j4 ⊢
      have hol : o.length ≤ 5000 := by
        have h1 := congrArg List.length j3
        have h2 := congrArg List.length hwk
        rw [List.length_append] at h1 h2; omega
      have lx := hD.low x j1
      have ux := hD.high x j1
      have hatx := hat x j1
      by_cases hxm : x = m
      · subst hxm
        have hz0 := hD.zero
        rw [hz0, show (0 : Int).toNat = 0 from rfl, wayL, List.append_nil] at j3
        subst j3
        cases p
        · exact absurd (j4 rfl).1.symm hne
        · simp (disch := first | assumption | omega | rfl | simp only [RH]) only [↓RP, RZ, ↓reduceIte, Nat.reduceEqDiff, reduceCtorEq, Nat.reduceBEq, Nat.reduceAdd, Nat.reduceLeDiff, pv, po]
          refine ⟨k + 1, by omega, (Wk.drop (hb := []) (h1 := []) (gs := [_, _, _, _, _]) 8 [0, 1, 4] rfl (by decide) (by simp) (by simp)).trans (Wk.of_eq (by simp only [RK, List.idxOf?_cons, List.idxOf?_nil, Nat.reduceBEq, Option.map_some, Option.map_none, List.map_cons, List.map_nil, List.getD_cons_zero, List.getD_cons_succ, Bool.false_eq_true, ↓reduceIte, Nat.add_zero, List.append_nil, hre, hre2]; rfl)), by omega⟩
      · have hpos : 0 < far.getD x 0 := by
          by_cases e : far.getD x 0 = 0
          · exact absurd (hD.one x j1 e) hxm
          · omega
        have hxm' : (x : Int) ≠ (m : Int) := fun e => hxm (by omega)
        obtain ⟨s1, s2, s3⟩ := stp_ok hD j1 hpos
        obtain ⟨r, r1, r2, r3, r4⟩ := row_next hD j1 hpos
        have hbl := belT_len W n l x
        have hN := next_c (nI (belT W n l x)).isEmpty far hfl j1 (by omega) lx (by omega) (belT W n l x) (fun c hc => belT_lt hc) (by omega) r1 r3 r4
        have hg := nI_get (belT W n l x) r
        rw [r2] at hg r3
        have hnl := nI_len (belT W n l x)
        have hd : (far.getD x 0).toNat = (far.getD (stp W n l far x) 0).toNat + 1 := by omega
        rw [hd, wayL, ← List.singleton_append, ← List.append_assoc] at j3
        generalize stp W n l far x = y at *
        generalize nI (belT W n l x) = bx at *
        cases p
        · obtain ⟨rfl, rfl⟩ := j4 rfl
          have hapl : ∀ h : List AObj, aAppend Tryz.prog 47 h (.lit 1 (ints [0])) (.lit 1 [.val (.int .i64 (y : Int))]) = some (.ref h.length 0 (1 + 1) (1 + 1), h ++ [⟨3, 1, ints ([0] ++ [(y : Int)])⟩]) := fun h => append_litG rfl (by omega)
          simp (disch := first | assumption | omega | rfl | simp only [RH]) only [↓RP, RZ, ↓reduceIte, Nat.reduceEqDiff, reduceCtorEq, Nat.reduceBEq, Nat.reduceAdd, Nat.reduceLeDiff, pv, po, hatx]
          refine zc hN ?_
          refine zx3 @hatx @hg @hapl ?_
          refine ⟨(y, [0] ++ [(y : Int)], true), ⟨s1, by simp only; omega, j3, fun h => Bool.noConfusion h⟩, (Wk.drop (hb := []) (h1 := []) (gs := [_, _, _, _, _, _]) 8 [0, 1, 2, 5, 4] rfl (by decide) (by simp) (by simp)).trans (Wk.of_eq (by simp only [RK, List.idxOf?_cons, List.idxOf?_nil, Nat.reduceBEq, Option.map_some, Option.map_none, List.map_cons, List.map_nil, List.getD_cons_zero, List.getD_cons_succ, Bool.false_eq_true, ↓reduceIte, Nat.add_zero, List.append_nil, hre, hre2, LR, ren_list, map_ren_ints, pv, po, List.length_append, List.length_singleton]; rfl)), by simp only; omega⟩
        · simp (disch := first | assumption | omega | rfl | simp only [RH]) only [↓RP, RZ, ↓reduceIte, Nat.reduceEqDiff, reduceCtorEq, Nat.reduceBEq, Nat.reduceAdd, Nat.reduceLeDiff, pv, po, hatx]
          refine zc hN ?_
          refine zx4 @hatx @hg @append_ref1 @apRI_ints ?_
          refine ⟨(y, o ++ [(y : Int)], true), ⟨s1, by simp only; omega, j3, fun h => Bool.noConfusion h⟩, (Wk.drop (hb := []) (h1 := []) (gs := [_, _, _, _, _, _]) 8 [0, 1, 2, 5, 4] rfl (by decide) (by simp) (by simp)).trans (Wk.of_eq (by simp only [RK, List.idxOf?_cons, List.idxOf?_nil, Nat.reduceBEq, Option.map_some, Option.map_none, List.map_cons, List.map_nil, List.getD_cons_zero, List.getD_cons_succ, Bool.false_eq_true, ↓reduceIte, Nat.add_zero, List.append_nil, hre, hre2, LR, ren_list, map_ren_ints, pv, po, List.length_append, List.length_singleton]; rfl)), by simp only; omega⟩
    · have hdk : decide (0 < k) = false := decide_eq_false hk0
      have hk00 := hw0 (by omega)
      rw [hdk]
      simp (disch := first | assumption | omega | rfl | simp only [RH]) only [↓RP, RZ, ↓reduceIte, Nat.reduceEqDiff, reduceCtorEq, Nat.reduceBEq, Nat.reduceAdd, Nat.reduceLeDiff, pv, po]
      refine callK_F 6 hRm (by simp (disch := first | assumption | omega | rfl | simp only [RH]) only [↓RP, RZ, ↓reduceIte, Nat.reduceEqDiff, reduceCtorEq, Nat.reduceBEq, Nat.reduceAdd, Nat.reduceLeDiff, RA, hmt, hag] <;> rfl) (.inl (by simp [allFresh, ints_fresh])) ?_
      refine zx1 @hmt ?_
      refine loopK_WW [6, 7, 8, 10, 11, 12, 32, 33] (fun s : Nat × List Int × Bool => s.1 < n ∧ 0 ≤ far.getD s.1 0 ∧ s.2.1 ++ wayL W n l far (far.getD s.1 0).toNat s.1 = wk W n l (k + 1) ∧ (s.2.2 = false → s.1 = k ∧ s.2.1 = [0]))
        (fun s => ⟨[(6, .ptr 1 0 2), (7, I n), (8, pv 4 s.2.2 s.2.1), (10, I m), (11, .ptr 2 0 1), (12, .ptr 3 0 1), (32, I n), (33, I k)], ⟨24, 3, [I W, I H, BA b l]⟩ :: ⟨84, 2, [.list true false n ld, .list true false n la]⟩ :: ⟨47, 1, [LR false far]⟩ :: ⟨3, 1, [I s.1]⟩ :: po s.2.2 s.2.1⟩)
        (fun s => (far.getD s.1 0).toNat) (k, wk W n l k, false) ⟨hlt, hnear, hwk.symm, by intro h; first | exact Bool.noConfusion h | exact ⟨rfl, hw0 (by omega)⟩⟩ (by refine (Wk.of_eq (by simp only [↓RP, RG, FX, RQ, ↓reduceIte, Nat.reduceEqDiff, reduceCtorEq, Nat.reduceBEq, Nat.reduceAdd, Nat.reduceLeDiff, hmt, hk00]; rfl))) ?_
      rintro ⟨x, o, p⟩ ⟨j1, j2, j3, j4⟩
      simp only at j1 j2 j3 j4 ⊢
      have hol : o.length ≤ 5000 := by
        have h1 := congrArg List.length j3
        have h2 := congrArg List.length hwk
        rw [List.length_append] at h1 h2; omega
      have lx := hD.low x j1
      have ux := hD.high x j1
      have hatx := hat x j1
      by_cases hxm : x = m
      · subst hxm
        have hz0 := hD.zero
        rw [hz0, show (0 : Int).toNat = 0 from rfl, wayL, List.append_nil] at j3
        subst j3
        cases p
        · exact absurd (j4 rfl).1.symm hne
        · simp (disch := first | assumption | omega | rfl | simp only [RH]) only [↓RP, RZ, ↓reduceIte, Nat.reduceEqDiff, reduceCtorEq, Nat.reduceBEq, Nat.reduceAdd, Nat.reduceLeDiff, pv, po]
          refine ⟨k + 1, by omega, (Wk.drop (hb := []) (h1 := []) (gs := [_, _, _, _, _]) 8 [0, 1, 4] rfl (by decide) (by simp) (by simp)).trans (Wk.of_eq (by simp only [RK, List.idxOf?_cons, List.idxOf?_nil, Nat.reduceBEq, Option.map_some, Option.map_none, List.map_cons, List.map_nil, List.getD_cons_zero, List.getD_cons_succ, Bool.false_eq_true, ↓reduceIte, Nat.add_zero, List.append_nil, hre, hre2]; rfl)), by omega⟩
      · have hpos : 0 < far.getD x 0 := by
          by_cases e : far.getD x 0 = 0
          · exact absurd (hD.one x j1 e) hxm
          · omega
        have hxm' : (x : Int) ≠ (m : Int) := fun e => hxm (by omega)
        obtain ⟨s1, s2, s3⟩ := stp_ok hD j1 hpos
        obtain ⟨r, r1, r2, r3, r4⟩ := row_next hD j1 hpos
        have hbl := belT_len W n l x
        have hN := next_c (nI (belT W n l x)).isEmpty far hfl j1 (by omega) lx (by omega) (belT W n l x) (fun c hc => belT_lt hc) (by omega) r1 r3 r4
        have hg := nI_get (belT W n l x) r
        rw [r2] at hg r3
        have hnl := nI_len (belT W n l x)
        have hd : (far.getD x 0).toNat = (far.getD (stp W n l far x) 0).toNat + 1 := by omega
        rw [hd, wayL, ← List.singleton_append, ← List.append_assoc] at j3
        generalize stp W n l far x = y at *
        generalize nI (belT W n l x) = bx at *
        cases p
        · obtain ⟨rfl, rfl⟩ := j4 rfl
          have hapl : ∀ h : List AObj, aAppend Tryz.prog 47 h (.lit 1 (ints [0])) (.lit 1 [.val (.int .i64 (y : Int))]) = some (.ref h.length 0 (1 + 1) (1 + 1), h ++ [⟨3, 1, ints ([0] ++ [(y : Int)])⟩]) := fun h => append_litG rfl (by omega)
          simp (disch := first | assumption | omega | rfl | simp only [RH]) only [↓RP, RZ, ↓reduceIte, Nat.reduceEqDiff, reduceCtorEq, Nat.reduceBEq, Nat.reduceAdd, Nat.reduceLeDiff, pv, po, hatx]
          refine zc hN ?_
          refine zx3 @hatx @hg @hapl ?_
          refine ⟨(y, [0] ++ [(y : Int)], true), ⟨s1, by simp only; omega, j3, fun h => Bool.noConfusion h⟩, (Wk.drop (hb := []) (h1 := []) (gs := [_, _, _, _, _, _]) 8 [0, 1, 2, 5, 4] rfl (by decide) (by simp) (by simp)).trans (Wk.of_eq (by simp only [RK, List.idxOf?_cons, List.idxOf?_nil, Nat.reduceBEq, Option.map_some, Option.map_none, List.map_cons, List.map_nil, List.getD_cons_zero, List.getD_cons_succ, Bool.false_eq_true, ↓reduceIte, Nat.add_zero, List.append_nil, hre, hre2, LR, ren_list, map_ren_ints, pv, po, List.length_append, List.length_singleton]; rfl)), by simp only; omega⟩
        · simp (disch := first | assumption | omega | rfl | simp only [RH]) only [↓RP, RZ, ↓reduceIte, Nat.reduceEqDiff, reduceCtorEq, Nat.reduceBEq, Nat.reduceAdd, Nat.reduceLeDiff, pv, po, hatx]
          refine zc hN ?_
          refine zx4 @hatx @hg @append_ref1 @apRI_ints ?_
          refine ⟨(y, o ++ [(y : Int)], true), ⟨s1, by simp only; omega, j3, fun h => Bool.noConfusion h⟩, (Wk.drop (hb := []) (h1 := []) (gs := [_, _, _, _, _, _]) 8 [0, 1, 2, 5, 4] rfl (by decide) (by simp) (by simp)).trans (Wk.of_eq (by simp only [RK, List.idxOf?_cons, List.idxOf?_nil, Nat.reduceBEq, Option.map_some, Option.map_none, List.map_cons, List.map_nil, List.getD_cons_zero, List.getD_cons_succ, Bool.false_eq_true, ↓reduceIte, Nat.add_zero, List.append_nil, hre, hre2, LR, ren_list, map_ren_ints, pv, po, List.length_append, List.length_singleton]; rfl)), by simp only; omega⟩
  · obtain rfl : k = n := by omega
    have hdk : decide (0 < k) = true := decide_eq_true (by omega)
    rw [hdk]
    simp (disch := first | assumption | omega | rfl | simp only [RH]) only [↓RP, RZ, ↓reduceIte, Nat.reduceEqDiff, reduceCtorEq, Nat.reduceBEq, Nat.reduceAdd, Nat.reduceLeDiff, pv, po]
    exact zq2
    first | done | rfl
theorem ints_getD_undef {l : List Int} {i : Nat} (hi : i < l.length) : (ints l).getD i .undef = I (l.getD i 0) := by
  simp [ints, List.getD_eq_getElem?_getD, hi]
theorem values_c (b : Bool) (l : List Int) : Contract Tryz.prog 58 [LA b l] (.func (.func 77) [] [.spot true [LA b l]]) := by
  refine Contract.intro (effS [] false [] [0]) 6 follows Tryz.func58 rfl rfl (by kernel_rfl) (Nat.le_of_ble_eq_true rfl) ?_
  refine zs ?_
  refine zr1 ?_
  first | done | simp [resOf, resOf_list, ints_res]
theorem valuesF_y (p b : Bool) (l : List Int) (hl : l.length ≤ 1000000000) : Gives Tryz.prog 77 [.spot p [LA b l]] (ints l) := by
  intro hs
  have hlen : (ints l).length = l.length := ints_length l
  refine SpecY.intro (effS [] false) follows Tryz.func77 rfl rfl (by kernel_rfl) (Nat.le_of_ble_eq_true rfl) rfl (fun yv => ?_)
  refine zs ?_
  refine loopK_I [0, 5, 6, 7] (fun k : Nat => k ≤ l.length) (fun k : Nat => ⟨[(0, .val yv), (5, LA b l), (6, I l.length), (7, I k)], hs k⟩) (fun k => l.length - k) 0 (by omega) kz ?_
  intro k hk
  by_cases hlt : k < l.length
  · refine zs ?_
    refine callK_Y rfl (stepsY_at k (by omega) (ints_getD_undef hlt)) ?_
    refine zs ?_
    exact ⟨k + 1, by omega, rfl, by omega⟩
  · obtain rfl : k = l.length := by omega
    refine zs ?_
    exact Wk.refl _ _
theorem appendSeq_s (h0 : List AObj) {f : FuncId} {cs : List AVal} {xs : List Int} {n : Nat} (hn : xs.length = n) (h1 : 0 < n) (hg : Gives Tryz.prog f cs (ints xs)) (hx : n ≤ 1000000000) : SpecTo Tryz.prog 88 [.cap0 true, .func (.func f) [] cs] h0 (.ref h0.length 0 n n) (h0 ++ [⟨3, 1, ints xs⟩]) := by
  refine SpecTo.intro (effS [] false) follows Tryz.func88 rfl rfl (by kernel_rfl) (Nat.le_of_ble_eq_true rfl) ?_
  refine zs ?_
  have hxl := ints_length xs
  refine rangeK_S (s := ⟨[(2, .ptr h0.length 0 1), (6, .func (.func f) [] cs)], h0 ++ [⟨47, 1, [gw true (h0.length + 1) (ints (xs.take 0))]⟩, go 3 (ints (xs.take 0))]⟩) [2, 6] (ints xs) (fun k => h0 ++ [⟨47, 1, [gw true (h0.length + 1) (ints (xs.take k))]⟩, go 3 (ints (xs.take k))]) ?_ rfl rfl (hg _) (fun i hi => ?_) ?_
  · simp only [↓RP, RG, FX, RQ, ↓reduceIte, Nat.reduceEqDiff, reduceCtorEq, Nat.reduceBEq, Nat.reduceAdd, Nat.reduceLeDiff]
    exact Wk.weak (fun t => .refl _) (.app h0 (.cons _ _ _ _ (.cons (.nil _) .nil) (.nil _ (by simp [go, ints]))))
  · rw [hxl] at hi
    have htk : (xs.take i).length ≤ 1000000000 := by rw [List.length_take]; omega
    rw [ints_getD_undef hi]
    refine zx1 @append_int ?_
    refine Wk.of_eq ?_
    rw [List.take_add_one]
    simp [hi, List.getD_eq_getElem?_getD]
  · have hp : 0 < (ints xs).length := by rw [hxl]; omega
    rw [hxl, List.take_length]
    simp (disch := first | assumption | omega | rfl | simp only [RH]) only [↓RP, RG, FX, RQ, ↓reduceIte, Nat.reduceEqDiff, reduceCtorEq, Nat.reduceBEq, Nat.reduceAdd, Nat.reduceLeDiff, gw_pos hp, go_pos hp, hxl, hn]
    refine ⟨_, by rw [resVal_1 rfl]; simp (disch := first | assumption | omega | rfl | simp only [RH]) only [↓RP, RZ, ↓reduceIte, Nat.reduceEqDiff, reduceCtorEq, Nat.reduceBEq, Nat.reduceAdd, Nat.reduceLeDiff, raX_tmp, raX_cell, rvX_0, rvX_1, rvX_2, rvX_3, rvX_4, rvX_5]; rfl, (Wk.drop 8 [1] (by simp) (by decide) (by simp) (same_refl)).trans (Wk.of_eq (by simp (disch := omega) only [RK, List.idxOf?_cons, List.idxOf?_nil, Nat.reduceBEq, Option.map_some, Option.map_none, List.map_cons, List.map_nil, List.getD_cons_zero, List.getD_cons_succ, Bool.false_eq_true, ↓reduceIte, Nat.add_zero, List.append_nil]))⟩
theorem collect_s (h0 : List AObj) {f : FuncId} {cs : List AVal} {xs : List Int} {n : Nat} (hn : xs.length = n) (h1 : 0 < n) (hg : Gives Tryz.prog f cs (ints xs)) (hx : n ≤ 1000000000) : SpecTo Tryz.prog 76 [.func (.func f) [] cs] h0 (.ref h0.length 0 n n) (h0 ++ [⟨3, 1, ints xs⟩]) := by
  refine SpecTo.intro (effS [88] false) follows Tryz.func76 rfl rfl (by kernel_rfl) (Nat.le_of_ble_eq_true rfl) ?_
  refine zs ?_
  refine callK_T rfl (appendSeq_s _ hn h1 hg hx) ?_
  refine zs ?_
  refine ⟨_, by rw [resVal_1 rfl]; simp (disch := first | assumption | omega | rfl | simp only [RH]) only [↓RP, RZ, ↓reduceIte, Nat.reduceEqDiff, reduceCtorEq, Nat.reduceBEq, Nat.reduceAdd, Nat.reduceLeDiff, raX_tmp, raX_cell, rvX_0, rvX_1, rvX_2, rvX_3, rvX_4, rvX_5]; rfl, (Wk.drop 8 [0] (by simp) (by decide) (by simp) (same_refl)).trans (Wk.of_eq (by simp (disch := omega) only [RK, List.idxOf?_cons, List.idxOf?_nil, Nat.reduceBEq, Option.map_some, Option.map_none, List.map_cons, List.map_nil, List.getD_cons_zero, List.getD_cons_succ, Bool.false_eq_true, ↓reduceIte, Nat.add_zero, List.append_nil]))⟩
theorem sorted_s (h0 : List AObj) {f : FuncId} {cs : List AVal} {xs : List Int} {n : Nat} (hn : xs.length = n) (h1 : 0 < n) (hg : Gives Tryz.prog f cs (ints xs)) (hx : n ≤ 1000000000) : SpecTo Tryz.prog 57 [.func (.func f) [] cs] h0 (.ref h0.length 0 n n) (h0 ++ [⟨3, 1, ints (srt xs)⟩]) := by
  refine SpecTo.intro (effS [76, 70] false) follows Tryz.func57 rfl rfl (by kernel_rfl) (Nat.le_of_ble_eq_true rfl) ?_
  refine zs ?_
  refine callK_T rfl (collect_s _ hn h1 hg hx) ?_
  refine zs ?_
  refine callK_T rfl (sort_spec (ρ := Tryz.lays189_ren) Tryz.lays189 (by kernel_rfl) (id := h0.length) (by rw [hAt_app0]; rfl) (by decide) hn (by omega)) ?_
  simp (disch := first | assumption | omega | rfl | simp only [RH]) only [↓RP, RZ, ↓reduceIte, Nat.reduceEqDiff, reduceCtorEq, Nat.reduceBEq, Nat.reduceAdd, Nat.reduceLeDiff, List.set_append_right, Nat.sub_self]
  refine ⟨_, by rw [resVal_1 rfl]; simp (disch := first | assumption | omega | rfl | simp only [RH]) only [↓RP, RZ, ↓reduceIte, Nat.reduceEqDiff, reduceCtorEq, Nat.reduceBEq, Nat.reduceAdd, Nat.reduceLeDiff, raX_tmp, raX_cell, rvX_0, rvX_1, rvX_2, rvX_3, rvX_4, rvX_5]; rfl, (Wk.drop 8 [0] (by simp) (by decide) (by simp) (same_refl)).trans (Wk.of_eq (by simp (disch := omega) only [RK, List.idxOf?_cons, List.idxOf?_nil, Nat.reduceBEq, Option.map_some, Option.map_none, List.map_cons, List.map_nil, List.getD_cons_zero, List.getD_cons_succ, Bool.false_eq_true, ↓reduceIte, Nat.add_zero, List.append_nil]))⟩
theorem cnan_c (x : Int) : Contract Tryz.prog 87 [I x] (B false) := by
  refine zi Tryz.func87 ?_
  refine zs ?_
  exact zq1
  first | done | simp
theorem less_c (x y : Int) : Contract Tryz.prog 74 [I x, I y] (B (decide (x < y))) := by
  refine zi Tryz.func74 ?_
  refine zs ?_
  refine zc (cnan_c x) ?_
  refine zs ?_
  by_cases h : x < y
  · refine zs ?_
    exact zq1
    first | done | simp [h]
  · refine zs ?_
    exact zq1
    first | done | simp [h]
theorem shr1 {a : Int} (h0 : 0 ≤ a) (h1 : a ≤ 9223372036854775807) : aInt .shr .u64 a 1 = some (.val (.int .u64 (a / 2))) := by
  have e : a.fdiv (2 ^ (min (Int.toNat 1) IntKind.u64.bits)) = a / 2 := by
    rw [show (2 : Int) ^ (min (Int.toNat 1) IntKind.u64.bits) = 2 from rfl, Int.fdiv_eq_ediv_of_nonneg _ (by omega)]
  show (if (1 : Int) < 0 then none else some _) = _
  rw [if_neg (by omega), e]
theorem kiI : ∃ T, tyI Tryz.prog 3 = some T ∧ T.kind = some .i64 := by
  have h : (tyI Tryz.prog 3).any (fun T => T.kind == some .i64) = true := by kernel_rfl
  revert h
  cases tyI Tryz.prog 3 with
  | none => intro h; cases h
  | some T => intro h; exact ⟨T, rfl, by simpa using h⟩
theorem kiU : ∃ T, tyI Tryz.prog 112 = some T ∧ T.kind = some .u64 := by
  have h : (tyI Tryz.prog 112).any (fun T => T.kind == some .u64) = true := by kernel_rfl
  revert h
  cases tyI Tryz.prog 112 with
  | none => intro h; cases h
  | some T => intro h; exact ⟨T, rfl, by simpa using h⟩
theorem wrapU {n : Int} (h1 : 0 ≤ n) (h2 : n ≤ 9223372036854775807) : IntKind.u64.wrap n = n := by
  have e1 : IntKind.u64.bits = 64 := rfl
  have e2 : IntKind.u64.signed = false := rfl
  simp only [IntKind.wrap, e1, e2]
  simp
  omega
end Go.Proofs.YtllijejobeogdaaGreat
