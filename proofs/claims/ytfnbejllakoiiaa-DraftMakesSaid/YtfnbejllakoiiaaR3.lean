/- Each number once: two ways to say it. -/
import Derived.Test.YtfnbejllakoiiaaR2
import Derived.Test.YtfnbejllakoiiaaK0
set_option linter.unusedSimpArgs false
set_option linter.unusedVariables false
namespace Go.Proofs.Ytfnbejllakoiiaa
open Go Go.Proofs Go.AW

theorem nodup_all {n : Nat} {f : Nat → Nat} (hf : ∀ i, i < n → f i < n) (hi : ∀ i j, i < n → j < n → f i = f j → i = j) {k : Nat} (hk : k < n) : ∃ i, i < n ∧ f i = k := by
  by_cases h : ∃ i, i < n ∧ f i = k
  · exact h
  exfalso
  have h1 : (k :: (List.range n).map f).Nodup := by
    refine List.nodup_cons.2 ⟨fun hm => ?_, ?_⟩
    · obtain ⟨i, hi1, hi2⟩ := List.mem_map.1 hm
      exact h ⟨i, by simpa using hi1, hi2⟩
    · rw [List.nodup_iff_pairwise_ne, List.pairwise_map]
      refine List.Pairwise.imp_of_mem ?_ (List.nodup_iff_pairwise_ne.1 List.nodup_range)
      intro a b ha hb hab e
      exact hab (hi a b (by simpa using ha) (by simpa using hb) e)
  have h2 := nodup_lt n _ h1 (fun x hx => by
    rcases List.mem_cons.1 hx with rfl | hm
    · exact hk
    · obtain ⟨i, hi1, rfl⟩ := List.mem_map.1 hm
      exact hf i (by simpa using hi1))
  simp at h2
  omega

theorem each_once {l : List Int} {n : Nat} : eachL l n ↔ (l.length = n ∧ once l n n) := by
  constructor
  · rintro ⟨hl, he⟩
    refine ⟨hl, ?_⟩
    have hc : ∃ f : Nat → Nat, ∀ k, k < n → f k < n ∧ l.getD (f k) 0 = k := by
      refine ⟨fun k => if h : k < n then Classical.choose (he k h) else 0, fun k hk => ?_⟩
      simp only [dif_pos hk]
      have := Classical.choose_spec (he k hk)
      exact ⟨by omega, this.2⟩
    obtain ⟨f, hf⟩ := hc
    have hs : ∀ i, i < n → ∃ k, k < n ∧ f k = i := fun i hi =>
      nodup_all (fun k hk => (hf k hk).1) (fun a b ha hb e => by
        have h1 := (hf a ha).2
        have h2 := (hf b hb).2
        rw [e] at h1
        omega) hi
    intro i hi
    obtain ⟨k, hk, rfl⟩ := hs i hi
    have h1 := (hf k hk).2
    refine ⟨by omega, by omega, fun j hj e => ?_⟩
    obtain ⟨k2, hk2, rfl⟩ := hs j (by omega)
    have h2 := (hf k2 hk2).2
    have : k2 = k := by omega
    subst this
    omega
  · rintro ⟨hl, ho⟩
    refine ⟨hl, fun k hk => ?_⟩
    obtain ⟨i, hi, e⟩ := nodup_all (n := n) (f := fun i => (l.getD i 0).toNat) (fun i hi => by have := ho i hi; omega) (fun i j hi hj e => by
      have h1 := ho i hi
      have h2 := ho j hj
      rcases Nat.lt_trichotomy i j with h | h | h
      · exact absurd (show l.getD i 0 = l.getD j 0 by omega) (h2.2.2 i h)
      · exact h
      · exact absurd (show l.getD j 0 = l.getD i 0 by omega) (h1.2.2 j h)) hk
    exact ⟨i, by omega, by have := (ho i hi).1; omega⟩
end Go.Proofs.Ytfnbejllakoiiaa
