/- Chapter 12: the law of names. -/
import Derived.Test.YtcconjlcjinfkaaDoorV1
import Derived.Test.YtcconjlcjinfkaaDoorE4
set_option linter.unusedSimpArgs false
set_option linter.unusedVariables false
set_option maxRecDepth 100000
namespace Go.Proofs.YtcconjlcjinfkaaDoor
open Go Go.Proofs Go.AW

/-- What two empty cloths weave. -/
def l64 : List Bool := tabN 64 (fun x y => Nat.beq (x % 2) 1 && Nat.beq (y % 2) 0) 4096
/-- An empty cloth of 32 by 32. -/
noncomputable def z32 : AVal := GA 32 32 false (List.replicate 1024 false)
noncomputable def orc2 : FuncId → List AVal → Option AVal := fun f args =>
  bif Nat.beq f 7 then (bif eqL (eqV 8) args [z32, z32, z32] then some (.tuple [GR 64 64 false (l64), I 0]) else none) else none
theorem cell_none (w : Int) (n : Nat) (x y : Int) : cell w (List.replicate n false) x y = false := by
  unfold cell
  rw [List.getD_eq_getElem?_getD, List.getElem?_replicate]
  split <;> rfl
theorem uD_none (w : Int) (n : Nat) (x y : Nat) : uD w (List.replicate n false) (List.replicate n false) (List.replicate n false) x y = (Nat.beq (x % 2) 1 && Nat.beq (y % 2) 0) := by
  unfold uD
  simp only [cell_none]
  rcases Nat.mod_two_eq_zero_or_one x with h | h <;> rcases Nat.mod_two_eq_zero_or_one y with g | g <;> simp [h, g, show Nat.beq 0 1 = false from rfl, show Nat.beq 1 0 = false from rfl]
theorem weave_none : Contract Tryd.prog 7 [z32, z32, z32] (.tuple [GR 64 64 false (l64), I 0]) := by
  have h := weaveP_c 32 32 false (List.replicate 1024 false) 32 32 false (List.replicate 1024 false) 32 32 false (List.replicate 1024 false)
  have e : wv 32 32 (List.replicate 1024 false) 32 32 (List.replicate 1024 false) 32 32 (List.replicate 1024 false) = [GR 64 64 false (l64), I 0] := by
    unfold wv
    rw [List.length_replicate, if_neg (by decide), if_neg (by decide)]
    have e1 : tabN 64 (uD 32 (List.replicate 1024 false) (List.replicate 1024 false) (List.replicate 1024 false)) 4096 = l64 := by
      unfold l64 tabN
      simp only [uD_none]
    show [GR 64 64 false (tabN 64 (uD 32 (List.replicate 1024 false) (List.replicate 1024 false) (List.replicate 1024 false)) 4096), I 0] = _
    rw [e1]
  rw [e] at h
  exact h
theorem orc2_ok : ∀ f args r, orc2 f args = some r → Contract Tryd.prog f args r := by
  intro f args r h
  unfold orc2 at h
  cases h1 : Nat.beq f 7 with
  | false => rw [h1] at h; cases h
  | true =>
    rw [h1] at h
    obtain rfl := Nat.eq_of_beq_eq_true h1
    cases h2 : eqL (eqV 8) args [z32, z32, z32] with
    | false => rw [h2] at h; cases h
    | true =>
      rw [h2] at h
      cases h
      rw [eqL_ok (eqV_ok 8) _ _ h2]
      exact weave_none
noncomputable def xT2 : XT := { xT with orc := orc2 }
theorem xGood2 : xT2.Good Tryd.prog := ⟨xGood.mixed, xGood.code, xGood.ext, orc2_ok⟩
end Go.Proofs.YtcconjlcjinfkaaDoor
