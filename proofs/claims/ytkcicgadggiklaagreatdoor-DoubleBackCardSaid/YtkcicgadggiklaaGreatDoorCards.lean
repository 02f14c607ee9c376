/-
  DERIVED. GIVEN WITH THE SEED: THE CARDS: each row of YtkcicgadggiklaaGreatDoorRows.lean that lists a variable, with what it lists TIED to the program's text (the seventh form; the later family's looks); each row that meets fmt, with fmt's text TOLD by the authors' own Lean function (tested against real Go, not proved from fmt's source: count such statements apart). THE CARD IS WHAT COUNTS. Prove the row's statement (the work); the ties are given (YtkcicgadggiklaaGreatDoorTie.lean); close each card by the builder's one call (the guide's Derived/Test/ToyasCard.lean, 'card_holds'). Laid BY PROGRAM, IN A SANDBOX (cutbox-door.mjs). By AI agents, Wed Nov 11 2026. No macro, syntax, notation, axiom, sorry.
-/
import Derived.Test.YtkcicgadggiklaaGreatDoorRows
import GoSem.ClaimSeven
namespace Go.Proofs.YtkcicgadggiklaaGreatDoor
namespace Rows

/-- THE TIED CARD OF 'raddlelaw12.DoubleBack'. -/
def doubleBackCard : Claim7 := { stood := { row := doubleBackRow, standIns := [], harness := (true, "f66287e95a070ff65ae7d8cc82f5503a3abfc407442822a182c17e308574e675"), looks := false }, kinds := [], alts := [], laidByText := true, laidKinds := [.data, .pinned], laidTests := true, laidLooks := .later }
def DoubleBackCardSaid : Prop := Claim7.holds Tryz.pinned (.plain (OpenSpec.ofChange doubleBackSpec)) doubleBackCard

/-- THE SECOND FORM's CARD OF 'raddlelaw12.DoubleBack'. -/
def doubleBackUptoCard : Claim7 := { stood := { row := doubleBackUptoRow, standIns := [], harness := (true, "f66287e95a070ff65ae7d8cc82f5503a3abfc407442822a182c17e308574e675"), looks := false }, kinds := [], alts := [], laidByText := true, laidKinds := [.data, .pinned], laidTests := true, laidLooks := .later }
def DoubleBackUptoCardSaid : Prop := Claim7.holds Tryz.pinned (.plain (OpenSpec.upto doubleBackSpec)) doubleBackUptoCard
end Rows
end Go.Proofs.YtkcicgadggiklaaGreatDoor
