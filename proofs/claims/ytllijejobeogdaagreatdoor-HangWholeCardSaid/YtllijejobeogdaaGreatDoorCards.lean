/-
  DERIVED. GIVEN WITH THE SEED: THE CARDS: each row of YtllijejobeogdaaGreatDoorRows.lean that lists a variable, with what it lists TIED to the program's text (the seventh form; the later family's looks); each row that meets fmt, with fmt's text TOLD by the authors' own Lean function (tested against real Go, not proved from fmt's source: count such statements apart). THE CARD IS WHAT COUNTS. Prove the row's statement (the work); the ties are given (YtllijejobeogdaaGreatDoorTie.lean); close each card by the builder's one call (the guide's Derived/Test/ToyasCard.lean, 'card_holds'). Laid BY PROGRAM, IN A SANDBOX (cutbox-door.mjs). By AI agents, Wed Nov 11 2026. No macro, syntax, notation, axiom, sorry.
-/
import Derived.Test.YtllijejobeogdaaGreatDoorRows
import GoSem.ClaimSeven
namespace Go.Proofs.YtllijejobeogdaaGreatDoor
namespace Rows

/-- THE TIED CARD OF 'raddlelaw10.HangWhole'. -/
def hangWholeCard : Claim7 := { stood := { row := hangWholeRow, standIns := [], harness := (true, "3b77c6fb633b540e4cbbe648627150adc2744c30de0a1e2ac80697ab3861843a"), looks := false }, kinds := [], alts := [], laidByText := true, laidKinds := [.data, .pinned], laidTests := true, laidLooks := .later }
def HangWholeCardSaid : Prop := Claim7.holds Tryz.pinned (.plain (OpenSpec.ofChange hangWholeSpec)) hangWholeCard

/-- THE SECOND FORM's CARD OF 'raddlelaw10.HangWhole'. -/
def hangWholeUptoCard : Claim7 := { stood := { row := hangWholeUptoRow, standIns := [], harness := (true, "3b77c6fb633b540e4cbbe648627150adc2744c30de0a1e2ac80697ab3861843a"), looks := false }, kinds := [], alts := [], laidByText := true, laidKinds := [.data, .pinned], laidTests := true, laidLooks := .later }
def HangWholeUptoCardSaid : Prop := Claim7.holds Tryz.pinned (.plain (OpenSpec.upto hangWholeSpec)) hangWholeUptoCard
end Rows
end Go.Proofs.YtllijejobeogdaaGreatDoor
