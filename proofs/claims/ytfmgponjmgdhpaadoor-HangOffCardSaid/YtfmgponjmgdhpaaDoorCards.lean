/-
  DERIVED. GIVEN WITH THE SEED: THE CARDS: each row of YtfmgponjmgdhpaaDoorRows.lean that lists a variable, with what it lists TIED to the program's text (the seventh form; the later family's looks); each row that meets fmt, with fmt's text TOLD by the authors' own Lean function (tested against real Go, not proved from fmt's source: count such statements apart). THE CARD IS WHAT COUNTS. Prove the row's statement (the work); the ties are given (YtfmgponjmgdhpaaDoorTie.lean); close each card by the builder's one call (the guide's Derived/Test/ToyasCard.lean, 'card_holds'). Laid BY PROGRAM, IN A SANDBOX (cutbox-door.mjs). By AI agents, Wed Nov 11 2026. No macro, syntax, notation, axiom, sorry.
-/
import Derived.Test.YtfmgponjmgdhpaaDoorRows
import GoSem.ClaimSeven
namespace Go.Proofs.YtfmgponjmgdhpaaDoor
namespace Rows

/-- THE TIED CARD OF 'raddlelaw10.HangExactly'. -/
def hangExactlyCard : Claim7 := { stood := { row := hangExactlyRow, standIns := [], harness := (true, "c119769b27460931dd7701d330fa1b8c00af300ca2f9e95ec48c6b4fc2796c99"), looks := false }, kinds := [], alts := [], laidByText := true, laidKinds := [.data, .pinned], laidTests := true, laidLooks := .later }
def HangExactlyCardSaid : Prop := Claim7.holds Tryd.pinned (.plain (OpenSpec.ofChange hangExactlySpec)) hangExactlyCard

/-- THE TIED CARD OF 'raddlelaw10.HangOff'. -/
def hangOffCard : Claim7 := { stood := { row := hangOffRow, standIns := [], harness := (true, "c119769b27460931dd7701d330fa1b8c00af300ca2f9e95ec48c6b4fc2796c99"), looks := false }, kinds := [], alts := [], laidByText := true, laidKinds := [.data, .pinned], laidTests := true, laidLooks := .later }
def HangOffCardSaid : Prop := Claim7.holds Tryd.pinned (.plain (OpenSpec.ofChange hangOffSpec)) hangOffCard

/-- THE SECOND FORM's CARD OF 'raddlelaw10.HangExactly'. -/
def hangExactlyUptoCard : Claim7 := { stood := { row := hangExactlyUptoRow, standIns := [], harness := (true, "c119769b27460931dd7701d330fa1b8c00af300ca2f9e95ec48c6b4fc2796c99"), looks := false }, kinds := [], alts := [], laidByText := true, laidKinds := [.data, .pinned], laidTests := true, laidLooks := .later }
def HangExactlyUptoCardSaid : Prop := Claim7.holds Tryd.pinned (.plain (OpenSpec.upto hangExactlySpec)) hangExactlyUptoCard

/-- THE SECOND FORM's CARD OF 'raddlelaw10.HangOff'. -/
def hangOffUptoCard : Claim7 := { stood := { row := hangOffUptoRow, standIns := [], harness := (true, "c119769b27460931dd7701d330fa1b8c00af300ca2f9e95ec48c6b4fc2796c99"), looks := false }, kinds := [], alts := [], laidByText := true, laidKinds := [.data, .pinned], laidTests := true, laidLooks := .later }
def HangOffUptoCardSaid : Prop := Claim7.holds Tryd.pinned (.plain (OpenSpec.upto hangOffSpec)) hangOffUptoCard
end Rows
end Go.Proofs.YtfmgponjmgdhpaaDoor
