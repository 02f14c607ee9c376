/-
  DERIVED. GIVEN WITH THE SEED: THE CARDS: each row of YtgjjdcoeleddaaaDoorRows.lean that lists a variable, with what it lists TIED to the program's text (the seventh form; the later family's looks); each row that meets fmt, with fmt's text TOLD by the authors' own Lean function (tested against real Go, not proved from fmt's source: count such statements apart). THE CARD IS WHAT COUNTS. Prove the row's statement (the work); the ties are given (YtgjjdcoeleddaaaDoorTie.lean); close each card by the builder's one call (the guide's Derived/Test/ToyasCard.lean, 'card_holds'). Laid BY PROGRAM, IN A SANDBOX (cutbox-door.mjs). By AI agents, Wed Nov 11 2026. No macro, syntax, notation, axiom, sorry.
-/
import Derived.Test.YtgjjdcoeleddaaaDoorRows
import GoSem.ClaimSeven
namespace Go.Proofs.YtgjjdcoeleddaaaDoor
namespace Rows

/-- THE TIED CARD OF 'raddlelaw08.FloatCovers'. -/
def floatCoversCard : Claim7 := { stood := { row := floatCoversRow, standIns := [], harness := (true, "a8cd75dec3f47a6a5a88947e8c6347b0242d8971559735919a52cfff5a36bcaf"), looks := false }, kinds := [], alts := [], laidByText := true, laidKinds := [.data, .pinned], laidTests := true, laidLooks := .later }
def FloatCoversCardSaid : Prop := Claim7.holds Tryd.pinned (.plain (OpenSpec.ofChange floatCoversSpec)) floatCoversCard

/-- THE TIED CARD OF 'raddlelaw08.FloatMoved'. -/
def floatMovedCard : Claim7 := { stood := { row := floatMovedRow, standIns := [], harness := (true, "a8cd75dec3f47a6a5a88947e8c6347b0242d8971559735919a52cfff5a36bcaf"), looks := false }, kinds := [], alts := [], laidByText := true, laidKinds := [.data, .pinned], laidTests := true, laidLooks := .later }
def FloatMovedCardSaid : Prop := Claim7.holds Tryd.pinned (.plain (OpenSpec.ofChange floatMovedSpec)) floatMovedCard

/-- THE TIED CARD OF 'raddlelaw08.FloatNames'. -/
def floatNamesCard : Claim7 := { stood := { row := floatNamesRow, standIns := [], harness := (true, "a8cd75dec3f47a6a5a88947e8c6347b0242d8971559735919a52cfff5a36bcaf"), looks := false }, kinds := [], alts := [], laidByText := true, laidKinds := [.data, .pinned], laidTests := true, laidLooks := .later }
def FloatNamesCardSaid : Prop := Claim7.holds Tryd.pinned (.plain (OpenSpec.ofChange floatNamesSpec)) floatNamesCard

/-- THE SECOND FORM's CARD OF 'raddlelaw08.FloatCovers'. -/
def floatCoversUptoCard : Claim7 := { stood := { row := floatCoversUptoRow, standIns := [], harness := (true, "a8cd75dec3f47a6a5a88947e8c6347b0242d8971559735919a52cfff5a36bcaf"), looks := false }, kinds := [], alts := [], laidByText := true, laidKinds := [.data, .pinned], laidTests := true, laidLooks := .later }
def FloatCoversUptoCardSaid : Prop := Claim7.holds Tryd.pinned (.plain (OpenSpec.upto floatCoversSpec)) floatCoversUptoCard

/-- THE SECOND FORM's CARD OF 'raddlelaw08.FloatMoved'. -/
def floatMovedUptoCard : Claim7 := { stood := { row := floatMovedUptoRow, standIns := [], harness := (true, "a8cd75dec3f47a6a5a88947e8c6347b0242d8971559735919a52cfff5a36bcaf"), looks := false }, kinds := [], alts := [], laidByText := true, laidKinds := [.data, .pinned], laidTests := true, laidLooks := .later }
def FloatMovedUptoCardSaid : Prop := Claim7.holds Tryd.pinned (.plain (OpenSpec.upto floatMovedSpec)) floatMovedUptoCard

/-- THE SECOND FORM's CARD OF 'raddlelaw08.FloatNames'. -/
def floatNamesUptoCard : Claim7 := { stood := { row := floatNamesUptoRow, standIns := [], harness := (true, "a8cd75dec3f47a6a5a88947e8c6347b0242d8971559735919a52cfff5a36bcaf"), looks := false }, kinds := [], alts := [], laidByText := true, laidKinds := [.data, .pinned], laidTests := true, laidLooks := .later }
def FloatNamesUptoCardSaid : Prop := Claim7.holds Tryd.pinned (.plain (OpenSpec.upto floatNamesSpec)) floatNamesUptoCard
end Rows
end Go.Proofs.YtgjjdcoeleddaaaDoor
