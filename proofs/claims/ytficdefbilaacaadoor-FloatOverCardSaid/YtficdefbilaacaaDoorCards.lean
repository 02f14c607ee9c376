/-
  DERIVED. GIVEN WITH THE SEED: THE CARDS: each row of YtficdefbilaacaaDoorRows.lean that lists a variable, with what it lists TIED to the program's text (the seventh form; the later family's looks); each row that meets fmt, with fmt's text TOLD by the authors' own Lean function (tested against real Go, not proved from fmt's source: count such statements apart). THE CARD IS WHAT COUNTS. Prove the row's statement (the work); the ties are given (YtficdefbilaacaaDoorTie.lean); close each card by the builder's one call (the guide's Derived/Test/ToyasCard.lean, 'card_holds'). Laid BY PROGRAM, IN A SANDBOX (cutbox-door.mjs). By AI agents, Wed Nov 11 2026. No macro, syntax, notation, axiom, sorry.
-/
import Derived.Test.YtficdefbilaacaaDoorRows
import GoSem.ClaimSeven
namespace Go.Proofs.YtficdefbilaacaaDoor
namespace Rows

/-- THE TIED CARD OF 'raddlelaw08.FloatOver'. -/
def floatOverCard : Claim7 := { stood := { row := floatOverRow, standIns := [], harness := (true, "06bc1e825df39cbe2f9d9c36c3e064b958ff3551e77d70e42838f2cabe908902"), looks := false }, kinds := [], alts := [], laidByText := true, laidKinds := [.data, .pinned], laidTests := true, laidLooks := .later }
def FloatOverCardSaid : Prop := Claim7.holds Tryd.pinned (.plain (OpenSpec.ofChange floatOverSpec)) floatOverCard

/-- THE TIED CARD OF 'raddlelaw08.FloatSides'. -/
def floatSidesCard : Claim7 := { stood := { row := floatSidesRow, standIns := [], harness := (true, "06bc1e825df39cbe2f9d9c36c3e064b958ff3551e77d70e42838f2cabe908902"), looks := false }, kinds := [], alts := [], laidByText := true, laidKinds := [.data, .pinned], laidTests := true, laidLooks := .later }
def FloatSidesCardSaid : Prop := Claim7.holds Tryd.pinned (.plain (OpenSpec.ofChange floatSidesSpec)) floatSidesCard

/-- THE SECOND FORM's CARD OF 'raddlelaw08.FloatOver'. -/
def floatOverUptoCard : Claim7 := { stood := { row := floatOverUptoRow, standIns := [], harness := (true, "06bc1e825df39cbe2f9d9c36c3e064b958ff3551e77d70e42838f2cabe908902"), looks := false }, kinds := [], alts := [], laidByText := true, laidKinds := [.data, .pinned], laidTests := true, laidLooks := .later }
def FloatOverUptoCardSaid : Prop := Claim7.holds Tryd.pinned (.plain (OpenSpec.upto floatOverSpec)) floatOverUptoCard

/-- THE SECOND FORM's CARD OF 'raddlelaw08.FloatSides'. -/
def floatSidesUptoCard : Claim7 := { stood := { row := floatSidesUptoRow, standIns := [], harness := (true, "06bc1e825df39cbe2f9d9c36c3e064b958ff3551e77d70e42838f2cabe908902"), looks := false }, kinds := [], alts := [], laidByText := true, laidKinds := [.data, .pinned], laidTests := true, laidLooks := .later }
def FloatSidesUptoCardSaid : Prop := Claim7.holds Tryd.pinned (.plain (OpenSpec.upto floatSidesSpec)) floatSidesUptoCard
end Rows
end Go.Proofs.YtficdefbilaacaaDoor
