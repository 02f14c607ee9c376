/-
  DERIVED. GIVEN WITH THE SEED: THE CARDS: each row of YtcconjlcjinfkaaDoorRows.lean that lists a variable, with what it lists TIED to the program's text (the seventh form; the later family's looks); each row that meets fmt, with fmt's text TOLD by the authors' own Lean function (tested against real Go, not proved from fmt's source: count such statements apart). THE CARD IS WHAT COUNTS. Prove the row's statement (the work); the ties are given (YtcconjlcjinfkaaDoorTie.lean); close each card by the builder's one call (the guide's Derived/Test/ToyasCard.lean, 'card_holds'). Laid BY PROGRAM, IN A SANDBOX (cutbox-door.mjs). By AI agents, Wed Nov 11 2026. No macro, syntax, notation, axiom, sorry.
-/
import Derived.Test.YtcconjlcjinfkaaDoorRows
import GoSem.ClaimSeven
namespace Go.Proofs.YtcconjlcjinfkaaDoor
namespace Rows

/-- THE TIED CARD OF 'raddlelaw12.DoubleInverse'. -/
def doubleInverseCard : Claim7 := { stood := { row := doubleInverseRow, standIns := [], harness := (true, "68f87490c334fe19edc527976076c5de8c00380b6d0047a5c816ba5fde419d37"), looks := false }, kinds := [], alts := [], laidByText := true, laidKinds := [.data, .pinned], laidTests := true, laidLooks := .later }
def DoubleInverseCardSaid : Prop := Claim7.holds Tryd.pinned (.plain (OpenSpec.ofChange doubleInverseSpec)) doubleInverseCard

/-- THE TIED CARD OF 'raddlelaw12.DoubleNames'. -/
def doubleNamesCard : Claim7 := { stood := { row := doubleNamesRow, standIns := [], harness := (true, "68f87490c334fe19edc527976076c5de8c00380b6d0047a5c816ba5fde419d37"), looks := false }, kinds := [], alts := [], laidByText := true, laidKinds := [.data, .pinned], laidTests := true, laidLooks := .later }
def DoubleNamesCardSaid : Prop := Claim7.holds Tryd.pinned (.plain (OpenSpec.ofChange doubleNamesSpec)) doubleNamesCard

/-- THE TIED CARD OF 'raddlelaw12.DoubleComes'. -/
def doubleComesCard : Claim7 := { stood := { row := doubleComesRow, standIns := [], harness := (true, "68f87490c334fe19edc527976076c5de8c00380b6d0047a5c816ba5fde419d37"), looks := false }, kinds := [], alts := [], laidByText := true, laidKinds := [.data, .pinned], laidTests := true, laidLooks := .later }
def DoubleComesCardSaid : Prop := Claim7.holds Tryd.pinned (.plain (OpenSpec.ofChange doubleComesSpec)) doubleComesCard

/-- THE SECOND FORM's CARD OF 'raddlelaw12.DoubleInverse'. -/
def doubleInverseUptoCard : Claim7 := { stood := { row := doubleInverseUptoRow, standIns := [], harness := (true, "68f87490c334fe19edc527976076c5de8c00380b6d0047a5c816ba5fde419d37"), looks := false }, kinds := [], alts := [], laidByText := true, laidKinds := [.data, .pinned], laidTests := true, laidLooks := .later }
def DoubleInverseUptoCardSaid : Prop := Claim7.holds Tryd.pinned (.plain (OpenSpec.upto doubleInverseSpec)) doubleInverseUptoCard

/-- THE SECOND FORM's CARD OF 'raddlelaw12.DoubleNames'. -/
def doubleNamesUptoCard : Claim7 := { stood := { row := doubleNamesUptoRow, standIns := [], harness := (true, "68f87490c334fe19edc527976076c5de8c00380b6d0047a5c816ba5fde419d37"), looks := false }, kinds := [], alts := [], laidByText := true, laidKinds := [.data, .pinned], laidTests := true, laidLooks := .later }
def DoubleNamesUptoCardSaid : Prop := Claim7.holds Tryd.pinned (.plain (OpenSpec.upto doubleNamesSpec)) doubleNamesUptoCard

/-- THE SECOND FORM's CARD OF 'raddlelaw12.DoubleComes'. -/
def doubleComesUptoCard : Claim7 := { stood := { row := doubleComesUptoRow, standIns := [], harness := (true, "68f87490c334fe19edc527976076c5de8c00380b6d0047a5c816ba5fde419d37"), looks := false }, kinds := [], alts := [], laidByText := true, laidKinds := [.data, .pinned], laidTests := true, laidLooks := .later }
def DoubleComesUptoCardSaid : Prop := Claim7.holds Tryd.pinned (.plain (OpenSpec.upto doubleComesSpec)) doubleComesUptoCard
end Rows
end Go.Proofs.YtcconjlcjinfkaaDoor
