/-
  DERIVED. GIVEN WITH THE SEED: THE CARDS: each row of YtmfddbhemknkfaaDoorRows.lean that lists a variable, with what it lists TIED to the program's text (the seventh form; the later family's looks); each row that meets fmt, with fmt's text TOLD by the authors' own Lean function (tested against real Go, not proved from fmt's source: count such statements apart). THE CARD IS WHAT COUNTS. Prove the row's statement (the work); the ties are given (YtmfddbhemknkfaaDoorTie.lean); close each card by the builder's one call (the guide's Derived/Test/ToyasCard.lean, 'card_holds'). Laid BY PROGRAM, IN A SANDBOX (cutbox-door.mjs). By AI agents, Wed Nov 11 2026. No macro, syntax, notation, axiom, sorry.
-/
import Derived.Test.YtmfddbhemknkfaaDoorRows
import GoSem.ClaimSeven
namespace Go.Proofs.YtmfddbhemknkfaaDoor
namespace Rows

/-- THE TIED CARD OF 'raddlelaw11.LayersHeld'. -/
def layersHeldCard : Claim7 := { stood := { row := layersHeldRow, standIns := [], harness := (true, "5bd9e817e00e3bd17c438fd18264062724b000b7a1c19db50b4f4f2abf21eda0"), looks := false }, kinds := [], alts := [], laidByText := true, laidKinds := [.data, .pinned], laidTests := true, laidLooks := .later }
def LayersHeldCardSaid : Prop := Claim7.holds Tryd.pinned (.plain (OpenSpec.ofChange layersHeldSpec)) layersHeldCard

/-- THE TIED CARD OF 'raddlelaw11.LayersBack'. -/
def layersBackCard : Claim7 := { stood := { row := layersBackRow, standIns := [], harness := (true, "5bd9e817e00e3bd17c438fd18264062724b000b7a1c19db50b4f4f2abf21eda0"), looks := false }, kinds := [], alts := [], laidByText := true, laidKinds := [.data, .pinned], laidTests := true, laidLooks := .later }
def LayersBackCardSaid : Prop := Claim7.holds Tryd.pinned (.plain (OpenSpec.ofChange layersBackSpec)) layersBackCard

/-- THE SECOND FORM's CARD OF 'raddlelaw11.LayersHeld'. -/
def layersHeldUptoCard : Claim7 := { stood := { row := layersHeldUptoRow, standIns := [], harness := (true, "5bd9e817e00e3bd17c438fd18264062724b000b7a1c19db50b4f4f2abf21eda0"), looks := false }, kinds := [], alts := [], laidByText := true, laidKinds := [.data, .pinned], laidTests := true, laidLooks := .later }
def LayersHeldUptoCardSaid : Prop := Claim7.holds Tryd.pinned (.plain (OpenSpec.upto layersHeldSpec)) layersHeldUptoCard

/-- THE SECOND FORM's CARD OF 'raddlelaw11.LayersBack'. -/
def layersBackUptoCard : Claim7 := { stood := { row := layersBackUptoRow, standIns := [], harness := (true, "5bd9e817e00e3bd17c438fd18264062724b000b7a1c19db50b4f4f2abf21eda0"), looks := false }, kinds := [], alts := [], laidByText := true, laidKinds := [.data, .pinned], laidTests := true, laidLooks := .later }
def LayersBackUptoCardSaid : Prop := Claim7.holds Tryd.pinned (.plain (OpenSpec.upto layersBackSpec)) layersBackUptoCard
end Rows
end Go.Proofs.YtmfddbhemknkfaaDoor
