/-
  DERIVED. GIVEN WITH THE SEED: THE CARDS: each row of YtgddkndmnhpgoaaDoorRows.lean that lists a variable, with what it lists TIED to the program's text (the seventh form; the later family's looks); each row that meets fmt, with fmt's text TOLD by the authors' own Lean function (tested against real Go, not proved from fmt's source: count such statements apart). THE CARD IS WHAT COUNTS. Prove the row's statement (the work); the ties are given (YtgddkndmnhpgoaaDoorTie.lean); close each card by the builder's one call (the guide's Derived/Test/ToyasCard.lean, 'card_holds'). Laid BY PROGRAM, IN A SANDBOX (cutbox-door.mjs). By AI agents, Wed Nov 11 2026. No macro, syntax, notation, axiom, sorry.
-/
import Derived.Test.YtgddkndmnhpgoaaDoorRows
import GoSem.ClaimSeven
namespace Go.Proofs.YtgddkndmnhpgoaaDoor
namespace Rows

/-- THE TIED CARD OF 'raddlelaw11.LayersHang'. -/
def layersHangCard : Claim7 := { stood := { row := layersHangRow, standIns := [], harness := (true, "a23759d2ca7c5773886942fc1b309f373891cf159f2b8e2408f591d919e806d9"), looks := false }, kinds := [], alts := [], laidByText := true, laidKinds := [.data, .pinned], laidTests := true, laidLooks := .later }
def LayersHangCardSaid : Prop := Claim7.holds Tryd.pinned (.plain (OpenSpec.ofChange layersHangSpec)) layersHangCard

/-- THE SECOND FORM's CARD OF 'raddlelaw11.LayersHang'. -/
def layersHangUptoCard : Claim7 := { stood := { row := layersHangUptoRow, standIns := [], harness := (true, "a23759d2ca7c5773886942fc1b309f373891cf159f2b8e2408f591d919e806d9"), looks := false }, kinds := [], alts := [], laidByText := true, laidKinds := [.data, .pinned], laidTests := true, laidLooks := .later }
def LayersHangUptoCardSaid : Prop := Claim7.holds Tryd.pinned (.plain (OpenSpec.upto layersHangSpec)) layersHangUptoCard
end Rows
end Go.Proofs.YtgddkndmnhpgoaaDoor
