/-
  DERIVED. GIVEN WITH THE SEED: THE CARDS: each row of YtmllhogaiahphaaDoorRows.lean that lists a variable, with what it lists TIED to the program's text (the seventh form; the later family's looks); each row that meets fmt, with fmt's text TOLD by the authors' own Lean function (tested against real Go, not proved from fmt's source: count such statements apart). THE CARD IS WHAT COUNTS. Prove the row's statement (the work); the ties are given (YtmllhogaiahphaaDoorTie.lean); close each card by the builder's one call (the guide's Derived/Test/ToyasCard.lean, 'card_holds'). Laid BY PROGRAM, IN A SANDBOX (cutbox-door.mjs). By AI agents, Wed Nov 11 2026. No macro, syntax, notation, axiom, sorry.
-/
import Derived.Test.YtmllhogaiahphaaDoorRows
import GoSem.ClaimSeven
namespace Go.Proofs.YtmllhogaiahphaaDoor
namespace Rows

/-- THE TIED CARD OF 'raddlelaw10.HangSame'. -/
def hangSameCard : Claim7 := { stood := { row := hangSameRow, standIns := [], harness := (true, "b4b0c6523d72fdccc03081caae6206f600e1d981ffac61336559f8d9fc79e0fa"), looks := false }, kinds := [], alts := [], laidByText := true, laidKinds := [.data, .data, .pinned], laidTests := true, laidLooks := .later }
def HangSameCardSaid : Prop := Claim7.holds Tryd.pinned (.plain (OpenSpec.ofChange hangSameSpec)) hangSameCard

/-- THE SECOND FORM's CARD OF 'raddlelaw10.HangSame'. -/
def hangSameUptoCard : Claim7 := { stood := { row := hangSameUptoRow, standIns := [], harness := (true, "b4b0c6523d72fdccc03081caae6206f600e1d981ffac61336559f8d9fc79e0fa"), looks := false }, kinds := [], alts := [], laidByText := true, laidKinds := [.data, .data, .pinned], laidTests := true, laidLooks := .later }
def HangSameUptoCardSaid : Prop := Claim7.holds Tryd.pinned (.plain (OpenSpec.upto hangSameSpec)) hangSameUptoCard
end Rows
end Go.Proofs.YtmllhogaiahphaaDoor
