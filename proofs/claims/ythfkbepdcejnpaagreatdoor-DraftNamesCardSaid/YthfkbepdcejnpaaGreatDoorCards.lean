/-
  DERIVED. GIVEN WITH THE SEED: THE CARDS: each row of YthfkbepdcejnpaaGreatDoorRows.lean that lists a variable, with what it lists TIED to the program's text (the seventh form; the later family's looks); each row that meets fmt, with fmt's text TOLD by the authors' own Lean function (tested against real Go, not proved from fmt's source: count such statements apart). THE CARD IS WHAT COUNTS. Prove the row's statement (the work); the ties are given (YthfkbepdcejnpaaGreatDoorTie.lean); close each card by the builder's one call (the guide's Derived/Test/ToyasCard.lean, 'card_holds'). Laid BY PROGRAM, IN A SANDBOX (cutbox-door.mjs). By AI agents, Wed Nov 11 2026. No macro, syntax, notation, axiom, sorry.
-/
import Derived.Test.YthfkbepdcejnpaaGreatDoorRows
import GoSem.ClaimSeven
namespace Go.Proofs.YthfkbepdcejnpaaGreatDoor
namespace Rows

/-- THE TIED CARD OF 'raddlelaw04.FactorNames'. -/
def factorNamesCard : Claim7 := { stood := { row := factorNamesRow, standIns := [], harness := (true, "a903e249a193c5797f76d669ca3faa77726f99927813d1496f83d58de5d22e2c"), looks := false }, kinds := [], alts := [], laidByText := true, laidKinds := [.data, .data, .pinned], laidTests := true, laidLooks := .later }
def FactorNamesCardSaid : Prop := Claim7.holds Tryz.pinned (.plain (OpenSpec.ofChange factorNamesSpec)) factorNamesCard

/-- THE TIED CARD OF 'raddlelaw03.DraftNames'. -/
def draftNamesCard : Claim7 := { stood := { row := draftNamesRow, standIns := [], harness := (true, "a903e249a193c5797f76d669ca3faa77726f99927813d1496f83d58de5d22e2c"), looks := false }, kinds := [], alts := [], laidByText := true, laidKinds := [.data, .pinned], laidTests := true, laidLooks := .later }
def DraftNamesCardSaid : Prop := Claim7.holds Tryz.pinned (.plain (OpenSpec.ofChange draftNamesSpec)) draftNamesCard

/-- THE SECOND FORM's CARD OF 'raddlelaw04.FactorNames'. -/
def factorNamesUptoCard : Claim7 := { stood := { row := factorNamesUptoRow, standIns := [], harness := (true, "a903e249a193c5797f76d669ca3faa77726f99927813d1496f83d58de5d22e2c"), looks := false }, kinds := [], alts := [], laidByText := true, laidKinds := [.data, .data, .pinned], laidTests := true, laidLooks := .later }
def FactorNamesUptoCardSaid : Prop := Claim7.holds Tryz.pinned (.plain (OpenSpec.upto factorNamesSpec)) factorNamesUptoCard

/-- THE SECOND FORM's CARD OF 'raddlelaw03.DraftNames'. -/
def draftNamesUptoCard : Claim7 := { stood := { row := draftNamesUptoRow, standIns := [], harness := (true, "a903e249a193c5797f76d669ca3faa77726f99927813d1496f83d58de5d22e2c"), looks := false }, kinds := [], alts := [], laidByText := true, laidKinds := [.data, .pinned], laidTests := true, laidLooks := .later }
def DraftNamesUptoCardSaid : Prop := Claim7.holds Tryz.pinned (.plain (OpenSpec.upto draftNamesSpec)) draftNamesUptoCard
end Rows
end Go.Proofs.YthfkbepdcejnpaaGreatDoor
