/-
  DERIVED. GIVEN WITH THE SEED: THE CARDS: each row of YtbhkhaaifielkaaGreatDoorRows.lean that lists a variable, with what it lists TIED to the program's text (the seventh form; the later family's looks); each row that meets fmt, with fmt's text TOLD by the authors' own Lean function (tested against real Go, not proved from fmt's source: count such statements apart). THE CARD IS WHAT COUNTS. Prove the row's statement (the work); the ties are given (YtbhkhaaifielkaaGreatDoorTie.lean); close each card by the builder's one call (the guide's Derived/Test/ToyasCard.lean, 'card_holds'). Laid BY PROGRAM, IN A SANDBOX (cutbox-door.mjs). By AI agents, Wed Nov 11 2026. No macro, syntax, notation, axiom, sorry.
-/
import Derived.Test.YtbhkhaaifielkaaGreatDoorRows
import GoSem.ClaimSeven
namespace Go.Proofs.YtbhkhaaifielkaaGreatDoor
namespace Rows

/-- THE TIED CARD OF 'raddlelaw04.FactorSame'. -/
def factorSameCard : Claim7 := { stood := { row := factorSameRow, standIns := [], harness := (true, "3fdee2ba979f0ca00aa4ff6dcd86bd177997538922fe719f1c87999f853e5bae"), looks := false }, kinds := [], alts := [], laidByText := true, laidKinds := [.data, .data, .pinned], laidTests := true, laidLooks := .later }
def FactorSameCardSaid : Prop := Claim7.holds Tryz.pinned (.plain (OpenSpec.ofChange factorSameSpec)) factorSameCard

/-- THE TIED CARD OF 'raddlelaw04.FactorInverse'. -/
def factorInverseCard : Claim7 := { stood := { row := factorInverseRow, standIns := [], harness := (true, "3fdee2ba979f0ca00aa4ff6dcd86bd177997538922fe719f1c87999f853e5bae"), looks := false }, kinds := [], alts := [], laidByText := true, laidKinds := [.data, .data, .pinned], laidTests := true, laidLooks := .later }
def FactorInverseCardSaid : Prop := Claim7.holds Tryz.pinned (.plain (OpenSpec.ofChange factorInverseSpec)) factorInverseCard

/-- THE TIED CARD OF 'raddlelaw04.FactorNames'. -/
def factorNamesCard : Claim7 := { stood := { row := factorNamesRow, standIns := [], harness := (true, "3fdee2ba979f0ca00aa4ff6dcd86bd177997538922fe719f1c87999f853e5bae"), looks := false }, kinds := [], alts := [], laidByText := true, laidKinds := [.data, .data, .pinned], laidTests := true, laidLooks := .later }
def FactorNamesCardSaid : Prop := Claim7.holds Tryz.pinned (.plain (OpenSpec.ofChange factorNamesSpec)) factorNamesCard

/-- THE SECOND FORM's CARD OF 'raddlelaw04.FactorSame'. -/
def factorSameUptoCard : Claim7 := { stood := { row := factorSameUptoRow, standIns := [], harness := (true, "3fdee2ba979f0ca00aa4ff6dcd86bd177997538922fe719f1c87999f853e5bae"), looks := false }, kinds := [], alts := [], laidByText := true, laidKinds := [.data, .data, .pinned], laidTests := true, laidLooks := .later }
def FactorSameUptoCardSaid : Prop := Claim7.holds Tryz.pinned (.plain (OpenSpec.upto factorSameSpec)) factorSameUptoCard

/-- THE SECOND FORM's CARD OF 'raddlelaw04.FactorInverse'. -/
def factorInverseUptoCard : Claim7 := { stood := { row := factorInverseUptoRow, standIns := [], harness := (true, "3fdee2ba979f0ca00aa4ff6dcd86bd177997538922fe719f1c87999f853e5bae"), looks := false }, kinds := [], alts := [], laidByText := true, laidKinds := [.data, .data, .pinned], laidTests := true, laidLooks := .later }
def FactorInverseUptoCardSaid : Prop := Claim7.holds Tryz.pinned (.plain (OpenSpec.upto factorInverseSpec)) factorInverseUptoCard

/-- THE SECOND FORM's CARD OF 'raddlelaw04.FactorNames'. -/
def factorNamesUptoCard : Claim7 := { stood := { row := factorNamesUptoRow, standIns := [], harness := (true, "3fdee2ba979f0ca00aa4ff6dcd86bd177997538922fe719f1c87999f853e5bae"), looks := false }, kinds := [], alts := [], laidByText := true, laidKinds := [.data, .data, .pinned], laidTests := true, laidLooks := .later }
def FactorNamesUptoCardSaid : Prop := Claim7.holds Tryz.pinned (.plain (OpenSpec.upto factorNamesSpec)) factorNamesUptoCard
end Rows
end Go.Proofs.YtbhkhaaifielkaaGreatDoor
