/-
  DERIVED. GIVEN WITH THE SEED: THE CARDS: each row of YtnebohbhdjnnbaaDoorRows.lean that lists a variable, with what it lists TIED to the program's text (the seventh form; the later family's looks); each row that meets fmt, with fmt's text TOLD by the authors' own Lean function (tested against real Go, not proved from fmt's source: count such statements apart). THE CARD IS WHAT COUNTS. Prove the row's statement (the work); the ties are given (YtnebohbhdjnnbaaDoorTie.lean); close each card by the builder's one call (the guide's Derived/Test/ToyasCard.lean, 'card_holds'). Laid BY PROGRAM, IN A SANDBOX (cutbox-door.mjs). By AI agents, Wed Nov 11 2026. No macro, syntax, notation, axiom, sorry.
-/
import Derived.Test.YtnebohbhdjnnbaaDoorRows
import GoSem.ClaimSeven
namespace Go.Proofs.YtnebohbhdjnnbaaDoor
namespace Rows

/-- THE TIED CARD OF 'raddlelaw12.DoubleComes'. -/
def doubleComesCard : Claim7 := { stood := { row := doubleComesRow, standIns := [], harness := (true, "408d3b3a9290feab3e17916f8e9c9408a7c1f6ba170e0cf78dd3242d8b2c6882"), looks := false }, kinds := [], alts := [], laidByText := true, laidKinds := [.data, .pinned], laidTests := true, laidLooks := .later }
def DoubleComesCardSaid : Prop := Claim7.holds Tryd.pinned (.plain (OpenSpec.ofChange doubleComesSpec)) doubleComesCard

/-- THE SECOND FORM's CARD OF 'raddlelaw12.DoubleComes'. -/
def doubleComesUptoCard : Claim7 := { stood := { row := doubleComesUptoRow, standIns := [], harness := (true, "408d3b3a9290feab3e17916f8e9c9408a7c1f6ba170e0cf78dd3242d8b2c6882"), looks := false }, kinds := [], alts := [], laidByText := true, laidKinds := [.data, .pinned], laidTests := true, laidLooks := .later }
def DoubleComesUptoCardSaid : Prop := Claim7.holds Tryd.pinned (.plain (OpenSpec.upto doubleComesSpec)) doubleComesUptoCard
end Rows
end Go.Proofs.YtnebohbhdjnnbaaDoor
