/-
  DERIVED. GIVEN WITH THE SEED: THE CARDS: each row of YtbmcfkpljdchoaaDoorRows.lean that lists a variable, with what it lists TIED to the program's text (the seventh form; the later family's looks); each row that meets fmt, with fmt's text TOLD by the authors' own Lean function (tested against real Go, not proved from fmt's source: count such statements apart). THE CARD IS WHAT COUNTS. Prove the row's statement (the work); the ties are given (YtbmcfkpljdchoaaDoorTie.lean); close each card by the builder's one call (the guide's Derived/Test/ToyasCard.lean, 'card_holds'). Laid BY PROGRAM, IN A SANDBOX (cutbox-door.mjs). By AI agents, Wed Nov 11 2026. No macro, syntax, notation, axiom, sorry.
-/
import Derived.Test.YtbmcfkpljdchoaaDoorRows
import GoSem.ClaimSeven
namespace Go.Proofs.YtbmcfkpljdchoaaDoor
namespace Rows

/-- THE TIED CARD OF 'raddlelaw04.FactorKinds'. -/
def factorKindsCard : Claim7 := { stood := { row := factorKindsRow, standIns := [], harness := (true, "223396abda5a7ad209a1c2ea93d89c55efdbd43a3f6b96a2224a38af89879e18"), looks := false }, kinds := [], alts := [], laidByText := true, laidKinds := [.data], laidTests := true, laidLooks := .later }
def FactorKindsCardSaid : Prop := Claim7.holds Tryd.pinned (.plain (OpenSpec.ofChange factorKindsSpec)) factorKindsCard

/-- THE TIED CARD OF 'raddlelaw04.FactorFewest'. -/
def factorFewestCard : Claim7 := { stood := { row := factorFewestRow, standIns := [], harness := (true, "223396abda5a7ad209a1c2ea93d89c55efdbd43a3f6b96a2224a38af89879e18"), looks := false }, kinds := [], alts := [], laidByText := true, laidKinds := [.data, .data, .pinned], laidTests := true, laidLooks := .later }
def FactorFewestCardSaid : Prop := Claim7.holds Tryd.pinned (.plain (OpenSpec.ofChange factorFewestSpec)) factorFewestCard

/-- THE TIED CARD OF 'raddlelaw04.FactorKindly'. -/
def factorKindlyCard : Claim7 := { stood := { row := factorKindlyRow, standIns := [], harness := (true, "223396abda5a7ad209a1c2ea93d89c55efdbd43a3f6b96a2224a38af89879e18"), looks := false }, kinds := [], alts := [], laidByText := true, laidKinds := [.data, .data, .pinned], laidTests := true, laidLooks := .later }
def FactorKindlyCardSaid : Prop := Claim7.holds Tryd.pinned (.plain (OpenSpec.ofChange factorKindlySpec)) factorKindlyCard

/-- THE SECOND FORM's CARD OF 'raddlelaw04.FactorKinds'. -/
def factorKindsUptoCard : Claim7 := { stood := { row := factorKindsUptoRow, standIns := [], harness := (true, "223396abda5a7ad209a1c2ea93d89c55efdbd43a3f6b96a2224a38af89879e18"), looks := false }, kinds := [], alts := [], laidByText := true, laidKinds := [.data], laidTests := true, laidLooks := .later }
def FactorKindsUptoCardSaid : Prop := Claim7.holds Tryd.pinned (.plain (OpenSpec.upto factorKindsSpec)) factorKindsUptoCard

/-- THE SECOND FORM's CARD OF 'raddlelaw04.FactorFewest'. -/
def factorFewestUptoCard : Claim7 := { stood := { row := factorFewestUptoRow, standIns := [], harness := (true, "223396abda5a7ad209a1c2ea93d89c55efdbd43a3f6b96a2224a38af89879e18"), looks := false }, kinds := [], alts := [], laidByText := true, laidKinds := [.data, .data, .pinned], laidTests := true, laidLooks := .later }
def FactorFewestUptoCardSaid : Prop := Claim7.holds Tryd.pinned (.plain (OpenSpec.upto factorFewestSpec)) factorFewestUptoCard

/-- THE SECOND FORM's CARD OF 'raddlelaw04.FactorKindly'. -/
def factorKindlyUptoCard : Claim7 := { stood := { row := factorKindlyUptoRow, standIns := [], harness := (true, "223396abda5a7ad209a1c2ea93d89c55efdbd43a3f6b96a2224a38af89879e18"), looks := false }, kinds := [], alts := [], laidByText := true, laidKinds := [.data, .data, .pinned], laidTests := true, laidLooks := .later }
def FactorKindlyUptoCardSaid : Prop := Claim7.holds Tryd.pinned (.plain (OpenSpec.upto factorKindlySpec)) factorKindlyUptoCard
end Rows
end Go.Proofs.YtbmcfkpljdchoaaDoor
