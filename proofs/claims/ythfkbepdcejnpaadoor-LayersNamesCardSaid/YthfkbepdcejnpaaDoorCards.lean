/-
  DERIVED. GIVEN WITH THE SEED: THE CARDS: each row of YthfkbepdcejnpaaDoorRows.lean that lists a variable, with what it lists TIED to the program's text (the seventh form; the later family's looks); each row that meets fmt, with fmt's text TOLD by the authors' own Lean function (tested against real Go, not proved from fmt's source: count such statements apart). THE CARD IS WHAT COUNTS. Prove the row's statement (the work); the ties are given (YthfkbepdcejnpaaDoorTie.lean); close each card by the builder's one call (the guide's Derived/Test/ToyasCard.lean, 'card_holds'). Laid BY PROGRAM, IN A SANDBOX (cutbox-door.mjs). By AI agents, Wed Nov 11 2026. No macro, syntax, notation, axiom, sorry.
-/
import Derived.Test.YthfkbepdcejnpaaDoorRows
import GoSem.ClaimSeven
namespace Go.Proofs.YthfkbepdcejnpaaDoor
namespace Rows

/-- THE TIED CARD OF 'raddlelaw10.HangNames'. -/
def hangNamesCard : Claim7 := { stood := { row := hangNamesRow, standIns := [], harness := (true, "aa2e6226728c114f8a7e8a168fcfe09f2a1f3c45828fe2cde33a9322b2fe99a0"), looks := false }, kinds := [], alts := [], laidByText := true, laidKinds := [.data, .pinned], laidTests := true, laidLooks := .later }
def HangNamesCardSaid : Prop := Claim7.holds Tryd.pinned (.plain (OpenSpec.ofChange hangNamesSpec)) hangNamesCard

/-- THE TIED CARD OF 'raddlelaw11.LayersNames'. -/
def layersNamesCard : Claim7 := { stood := { row := layersNamesRow, standIns := [], harness := (true, "aa2e6226728c114f8a7e8a168fcfe09f2a1f3c45828fe2cde33a9322b2fe99a0"), looks := false }, kinds := [], alts := [], laidByText := true, laidKinds := [.data, .pinned], laidTests := true, laidLooks := .later }
def LayersNamesCardSaid : Prop := Claim7.holds Tryd.pinned (.plain (OpenSpec.ofChange layersNamesSpec)) layersNamesCard

/-- THE TIED CARD OF 'raddlelaw08.FloatNames'. -/
def floatNamesCard : Claim7 := { stood := { row := floatNamesRow, standIns := [], harness := (true, "aa2e6226728c114f8a7e8a168fcfe09f2a1f3c45828fe2cde33a9322b2fe99a0"), looks := false }, kinds := [], alts := [], laidByText := true, laidKinds := [.data, .pinned], laidTests := true, laidLooks := .later }
def FloatNamesCardSaid : Prop := Claim7.holds Tryd.pinned (.plain (OpenSpec.ofChange floatNamesSpec)) floatNamesCard

/-- THE TIED CARD OF 'raddlelaw05.SkeletonNames'. -/
def skeletonNamesCard : Claim7 := { stood := { row := skeletonNamesRow, standIns := [], harness := (true, "aa2e6226728c114f8a7e8a168fcfe09f2a1f3c45828fe2cde33a9322b2fe99a0"), looks := false }, kinds := [], alts := [], laidByText := true, laidKinds := [.data, .data, .pinned], laidTests := true, laidLooks := .later }
def SkeletonNamesCardSaid : Prop := Claim7.holds Tryd.pinned (.plain (OpenSpec.ofChange skeletonNamesSpec)) skeletonNamesCard

/-- THE SECOND FORM's CARD OF 'raddlelaw10.HangNames'. -/
def hangNamesUptoCard : Claim7 := { stood := { row := hangNamesUptoRow, standIns := [], harness := (true, "aa2e6226728c114f8a7e8a168fcfe09f2a1f3c45828fe2cde33a9322b2fe99a0"), looks := false }, kinds := [], alts := [], laidByText := true, laidKinds := [.data, .pinned], laidTests := true, laidLooks := .later }
def HangNamesUptoCardSaid : Prop := Claim7.holds Tryd.pinned (.plain (OpenSpec.upto hangNamesSpec)) hangNamesUptoCard

/-- THE SECOND FORM's CARD OF 'raddlelaw11.LayersNames'. -/
def layersNamesUptoCard : Claim7 := { stood := { row := layersNamesUptoRow, standIns := [], harness := (true, "aa2e6226728c114f8a7e8a168fcfe09f2a1f3c45828fe2cde33a9322b2fe99a0"), looks := false }, kinds := [], alts := [], laidByText := true, laidKinds := [.data, .pinned], laidTests := true, laidLooks := .later }
def LayersNamesUptoCardSaid : Prop := Claim7.holds Tryd.pinned (.plain (OpenSpec.upto layersNamesSpec)) layersNamesUptoCard

/-- THE SECOND FORM's CARD OF 'raddlelaw08.FloatNames'. -/
def floatNamesUptoCard : Claim7 := { stood := { row := floatNamesUptoRow, standIns := [], harness := (true, "aa2e6226728c114f8a7e8a168fcfe09f2a1f3c45828fe2cde33a9322b2fe99a0"), looks := false }, kinds := [], alts := [], laidByText := true, laidKinds := [.data, .pinned], laidTests := true, laidLooks := .later }
def FloatNamesUptoCardSaid : Prop := Claim7.holds Tryd.pinned (.plain (OpenSpec.upto floatNamesSpec)) floatNamesUptoCard

/-- THE SECOND FORM's CARD OF 'raddlelaw05.SkeletonNames'. -/
def skeletonNamesUptoCard : Claim7 := { stood := { row := skeletonNamesUptoRow, standIns := [], harness := (true, "aa2e6226728c114f8a7e8a168fcfe09f2a1f3c45828fe2cde33a9322b2fe99a0"), looks := false }, kinds := [], alts := [], laidByText := true, laidKinds := [.data, .data, .pinned], laidTests := true, laidLooks := .later }
def SkeletonNamesUptoCardSaid : Prop := Claim7.holds Tryd.pinned (.plain (OpenSpec.upto skeletonNamesSpec)) skeletonNamesUptoCard
end Rows
end Go.Proofs.YthfkbepdcejnpaaDoor
