/-
  DERIVED. GIVEN WITH THE SEED: THE CARDS: each row of YtdbpkjanlafajaaGreatDoorRows.lean that lists a variable, with what it lists TIED to the program's text (the seventh form; the later family's looks); each row that meets fmt, with fmt's text TOLD by the authors' own Lean function (tested against real Go, not proved from fmt's source: count such statements apart). THE CARD IS WHAT COUNTS. Prove the row's statement (the work); the ties are given (YtdbpkjanlafajaaGreatDoorTie.lean); close each card by the builder's one call (the guide's Derived/Test/ToyasCard.lean, 'card_holds'). Laid BY PROGRAM, IN A SANDBOX (cutbox-door.mjs). By AI agents, Wed Nov 11 2026. No macro, syntax, notation, axiom, sorry.
-/
import Derived.Test.YtdbpkjanlafajaaGreatDoorRows
import GoSem.ClaimSeven
namespace Go.Proofs.YtdbpkjanlafajaaGreatDoor
namespace Rows

/-- THE TIED CARD OF 'raddlelaw11.LayersFinest'. -/
def layersFinestCard : Claim7 := { stood := { row := layersFinestRow, standIns := [], harness := (true, "530ca3798d2718417820f28fd4b7733b57b943fe44eb8d647f864e85ff4656fd"), looks := false }, kinds := [], alts := [], laidByText := true, laidKinds := [.data, .pinned], laidTests := true, laidLooks := .later }
def LayersFinestCardSaid : Prop := Claim7.holds Tryz.pinned (.plain (OpenSpec.ofChange layersFinestSpec)) layersFinestCard

/-- THE TIED CARD OF 'raddlelaw12.DoubleHangs'. -/
def doubleHangsCard : Claim7 := { stood := { row := doubleHangsRow, standIns := [], harness := (true, "530ca3798d2718417820f28fd4b7733b57b943fe44eb8d647f864e85ff4656fd"), looks := false }, kinds := [], alts := [], laidByText := true, laidKinds := [.data, .pinned], laidTests := true, laidLooks := .later }
def DoubleHangsCardSaid : Prop := Claim7.holds Tryz.pinned (.plain (OpenSpec.ofChange doubleHangsSpec)) doubleHangsCard

/-- THE SECOND FORM's CARD OF 'raddlelaw11.LayersFinest'. -/
def layersFinestUptoCard : Claim7 := { stood := { row := layersFinestUptoRow, standIns := [], harness := (true, "530ca3798d2718417820f28fd4b7733b57b943fe44eb8d647f864e85ff4656fd"), looks := false }, kinds := [], alts := [], laidByText := true, laidKinds := [.data, .pinned], laidTests := true, laidLooks := .later }
def LayersFinestUptoCardSaid : Prop := Claim7.holds Tryz.pinned (.plain (OpenSpec.upto layersFinestSpec)) layersFinestUptoCard

/-- THE SECOND FORM's CARD OF 'raddlelaw12.DoubleHangs'. -/
def doubleHangsUptoCard : Claim7 := { stood := { row := doubleHangsUptoRow, standIns := [], harness := (true, "530ca3798d2718417820f28fd4b7733b57b943fe44eb8d647f864e85ff4656fd"), looks := false }, kinds := [], alts := [], laidByText := true, laidKinds := [.data, .pinned], laidTests := true, laidLooks := .later }
def DoubleHangsUptoCardSaid : Prop := Claim7.holds Tryz.pinned (.plain (OpenSpec.upto doubleHangsSpec)) doubleHangsUptoCard
end Rows
end Go.Proofs.YtdbpkjanlafajaaGreatDoor
