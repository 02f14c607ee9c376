/-
  DERIVED. GIVEN WITH THE SEED: THE CARDS: each row of YtlckfakifamjiaaDoorRows.lean that lists a variable, with what it lists TIED to the program's text (the seventh form; the later family's looks); each row that meets fmt, with fmt's text TOLD by the authors' own Lean function (tested against real Go, not proved from fmt's source: count such statements apart). THE CARD IS WHAT COUNTS. Prove the row's statement (the work); the ties are given (YtlckfakifamjiaaDoorTie.lean); close each card by the builder's one call (the guide's Derived/Test/ToyasCard.lean, 'card_holds'). Laid BY PROGRAM, IN A SANDBOX (cutbox-door.mjs). By AI agents, Wed Nov 11 2026. No macro, syntax, notation, axiom, sorry.
-/
import Derived.Test.YtlckfakifamjiaaDoorRows
import GoSem.ClaimSeven
namespace Go.Proofs.YtlckfakifamjiaaDoor
namespace Rows

/-- THE TIED CARD OF 'raddlelaw05.SkeletonPress'. -/
def skeletonPressCard : Claim7 := { stood := { row := skeletonPressRow, standIns := [], harness := (true, "20b6332cbcf6f49f509f37f0e3b34b53f4d815baf66f606ad5b2271b785238e1"), looks := false }, kinds := [], alts := [], laidByText := true, laidKinds := [.data], laidTests := true, laidLooks := .later }
def SkeletonPressCardSaid : Prop := Claim7.holds Tryd.pinned (.plain (OpenSpec.ofChange skeletonPressSpec)) skeletonPressCard

/-- THE TIED CARD OF 'raddlelaw05.SkeletonNames'. -/
def skeletonNamesCard : Claim7 := { stood := { row := skeletonNamesRow, standIns := [], harness := (true, "20b6332cbcf6f49f509f37f0e3b34b53f4d815baf66f606ad5b2271b785238e1"), looks := false }, kinds := [], alts := [], laidByText := true, laidKinds := [.data, .data, .pinned], laidTests := true, laidLooks := .later }
def SkeletonNamesCardSaid : Prop := Claim7.holds Tryd.pinned (.plain (OpenSpec.ofChange skeletonNamesSpec)) skeletonNamesCard

/-- THE TIED CARD OF 'raddlelaw05.SkeletonPlans'. -/
def skeletonPlansCard : Claim7 := { stood := { row := skeletonPlansRow, standIns := [], harness := (true, "20b6332cbcf6f49f509f37f0e3b34b53f4d815baf66f606ad5b2271b785238e1"), looks := false }, kinds := [], alts := [], laidByText := true, laidKinds := [.data], laidTests := true, laidLooks := .later }
def SkeletonPlansCardSaid : Prop := Claim7.holds Tryd.pinned (.plain (OpenSpec.ofChange skeletonPlansSpec)) skeletonPlansCard

/-- THE SECOND FORM's CARD OF 'raddlelaw05.SkeletonPress'. -/
def skeletonPressUptoCard : Claim7 := { stood := { row := skeletonPressUptoRow, standIns := [], harness := (true, "20b6332cbcf6f49f509f37f0e3b34b53f4d815baf66f606ad5b2271b785238e1"), looks := false }, kinds := [], alts := [], laidByText := true, laidKinds := [.data], laidTests := true, laidLooks := .later }
def SkeletonPressUptoCardSaid : Prop := Claim7.holds Tryd.pinned (.plain (OpenSpec.upto skeletonPressSpec)) skeletonPressUptoCard

/-- THE SECOND FORM's CARD OF 'raddlelaw05.SkeletonNames'. -/
def skeletonNamesUptoCard : Claim7 := { stood := { row := skeletonNamesUptoRow, standIns := [], harness := (true, "20b6332cbcf6f49f509f37f0e3b34b53f4d815baf66f606ad5b2271b785238e1"), looks := false }, kinds := [], alts := [], laidByText := true, laidKinds := [.data, .data, .pinned], laidTests := true, laidLooks := .later }
def SkeletonNamesUptoCardSaid : Prop := Claim7.holds Tryd.pinned (.plain (OpenSpec.upto skeletonNamesSpec)) skeletonNamesUptoCard

/-- THE SECOND FORM's CARD OF 'raddlelaw05.SkeletonPlans'. -/
def skeletonPlansUptoCard : Claim7 := { stood := { row := skeletonPlansUptoRow, standIns := [], harness := (true, "20b6332cbcf6f49f509f37f0e3b34b53f4d815baf66f606ad5b2271b785238e1"), looks := false }, kinds := [], alts := [], laidByText := true, laidKinds := [.data], laidTests := true, laidLooks := .later }
def SkeletonPlansUptoCardSaid : Prop := Claim7.holds Tryd.pinned (.plain (OpenSpec.upto skeletonPlansSpec)) skeletonPlansUptoCard
end Rows
end Go.Proofs.YtlckfakifamjiaaDoor
