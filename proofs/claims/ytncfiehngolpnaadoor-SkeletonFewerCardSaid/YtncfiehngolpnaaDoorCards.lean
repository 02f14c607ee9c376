/-
  DERIVED. GIVEN WITH THE SEED: THE CARDS: each row of YtncfiehngolpnaaDoorRows.lean that lists a variable, with what it lists TIED to the program's text (the seventh form; the later family's looks); each row that meets fmt, with fmt's text TOLD by the authors' own Lean function (tested against real Go, not proved from fmt's source: count such statements apart). THE CARD IS WHAT COUNTS. Prove the row's statement (the work); the ties are given (YtncfiehngolpnaaDoorTie.lean); close each card by the builder's one call (the guide's Derived/Test/ToyasCard.lean, 'card_holds'). Laid BY PROGRAM, IN A SANDBOX (cutbox-door.mjs). By AI agents, Wed Nov 11 2026. No macro, syntax, notation, axiom, sorry.
-/
import Derived.Test.YtncfiehngolpnaaDoorRows
import GoSem.ClaimSeven
namespace Go.Proofs.YtncfiehngolpnaaDoor
namespace Rows

/-- THE TIED CARD OF 'raddlelaw05.SkeletonLeast'. -/
def skeletonLeastCard : Claim7 := { stood := { row := skeletonLeastRow, standIns := [], harness := (true, "79c8d608321778ff589af22e840a9a0b1cf417f5b10e0264dcfd458359af4ffb"), looks := false }, kinds := [], alts := [], laidByText := true, laidKinds := [.data], laidTests := true, laidLooks := .later }
def SkeletonLeastCardSaid : Prop := Claim7.holds Tryd.pinned (.plain (OpenSpec.ofChange skeletonLeastSpec)) skeletonLeastCard

/-- THE TIED CARD OF 'raddlelaw05.SkeletonFewer'. -/
def skeletonFewerCard : Claim7 := { stood := { row := skeletonFewerRow, standIns := [], harness := (true, "79c8d608321778ff589af22e840a9a0b1cf417f5b10e0264dcfd458359af4ffb"), looks := false }, kinds := [], alts := [], laidByText := true, laidKinds := [.data], laidTests := true, laidLooks := .later }
def SkeletonFewerCardSaid : Prop := Claim7.holds Tryd.pinned (.plain (OpenSpec.ofChange skeletonFewerSpec)) skeletonFewerCard

/-- THE SECOND FORM's CARD OF 'raddlelaw05.SkeletonLeast'. -/
def skeletonLeastUptoCard : Claim7 := { stood := { row := skeletonLeastUptoRow, standIns := [], harness := (true, "79c8d608321778ff589af22e840a9a0b1cf417f5b10e0264dcfd458359af4ffb"), looks := false }, kinds := [], alts := [], laidByText := true, laidKinds := [.data], laidTests := true, laidLooks := .later }
def SkeletonLeastUptoCardSaid : Prop := Claim7.holds Tryd.pinned (.plain (OpenSpec.upto skeletonLeastSpec)) skeletonLeastUptoCard

/-- THE SECOND FORM's CARD OF 'raddlelaw05.SkeletonFewer'. -/
def skeletonFewerUptoCard : Claim7 := { stood := { row := skeletonFewerUptoRow, standIns := [], harness := (true, "79c8d608321778ff589af22e840a9a0b1cf417f5b10e0264dcfd458359af4ffb"), looks := false }, kinds := [], alts := [], laidByText := true, laidKinds := [.data], laidTests := true, laidLooks := .later }
def SkeletonFewerUptoCardSaid : Prop := Claim7.holds Tryd.pinned (.plain (OpenSpec.upto skeletonFewerSpec)) skeletonFewerUptoCard
end Rows
end Go.Proofs.YtncfiehngolpnaaDoor
