/-
  NARROWER THAN 'FOR EVERY INPUT', by the rows' own cells (each row's printed sentence says how): SkeletonLeast: laid · SkeletonFewer: laid.
  DERIVED. THE GIVEN ROWS OF THIS SEAT. 2 by the template 'for every input the law returns true; each argument reads behind the call as it read before'; 0 by the template 'total and deterministic' (their statements: YtncfiehngolpnaaDoorTotals.lean).
  GIVEN WITH THE SEED: the statements are not yours to turn. If you find one false, say at which input.
  Laid BY PROGRAM, IN A SANDBOX (cutbox-rows.mjs): the forced cells as the released guide's own fill.sh prints them over the translation eab4aa4de9ddef60… (all of the seat's roots in one cut). By AI agents, Wed Nov 11 2026. No macro, syntax, notation, axiom, sorry.
-/
import Derived.Test.YtncfiehngolpnaaDoorChecked
import GoSem.Claim
import GoSem.ClaimJoined
import GoSem.ClaimMapViews
import Derived.JoinedTies
import Derived.KernelRfl
namespace Go.Proofs.YtncfiehngolpnaaDoor
/- THE CELL 'sum', in the pinned program and in every row, IS THE sha256 OF THE DUMP (.gsa) THAT YtncfiehngolpnaaDoorProg.lean LOADS. Nothing in Lean hashes anything: it is a label: what it is worth is what the hold of that sum in a sandbox is worth. -/
noncomputable def Tryd.pinned : Pinned := { name := "ytncfiehngolpnaadoor", sum := "eab4aa4de9ddef6087cba9d3f06548e2122f6b6b2bc2efbcc96483980075bb1a", checked := Tryd.checked }
namespace Rows
def none {H : Type} : Left H := { results := [], args := [] }

/- WHAT THE LISTED PACKAGE-LEVEL VARIABLES READ AS WHEN THE CALL BEGINS. Each datum BY PROGRAM (the guide's laid-datum.mjs) off the statement by which the dump's own 'gosem.cut.vars' lays the variable. In a bare row this is a premise. The card (YtncfiehngolpnaaDoorCards.lean) ties it to the program's text. -/
def laid_math_bits_deBruijn32tab {H : Type} : DataW H := .agg [.lit (.int .u8 0), .lit (.int .u8 1), .lit (.int .u8 28), .lit (.int .u8 2), .lit (.int .u8 29), .lit (.int .u8 14), .lit (.int .u8 24), .lit (.int .u8 3), .lit (.int .u8 30), .lit (.int .u8 22), .lit (.int .u8 20), .lit (.int .u8 15), .lit (.int .u8 25), .lit (.int .u8 17), .lit (.int .u8 4), .lit (.int .u8 8), .lit (.int .u8 31), .lit (.int .u8 27), .lit (.int .u8 13), .lit (.int .u8 23), .lit (.int .u8 21), .lit (.int .u8 19), .lit (.int .u8 16), .lit (.int .u8 7), .lit (.int .u8 26), .lit (.int .u8 12), .lit (.int .u8 18), .lit (.int .u8 6), .lit (.int .u8 11), .lit (.int .u8 5), .lit (.int .u8 10), .lit (.int .u8 9)]

/-- 'raddlelaw05.SkeletonLeast': WHATEVER THE INPUT: true; the input reads as it did. -/
def skeletonLeastSpec : ChangeSpec := { name := "skeletonLeast", fn := fun _ => fun
  | [d1, d2, d3, d4] => { results := [.lit (.bool true)], args := [d1, d2, d3, d4] }
  | _ => none }
def skeletonLeastRow : OpenClaim := { program := "ytncfiehngolpnaadoor", sum := "eab4aa4de9ddef6087cba9d3f06548e2122f6b6b2bc2efbcc96483980075bb1a", func := "raddle/raddlelaw05.SkeletonLeast", spec := "skeletonLeast", unfollowed := true, recurses := true, named := ["math/bits.deBruijn32tab"], apart := false, laid := [("math/bits.deBruijn32tab", laid_math_bits_deBruijn32tab)] }
def SkeletonLeastSaid : Prop := skeletonLeastRow.holds Tryd.pinned (OpenSpec.ofChange skeletonLeastSpec)

/-- ITS FALSE NEIGHBOUR: 'it returns false'. Refute it at one input. -/
def skeletonLeastWrong : ChangeSpec := { name := "skeletonLeast", fn := fun _ => fun
  | [d1, d2, d3, d4] => { results := [.lit (.bool false)], args := [d1, d2, d3, d4] }
  | _ => none }
def SkeletonLeastWrongFalsely : Prop := skeletonLeastRow.holds Tryd.pinned (OpenSpec.ofChange skeletonLeastWrong)

/-- 'raddlelaw05.SkeletonFewer': WHATEVER THE INPUT: true; the input reads as it did. -/
def skeletonFewerSpec : ChangeSpec := { name := "skeletonFewer", fn := fun _ => fun
  | [d1, d2, d3, d4] => { results := [.lit (.bool true)], args := [d1, d2, d3, d4] }
  | _ => none }
def skeletonFewerRow : OpenClaim := { program := "ytncfiehngolpnaadoor", sum := "eab4aa4de9ddef6087cba9d3f06548e2122f6b6b2bc2efbcc96483980075bb1a", func := "raddle/raddlelaw05.SkeletonFewer", spec := "skeletonFewer", unfollowed := true, recurses := true, named := ["math/bits.deBruijn32tab"], apart := false, laid := [("math/bits.deBruijn32tab", laid_math_bits_deBruijn32tab)] }
def SkeletonFewerSaid : Prop := skeletonFewerRow.holds Tryd.pinned (OpenSpec.ofChange skeletonFewerSpec)

/-- ITS FALSE NEIGHBOUR: 'it returns false'. Refute it at one input. -/
def skeletonFewerWrong : ChangeSpec := { name := "skeletonFewer", fn := fun _ => fun
  | [d1, d2, d3, d4] => { results := [.lit (.bool false)], args := [d1, d2, d3, d4] }
  | _ => none }
def SkeletonFewerWrongFalsely : Prop := skeletonFewerRow.holds Tryd.pinned (OpenSpec.ofChange skeletonFewerWrong)

/- THE SECOND FORM. 'bulk': how many values and letters a reading holds, each counted each time it is reached (what is shared counts as often as it is met; a slice's spare places count too). A statement '..UptoSaid' is the law's where the arguments, and the package variables that the reading takes, are together of bulk at most 1048576: NARROWER than '..Said'. Prove '..Said' where nothing that the law and all that it calls make is longer than what came in: it says more and counts as full. Else prove '..UptoSaid'. A law counts once. -/
mutual
def uptoBulk {H : Type} : DataW H → Nat
  | .lit (.string bytes) => bytes.length + 1
  | .lit _ => 1
  | .nil => 1
  | .ptr d => uptoBulk d + 1
  | .slice elems spare => uptoBulkAll elems + uptoBulkAll spare + 1
  | .agg parts => uptoBulkAll parts + 1
  | .iface _ d => uptoBulk d + 1
  | .map entries => uptoBulkEntries entries + 1
  | .held _ => 1
def uptoBulkAll {H : Type} : List (DataW H) → Nat
  | [] => 0
  | d :: r => uptoBulk d + uptoBulkAll r
def uptoBulkEntries {H : Type} : List (Lit × DataW H) → Nat
  | [] => 0
  | x :: r => uptoBulkEntry x + uptoBulkEntries r
def uptoBulkEntry {H : Type} : Lit × DataW H → Nat
  | (.string bytes, d) => bytes.length + uptoBulk d + 1
  | (_, d) => uptoBulk d + 1
 end
def uptoSmall : (H : Type) → List (DataW H) → Bool := fun _ ds => decide (uptoBulkAll ds ≤ 1048576)
def OpenSpec.upto (s : _root_.Go.ChangeSpec) : _root_.Go.OpenSpec := { _root_.Go.OpenSpec.ofChange s with cond := some uptoSmall }

/-- 'raddlelaw05.SkeletonLeast', WHERE WHAT IT READS IS OF BULK AT MOST 1048576: true; the input reads as it did. -/
def skeletonLeastUptoRow : OpenClaim := { program := "ytncfiehngolpnaadoor", sum := "eab4aa4de9ddef6087cba9d3f06548e2122f6b6b2bc2efbcc96483980075bb1a", func := "raddle/raddlelaw05.SkeletonLeast", spec := "skeletonLeast", unfollowed := true, recurses := true, named := ["math/bits.deBruijn32tab"], apart := false, laid := [("math/bits.deBruijn32tab", laid_math_bits_deBruijn32tab)], narrowed := true }
def SkeletonLeastUptoSaid : Prop := skeletonLeastUptoRow.holds Tryd.pinned (OpenSpec.upto skeletonLeastSpec)

/-- 'raddlelaw05.SkeletonFewer', WHERE WHAT IT READS IS OF BULK AT MOST 1048576: true; the input reads as it did. -/
def skeletonFewerUptoRow : OpenClaim := { program := "ytncfiehngolpnaadoor", sum := "eab4aa4de9ddef6087cba9d3f06548e2122f6b6b2bc2efbcc96483980075bb1a", func := "raddle/raddlelaw05.SkeletonFewer", spec := "skeletonFewer", unfollowed := true, recurses := true, named := ["math/bits.deBruijn32tab"], apart := false, laid := [("math/bits.deBruijn32tab", laid_math_bits_deBruijn32tab)], narrowed := true }
def SkeletonFewerUptoSaid : Prop := skeletonFewerUptoRow.holds Tryd.pinned (OpenSpec.upto skeletonFewerSpec)

end Rows
end Go.Proofs.YtncfiehngolpnaaDoor
