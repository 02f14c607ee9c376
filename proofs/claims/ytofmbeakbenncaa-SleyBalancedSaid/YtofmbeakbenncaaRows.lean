/-
  No cell of these rows narrows 'for every input' (looked for: loops, veiled, ifaces, maps, wideKeys, modest, calm, conditions, laid).
  DERIVED. THE GIVEN ROWS OF THIS SEAT. 7 by the template 'for every input the law returns true; each argument reads behind the call as it read before'; 0 by the template 'total and deterministic' (their statements: YtofmbeakbenncaaTotals.lean).
  GIVEN WITH THE SEED: the statements are not yours to turn. If you find one false, say at which input.
  Laid BY PROGRAM, IN A SANDBOX (cutbox-rows.mjs): the forced cells as the released guide's own fill.sh prints them over the translation 8eef72efbfe46109… (all of the seat's roots in one cut). By AI agents, Wed Nov 11 2026. No macro, syntax, notation, axiom, sorry.
-/
import Derived.Test.YtofmbeakbenncaaChecked
import GoSem.Claim
import GoSem.ClaimJoined
import GoSem.ClaimMapViews
import Derived.JoinedTies
import Derived.KernelRfl
namespace Go.Proofs.Ytofmbeakbenncaa
/- THE CELL 'sum', in the pinned program and in every row, IS THE sha256 OF THE DUMP (.gsa) THAT YtofmbeakbenncaaProg.lean LOADS. Nothing in Lean hashes anything: it is a label: what it is worth is what the hold of that sum in a sandbox is worth. -/
noncomputable def Try.pinned : Pinned := { name := "ytofmbeakbenncaa", sum := "8eef72efbfe461095591568a9efe75957e027fa451ebfc00d44da56348f73deb", checked := Try.checked }
namespace Rows
def none {H : Type} : Left H := { results := [], args := [] }

/-- 'raddlelaw21.SleyEvens': WHATEVER THE INPUT: true; the input reads as it did. -/
def sleyEvensSpec : ChangeSpec := { name := "sleyEvens", fn := fun _ => fun
  | [d1, d2, d3, d4] => { results := [.lit (.bool true)], args := [d1, d2, d3, d4] }
  | _ => none }
def sleyEvensRow : OpenClaim := { program := "ytofmbeakbenncaa", sum := "8eef72efbfe461095591568a9efe75957e027fa451ebfc00d44da56348f73deb", func := "raddle/raddlelaw21.SleyEvens", spec := "sleyEvens", apart := false }
def SleyEvensSaid : Prop := sleyEvensRow.holds Try.pinned (OpenSpec.ofChange sleyEvensSpec)

/-- ITS FALSE NEIGHBOUR: 'it returns false'. Refute it at one input. -/
def sleyEvensWrong : ChangeSpec := { name := "sleyEvens", fn := fun _ => fun
  | [d1, d2, d3, d4] => { results := [.lit (.bool false)], args := [d1, d2, d3, d4] }
  | _ => none }
def SleyEvensWrongFalsely : Prop := sleyEvensRow.holds Try.pinned (OpenSpec.ofChange sleyEvensWrong)

/-- 'raddlelaw21.SleyLists': WHATEVER THE INPUT: true; the input reads as it did. -/
def sleyListsSpec : ChangeSpec := { name := "sleyLists", fn := fun _ => fun
  | [d1, d2, d3] => { results := [.lit (.bool true)], args := [d1, d2, d3] }
  | _ => none }
def sleyListsRow : OpenClaim := { program := "ytofmbeakbenncaa", sum := "8eef72efbfe461095591568a9efe75957e027fa451ebfc00d44da56348f73deb", func := "raddle/raddlelaw21.SleyLists", spec := "sleyLists", apart := false }
def SleyListsSaid : Prop := sleyListsRow.holds Try.pinned (OpenSpec.ofChange sleyListsSpec)

/-- ITS FALSE NEIGHBOUR: 'it returns false'. Refute it at one input. -/
def sleyListsWrong : ChangeSpec := { name := "sleyLists", fn := fun _ => fun
  | [d1, d2, d3] => { results := [.lit (.bool false)], args := [d1, d2, d3] }
  | _ => none }
def SleyListsWrongFalsely : Prop := sleyListsRow.holds Try.pinned (OpenSpec.ofChange sleyListsWrong)

/-- 'raddlelaw21.SleyNames': WHATEVER THE INPUT: true; the input reads as it did. -/
def sleyNamesSpec : ChangeSpec := { name := "sleyNames", fn := fun _ => fun
  | [] => { results := [.lit (.bool true)], args := [] }
  | _ => none }
def sleyNamesRow : OpenClaim := { program := "ytofmbeakbenncaa", sum := "8eef72efbfe461095591568a9efe75957e027fa451ebfc00d44da56348f73deb", func := "raddle/raddlelaw21.SleyNames", spec := "sleyNames", apart := false }
def SleyNamesSaid : Prop := sleyNamesRow.holds Try.pinned (OpenSpec.ofChange sleyNamesSpec)

/-- ITS FALSE NEIGHBOUR: 'it returns false'. Refute it at one input. -/
def sleyNamesWrong : ChangeSpec := { name := "sleyNames", fn := fun _ => fun
  | [] => { results := [.lit (.bool false)], args := [] }
  | _ => none }
def SleyNamesWrongFalsely : Prop := sleyNamesRow.holds Try.pinned (OpenSpec.ofChange sleyNamesWrong)

/-- 'raddlelaw21.SleyBalanced': WHATEVER THE INPUT: true; the input reads as it did. -/
def sleyBalancedSpec : ChangeSpec := { name := "sleyBalanced", fn := fun _ => fun
  | [d1, d2, d3] => { results := [.lit (.bool true)], args := [d1, d2, d3] }
  | _ => none }
def sleyBalancedRow : OpenClaim := { program := "ytofmbeakbenncaa", sum := "8eef72efbfe461095591568a9efe75957e027fa451ebfc00d44da56348f73deb", func := "raddle/raddlelaw21.SleyBalanced", spec := "sleyBalanced", apart := false }
def SleyBalancedSaid : Prop := sleyBalancedRow.holds Try.pinned (OpenSpec.ofChange sleyBalancedSpec)

/-- ITS FALSE NEIGHBOUR: 'it returns false'. Refute it at one input. -/
def sleyBalancedWrong : ChangeSpec := { name := "sleyBalanced", fn := fun _ => fun
  | [d1, d2, d3] => { results := [.lit (.bool false)], args := [d1, d2, d3] }
  | _ => none }
def SleyBalancedWrongFalsely : Prop := sleyBalancedRow.holds Try.pinned (OpenSpec.ofChange sleyBalancedWrong)

/-- 'raddlelaw21.SleyOrder': WHATEVER THE INPUT: true; the input reads as it did. -/
def sleyOrderSpec : ChangeSpec := { name := "sleyOrder", fn := fun _ => fun
  | [d] => { results := [.lit (.bool true)], args := [d] }
  | _ => none }
def sleyOrderRow : OpenClaim := { program := "ytofmbeakbenncaa", sum := "8eef72efbfe461095591568a9efe75957e027fa451ebfc00d44da56348f73deb", func := "raddle/raddlelaw21.SleyOrder", spec := "sleyOrder", apart := false }
def SleyOrderSaid : Prop := sleyOrderRow.holds Try.pinned (OpenSpec.ofChange sleyOrderSpec)

/-- ITS FALSE NEIGHBOUR: 'it returns false'. Refute it at one input. -/
def sleyOrderWrong : ChangeSpec := { name := "sleyOrder", fn := fun _ => fun
  | [d] => { results := [.lit (.bool false)], args := [d] }
  | _ => none }
def SleyOrderWrongFalsely : Prop := sleyOrderRow.holds Try.pinned (OpenSpec.ofChange sleyOrderWrong)

/-- 'raddlelaw21.SleyExact': WHATEVER THE INPUT: true; the input reads as it did. -/
def sleyExactSpec : ChangeSpec := { name := "sleyExact", fn := fun _ => fun
  | [d1, d2] => { results := [.lit (.bool true)], args := [d1, d2] }
  | _ => none }
def sleyExactRow : OpenClaim := { program := "ytofmbeakbenncaa", sum := "8eef72efbfe461095591568a9efe75957e027fa451ebfc00d44da56348f73deb", func := "raddle/raddlelaw21.SleyExact", spec := "sleyExact", apart := false }
def SleyExactSaid : Prop := sleyExactRow.holds Try.pinned (OpenSpec.ofChange sleyExactSpec)

/-- ITS FALSE NEIGHBOUR: 'it returns false'. Refute it at one input. -/
def sleyExactWrong : ChangeSpec := { name := "sleyExact", fn := fun _ => fun
  | [d1, d2] => { results := [.lit (.bool false)], args := [d1, d2] }
  | _ => none }
def SleyExactWrongFalsely : Prop := sleyExactRow.holds Try.pinned (OpenSpec.ofChange sleyExactWrong)

/-- 'raddlelaw21.SleyFills': WHATEVER THE INPUT: true; the input reads as it did. -/
def sleyFillsSpec : ChangeSpec := { name := "sleyFills", fn := fun _ => fun
  | [d1, d2] => { results := [.lit (.bool true)], args := [d1, d2] }
  | _ => none }
def sleyFillsRow : OpenClaim := { program := "ytofmbeakbenncaa", sum := "8eef72efbfe461095591568a9efe75957e027fa451ebfc00d44da56348f73deb", func := "raddle/raddlelaw21.SleyFills", spec := "sleyFills", apart := false }
def SleyFillsSaid : Prop := sleyFillsRow.holds Try.pinned (OpenSpec.ofChange sleyFillsSpec)

/-- ITS FALSE NEIGHBOUR: 'it returns false'. Refute it at one input. -/
def sleyFillsWrong : ChangeSpec := { name := "sleyFills", fn := fun _ => fun
  | [d1, d2] => { results := [.lit (.bool false)], args := [d1, d2] }
  | _ => none }
def SleyFillsWrongFalsely : Prop := sleyFillsRow.holds Try.pinned (OpenSpec.ofChange sleyFillsWrong)

/- THE SECOND FORM. 'bulk': how many values and letters a reading holds, each counted each time it is reached (what is shared counts as often as it is met; a slice's spare places count too). A statement '..UptoSaid' is the law's where the arguments, and the package variables that the reading takes, are together of bulk at most 1048576: NARROWER than '..Said'. Prove '..Said' where nothing that the law and all that it calls make is longer than what came in: it says more and counts as full. Else prove '..UptoSaid'. A law counts once. -/
mutual
def uptoBulk {H : Type} : DataW H → Nat
  | .lit (.string bytes) => bytes.length + 1
  | .lit _ => 1
  | .nil => 1
  | .ptr d => uptoBulk d + 1
  | .slice elems spare => uptoBulkAll elems + uptoBulkAll spare + 1
  | .agg parts => uptoBulkAll parts + 1
  | .iface _ d => uptoBulk d + 1
  | .map entries => uptoBulkEntries entries + 1
  | .held _ => 1
def uptoBulkAll {H : Type} : List (DataW H) → Nat
  | [] => 0
  | d :: r => uptoBulk d + uptoBulkAll r
def uptoBulkEntries {H : Type} : List (Lit × DataW H) → Nat
  | [] => 0
  | x :: r => uptoBulkEntry x + uptoBulkEntries r
def uptoBulkEntry {H : Type} : Lit × DataW H → Nat
  | (.string bytes, d) => bytes.length + uptoBulk d + 1
  | (_, d) => uptoBulk d + 1
 end
def uptoSmall : (H : Type) → List (DataW H) → Bool := fun _ ds => decide (uptoBulkAll ds ≤ 1048576)
def OpenSpec.upto (s : _root_.Go.ChangeSpec) : _root_.Go.OpenSpec := { _root_.Go.OpenSpec.ofChange s with cond := some uptoSmall }

/-- 'raddlelaw21.SleyEvens', WHERE WHAT IT READS IS OF BULK AT MOST 1048576: true; the input reads as it did. -/
def sleyEvensUptoRow : OpenClaim := { program := "ytofmbeakbenncaa", sum := "8eef72efbfe461095591568a9efe75957e027fa451ebfc00d44da56348f73deb", func := "raddle/raddlelaw21.SleyEvens", spec := "sleyEvens", apart := false, narrowed := true }
def SleyEvensUptoSaid : Prop := sleyEvensUptoRow.holds Try.pinned (OpenSpec.upto sleyEvensSpec)

/-- 'raddlelaw21.SleyLists', WHERE WHAT IT READS IS OF BULK AT MOST 1048576: true; the input reads as it did. -/
def sleyListsUptoRow : OpenClaim := { program := "ytofmbeakbenncaa", sum := "8eef72efbfe461095591568a9efe75957e027fa451ebfc00d44da56348f73deb", func := "raddle/raddlelaw21.SleyLists", spec := "sleyLists", apart := false, narrowed := true }
def SleyListsUptoSaid : Prop := sleyListsUptoRow.holds Try.pinned (OpenSpec.upto sleyListsSpec)

/-- 'raddlelaw21.SleyNames', WHERE WHAT IT READS IS OF BULK AT MOST 1048576: true; the input reads as it did. -/
def sleyNamesUptoRow : OpenClaim := { program := "ytofmbeakbenncaa", sum := "8eef72efbfe461095591568a9efe75957e027fa451ebfc00d44da56348f73deb", func := "raddle/raddlelaw21.SleyNames", spec := "sleyNames", apart := false, narrowed := true }
def SleyNamesUptoSaid : Prop := sleyNamesUptoRow.holds Try.pinned (OpenSpec.upto sleyNamesSpec)

/-- 'raddlelaw21.SleyBalanced', WHERE WHAT IT READS IS OF BULK AT MOST 1048576: true; the input reads as it did. -/
def sleyBalancedUptoRow : OpenClaim := { program := "ytofmbeakbenncaa", sum := "8eef72efbfe461095591568a9efe75957e027fa451ebfc00d44da56348f73deb", func := "raddle/raddlelaw21.SleyBalanced", spec := "sleyBalanced", apart := false, narrowed := true }
def SleyBalancedUptoSaid : Prop := sleyBalancedUptoRow.holds Try.pinned (OpenSpec.upto sleyBalancedSpec)

/-- 'raddlelaw21.SleyOrder', WHERE WHAT IT READS IS OF BULK AT MOST 1048576: true; the input reads as it did. -/
def sleyOrderUptoRow : OpenClaim := { program := "ytofmbeakbenncaa", sum := "8eef72efbfe461095591568a9efe75957e027fa451ebfc00d44da56348f73deb", func := "raddle/raddlelaw21.SleyOrder", spec := "sleyOrder", apart := false, narrowed := true }
def SleyOrderUptoSaid : Prop := sleyOrderUptoRow.holds Try.pinned (OpenSpec.upto sleyOrderSpec)

/-- 'raddlelaw21.SleyExact', WHERE WHAT IT READS IS OF BULK AT MOST 1048576: true; the input reads as it did. -/
def sleyExactUptoRow : OpenClaim := { program := "ytofmbeakbenncaa", sum := "8eef72efbfe461095591568a9efe75957e027fa451ebfc00d44da56348f73deb", func := "raddle/raddlelaw21.SleyExact", spec := "sleyExact", apart := false, narrowed := true }
def SleyExactUptoSaid : Prop := sleyExactUptoRow.holds Try.pinned (OpenSpec.upto sleyExactSpec)

/-- 'raddlelaw21.SleyFills', WHERE WHAT IT READS IS OF BULK AT MOST 1048576: true; the input reads as it did. -/
def sleyFillsUptoRow : OpenClaim := { program := "ytofmbeakbenncaa", sum := "8eef72efbfe461095591568a9efe75957e027fa451ebfc00d44da56348f73deb", func := "raddle/raddlelaw21.SleyFills", spec := "sleyFills", apart := false, narrowed := true }
def SleyFillsUptoSaid : Prop := sleyFillsUptoRow.holds Try.pinned (OpenSpec.upto sleyFillsSpec)

end Rows
end Go.Proofs.Ytofmbeakbenncaa
