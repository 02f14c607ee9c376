/- Chapter 3: drafts pruned and renumbered keep their cloth. -/
import Derived.Test.YtoliobpligbbjaaA0
import Derived.Test.YtoliobpligbbjaaQ5
import Derived.Test.YtoliobpligbbjaaQ6
import Derived.Test.YtoliobpligbbjaaT2
set_option linter.unusedSimpArgs false
set_option linter.unusedVariables false
set_option maxRecDepth 100000
namespace Go.Proofs.Ytoliobpligbbjaa
open Go Go.Proofs Go.AW

theorem alive_c : Contract Try.prog 6 [] (B true) := Contract.run xGood 1000 (by kernel_rfl)

theorem draft_fit {f : FuncId} {s t : Int} {b1 : Bool} {th : List Int} {b2 : Bool} {td : List Int} {w h : Int} {b3 : Bool} {l : List Bool} {rest : List AVal} {res : AVal} (hc : callable Try.prog f = true)
    (hC : ((b1 = true → th.length = 0 ∧ ints th = []) ∧ (b2 = true → td.length = 0 ∧ ints td = []) ∧ (b3 = true → l.length = 0 ∧ bools l = [])) → Contract Try.prog f (DA s t b1 th b2 td w h b3 l :: rest) res) : Contract Try.prog f (DA s t b1 th b2 td w h b3 l :: rest) res :=
  Contract.fit hc 0 rfl (.and _ _ _ (.agg _ 2 _ _ rfl (.nil _ _ _ _)) (.and _ _ _ (.agg _ 3 _ _ rfl (.nil _ _ _ _)) (.agg _ 6 _ _ rfl (.nil _ _ _ _)))) hC
end Go.Proofs.Ytoliobpligbbjaa
