/- The kinds of rows, by the reference. -/
import Derived.Test.YtefhmecaoefpbaaK1
set_option linter.unusedSimpArgs false
set_option linter.unusedVariables false
set_option maxRecDepth 100000
namespace Go.Proofs.Ytefhmecaoefpbaa
open Go Go.Proofs Go.AW

def nI (l : List Nat) : List Int := l.map fun n : Nat => (n : Int)
theorem nI_len (l : List Nat) : (nI l).length = l.length := by simp [nI]
theorem nI_app (l : List Nat) (n : Nat) : nI (l ++ [n]) = nI l ++ [(n : Int)] := by simp [nI]
theorem nI_get (l : List Nat) (k : Nat) : (nI l).getD k 0 = ((l.getD k 0 : Nat) : Int) := by
  simp only [nI, List.getD_eq_getElem?_getD, List.getElem?_map]
  cases l[k]? <;> rfl
end Go.Proofs.Ytefhmecaoefpbaa
