/- PLAIN LAWS OF WHAT IS COMPUTED, for the statement 'PairsSpread'. Nothing is asked of the input. -/
import Derived.Test.YthmhdbmpeepmaaaU12UThG0
set_option linter.unusedVariables false
set_option linter.unusedSimpArgs false
namespace Go.Lt.P8
open Go Go.Lt Go.Proofs
theorem grow4 : growF 4 13 [] = none := by decide +kernel
theorem grow5 : growF 5 13 [] = none := by decide +kernel
theorem grow6 : growF 6 13 [] = none := by decide +kernel
theorem grow8 : growF 8 13 [] = none := by decide +kernel
/-- all players of triples -/
def flat3 (l : List Tr) : List Int := l.flatMap list3
/-- what law 16 asks of the first triples -/
def good16 (v : Nat) (l : List Tr) : Bool := (l.length == v * (v - 1) / 6) && areF v (l.take 16) && ((List.range v).all fun x => 2 * (flat3 l).count (x : Int) == v - 1) && ((List.range l.length).all fun i => !areF v (l.eraseIdx i)) && (flat3 l).all fun x => decide (0 ≤ x ∧ x < (v : Int))
theorem good3 : (growF 3 13 []).any (good16 3) = true := by decide +kernel
theorem good7 : (growF 7 13 []).any (good16 7) = true := by decide +kernel
theorem good9 : (growF 9 13 []).any (good16 9) = true := by decide +kernel
end Go.Lt.P8
