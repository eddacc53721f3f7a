/- PLAIN LAWS OF WHAT IS COMPUTED, for the statement 'PairsSpread'. Nothing is asked of the input. -/
import Derived.Test.YthmhdbmpeepmaaaU12UTsL
set_option linter.unusedVariables false
set_option linter.unusedSimpArgs false
namespace Go.Lt.P8
open Go Go.Lt
theorem all12 : ∀ v ∈ [3, 4, 5, 6, 7, 8], (allE v (codes v) 13 0 []).all (goodM v) = true := by decide +kernel
theorem all12_9 : (allE 9 (codes 9) 13 0 []).all (goodM 9) = true := by decide +kernel
end Go.Lt.P8
