/- PLAIN LAWS OF WHAT IS COMPUTED, for the statement 'PairsMeet'. Nothing is asked of the input. -/
import Derived.Test.YthmhdbmpeepmaaaU18URrT
set_option linter.unusedVariables false
set_option linter.unusedSimpArgs false
namespace Go.Lt.P8
open Go Go.Lt Go.Proofs
theorem meet3a : ∀ x ∈ [0, 1], ∀ y ∈ [0, 1, 2, 3, 4, 5, 6], meetB 3 x y = true := by decide +kernel
end Go.Lt.P8
