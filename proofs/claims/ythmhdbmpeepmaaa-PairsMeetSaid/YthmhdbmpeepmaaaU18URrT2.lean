/- PLAIN LAWS OF WHAT IS COMPUTED, for the statement 'PairsMeet'. Nothing is asked of the input. -/
import Derived.Test.YthmhdbmpeepmaaaU18URrT
set_option linter.unusedVariables false
set_option linter.unusedSimpArgs false
namespace Go.Lt.P8
open Go Go.Lt Go.Proofs
theorem meet0 : ∀ x ∈ [0], ∀ y ∈ [0], meetB 0 x y = true := by decide +kernel
theorem meet1 : ∀ x ∈ [0, 1, 2], ∀ y ∈ [0, 1, 2], meetB 1 x y = true := by decide +kernel
theorem meet2 : ∀ x ∈ [0, 1, 2, 3, 4], ∀ y ∈ [0, 1, 2, 3, 4], meetB 2 x y = true := by decide +kernel
end Go.Lt.P8
