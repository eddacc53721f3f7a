/- PLAIN LAWS OF WHAT IS COMPUTED, for the statement 'DealsSteps'. Nothing is asked of the input. -/
import Derived.Test.YtficeemoekikdaaU3VAwk
set_option linter.unusedVariables false
set_option linter.unusedSimpArgs false
namespace Go.Lt.P5
open Go Go.Lt Go.Proofs
noncomputable def stepsB (n : Int) (p q : Nat) : Bool := ((r3 (appA 20) n p q H0).map (·.1)) == some true
theorem steps_in : ∀ q ∈ List.range 13, ∀ p ∈ List.range q, ∀ n ∈ List.range 9, stepsB (n : Nat) p q = true := by decide +kernel
theorem steps_out : ∀ q ∈ List.range 13, ∀ p ∈ List.range q, stepsB (-1) p q = true := by decide +kernel
theorem steps_no : stepsB 0 0 0 = true := by decide +kernel
end Go.Lt.P5
