/- PLAIN LAWS OF WHAT IS COMPUTED, for the statement 'DealsNear'. Nothing is asked of the input. -/
import Derived.Test.YtficeemoekikdaaU4VAwk
set_option linter.unusedVariables false
set_option linter.unusedSimpArgs false
namespace Go.Lt.P5
open Go Go.Lt Go.Proofs
noncomputable def nearB (n : Int) (p q : Nat) : Bool := ((r4 (appA 20) n p q H0).map (·.1)) == some true
theorem near_in : ∀ q ∈ List.range 13, ∀ p ∈ List.range q, ∀ n ∈ List.range 9, nearB (n : Nat) p q = true := by decide +kernel
theorem near_no : nearB 0 0 0 = true := by decide +kernel
end Go.Lt.P5
