/- PLAIN LAWS OF WHAT IS COMPUTED, for the statement 'PairsSpread'. Nothing is asked of the input. -/
import Derived.Test.YthmhdbmpeepmaaaLB
import Derived.Test.YthmhdbmpeepmaaaU12UCmpL
import Derived.Test.YthmhdbmpeepmaaaG12A
set_option linter.unusedVariables false
set_option linter.unusedSimpArgs false
namespace Go.Lt.P8
open Go Go.Lt Go.Proofs
theorem r109_eq (x : Int) (H : Hp) : r109 x H = some (false, H) := by unfold r109; simp
theorem r87_eq (x y : Int) (H : Hp) : r87 x y H = some ((if x < y then -1 else if y < x then 1 else 0), H) := by
  unfold r87
  simp only [r109_eq, Option.bind_some]
  rw [if_neg (by simp), if_neg (by simp)]
  split
  · rfl
  · split <;> rfl
end Go.Lt.P8
