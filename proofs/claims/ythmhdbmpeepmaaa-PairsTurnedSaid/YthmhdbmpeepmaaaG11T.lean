/- PRINTED BY A PROGRAM OF OURS: what each function that 'PairsTurned' reaches computes on the abstract heap, and that the translated code does just that. Nothing is asked of the input. -/
import Derived.Test.YthmhdbmpeepmaaaLRes
import Derived.Test.YthmhdbmpeepmaaaProg
import Derived.KernelRfl
set_option linter.unusedVariables false
set_option linter.unusedSimpArgs false
set_option maxRecDepth 100000
set_option maxHeartbeats 4000000
namespace Go.Lt.P8
open Go Go.Lt Go.Proofs
theorem mixed : Try.prog.follows .mixedOrders = true := by kernel_rfl
theorem ty3 : TyIs Try.prog 3 1 8 (.int .i64 0) := by unfold TyIs; kernel_rfl
theorem ty22 : TyIs Try.prog 22 1 24 (.slice none 0 0) := by unfold TyIs; kernel_rfl
theorem ty37 : TyIs Try.prog 37 1 8 (.nilFunc) := by unfold TyIs; kernel_rfl
end Go.Lt.P8
