/- PRINTED BY A PROGRAM OF OURS: what each function that 'PairsMeet' reaches computes on the abstract heap, and that the translated code does just that. Nothing is asked of the input. -/
import Derived.Test.YthmhdbmpeepmaaaLA
import Derived.Test.YthmhdbmpeepmaaaProg
import Derived.KernelRfl
set_option linter.unusedVariables false
set_option linter.unusedSimpArgs false
set_option maxRecDepth 100000
set_option maxHeartbeats 4000000
namespace Go.Lt.P8
open Go Go.Lt Go.Proofs
theorem mixed : Try.prog.follows .mixedOrders = true := by kernel_rfl
theorem ty3 : TyIs Try.prog 3 1 8 (.int .i64 0) := by unfold TyIs; kernel_rfl
theorem ty4 : TyIs Try.prog 4 1 1 (.bool false) := by unfold TyIs; kernel_rfl
theorem ty22 : TyIs Try.prog 22 1 24 (.slice none 0 0) := by unfold TyIs; kernel_rfl
theorem ty37 : TyIs Try.prog 37 1 8 (.nilFunc) := by unfold TyIs; kernel_rfl
theorem ty40 : TyIs Try.prog 40 1 24 (.slice none 0 0) := by unfold TyIs; kernel_rfl
theorem ty43 : TyIs Try.prog 43 2 16 (.agg #[.int .i64 0, .int .i64 0]) := by unfold TyIs; kernel_rfl
theorem ty81 : TyIs Try.prog 81 8 64 (.agg #[.int .i64 0, .int .i64 0, .int .i64 0, .int .i64 0, .int .i64 0, .int .i64 0, .int .i64 0, .int .i64 0]) := by unfold TyIs; kernel_rfl
theorem ty82 : TyIs Try.prog 82 64 512 (.agg #[.int .i64 0, .int .i64 0, .int .i64 0, .int .i64 0, .int .i64 0, .int .i64 0, .int .i64 0, .int .i64 0, .int .i64 0, .int .i64 0, .int .i64 0, .int .i64 0, .int .i64 0, .int .i64 0, .int .i64 0, .int .i64 0, .int .i64 0, .int .i64 0, .int .i64 0, .int .i64 0, .int .i64 0, .int .i64 0, .int .i64 0, .int .i64 0, .int .i64 0, .int .i64 0, .int .i64 0, .int .i64 0, .int .i64 0, .int .i64 0, .int .i64 0, .int .i64 0, .int .i64 0, .int .i64 0, .int .i64 0, .int .i64 0, .int .i64 0, .int .i64 0, .int .i64 0, .int .i64 0, .int .i64 0, .int .i64 0, .int .i64 0, .int .i64 0, .int .i64 0, .int .i64 0, .int .i64 0, .int .i64 0, .int .i64 0, .int .i64 0, .int .i64 0, .int .i64 0, .int .i64 0, .int .i64 0, .int .i64 0, .int .i64 0, .int .i64 0, .int .i64 0, .int .i64 0, .int .i64 0, .int .i64 0, .int .i64 0, .int .i64 0, .int .i64 0]) := by unfold TyIs; kernel_rfl
theorem ty135 : TyIs Try.prog 135 1 8 (.int .u64 0) := by unfold TyIs; kernel_rfl
end Go.Lt.P8
