/- PLAIN LAWS OF WHAT IS COMPUTED, for the statement 'PairsTogether'. Nothing is asked of the input. -/
import Derived.Test.YthmhdbmpeepmaaaLB
set_option linter.unusedVariables false
set_option linter.unusedSimpArgs false
namespace Go.Lt
theorem u64_mod (n : Int) {m : Nat} (hm : 0 < m) : ∃ k : Nat, Int.tmod (IntKind.wrap .u64 n) (m : Int) = k ∧ k < m := by
  have hu : 0 ≤ IntKind.wrap .u64 n := by
    simp only [IntKind.wrap, IntKind.signed, IntKind.bits]
    simp
    omega
  have h1 := Int.emod_nonneg (IntKind.wrap .u64 n) (show (m : Int) ≠ 0 by omega)
  have h2 := Int.emod_lt_of_pos (IntKind.wrap .u64 n) (show (0 : Int) < m by omega)
  refine ⟨(IntKind.wrap .u64 n % m).toNat, ?_, by omega⟩
  rw [Int.tmod_eq_emod_of_nonneg hu]; omega
end Go.Lt
