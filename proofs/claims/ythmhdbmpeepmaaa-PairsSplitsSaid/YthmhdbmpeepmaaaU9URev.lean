/- PLAIN LAWS OF WHAT IS COMPUTED, for the statement 'PairsSplits'. Nothing is asked of the input. -/
import Derived.Test.YthmhdbmpeepmaaaU9UQ
set_option linter.unusedVariables false
namespace Go.Lt.P8
open Go Go.Lt Go.Proofs
theorem Pins.reverse {l : List Int} (h : Pins l) : Pins l.reverse := by
  have hl : l.reverse.length = l.length := by simp
  refine ⟨fun i hi => ?_, fun i j hi hj e => ?_, fun i j i' j' hi hi' hj hj' e1 e2 => ?_⟩
  · rw [List.getElem_reverse, hl]; exact h.rng _ _
  · rw [List.getElem_reverse, List.getElem_reverse] at e
    have := h.inj _ _ _ _ e
    omega
  · simp only [List.getElem_reverse] at e2
    have := h.arr (l.length - 1 - j) (l.length - 1 - i) (l.length - 1 - j') (l.length - 1 - i') (by omega) (by omega) (by omega) (by omega) (by omega) (by omega)
    omega
end Go.Lt.P8
