/- PLAIN LAWS OF WHAT IS COMPUTED, for the statement 'PairsCosts'. Nothing is asked of the input. -/
import Derived.Test.YthmhdbmpeepmaaaU15UQ
import Derived.Test.YthmhdbmpeepmaaaU15UPins
set_option linter.unusedVariables false
set_option linter.unusedSimpArgs false
namespace Go.Lt.P8
open Go Go.Lt Go.Proofs
/-- IsPins -/
theorem r38_spec {l : List Int} {H : Hp} {v : Sl} (hv : IS H v l) (hb : l.length ≤ 1000) : ∃ H', r38 v H = some ((if 1 ≤ l.length ∧ l.length ≤ 6 then (pinsF l, 0) else (false, 2)), H') ∧ Gr H H' := by
  unfold r38 r38_j0
  have hlen := hv.ints.len
  by_cases h1 : (v.len : Int) < 1
  · rw [if_pos h1, if_pos rfl, if_neg (by omega)]
    exact ⟨H, rfl, .refl _⟩
  rw [if_neg h1]
  by_cases h2 : 6 < (v.len : Int)
  · rw [decide_eq_true h2, if_pos rfl, if_neg (by omega)]
    exact ⟨H, rfl, .refl _⟩
  rw [decide_eq_false h2, if_neg (by simp), if_pos (by omega)]
  obtain ⟨H', h, g⟩ := r82_spec hv hb
  rw [h]
  exact ⟨H', rfl, g⟩
end Go.Lt.P8
