/- PLAIN LAWS OF WHAT IS COMPUTED, for the statement 'PairsCosts'. Nothing is asked of the input. -/
import Derived.Test.YthmhdbmpeepmaaaU15UIs
import Derived.Test.YthmhdbmpeepmaaaU15USl
set_option linter.unusedVariables false
set_option linter.unusedSimpArgs false
namespace Go.Lt.P8
open Go Go.Lt Go.Proofs
theorem r38_ok {l : List Int} {H : Hp} {v : Sl} (hv : SL H v l) (hb : l.length ≤ 1000) : Ok (r38 v H) fun r H' => Gr H H' ∧ r = if 1 ≤ l.length ∧ l.length ≤ 6 then (pinsF l, 0) else (false, 2) := by
  obtain ⟨H', e, g⟩ := r38_spec hv.is hb
  exact ⟨_, H', e, g, rfl⟩
end Go.Lt.P8
