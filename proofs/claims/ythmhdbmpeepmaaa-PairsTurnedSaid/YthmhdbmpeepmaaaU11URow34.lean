/- PLAIN LAWS OF WHAT IS COMPUTED, for the statement 'PairsTurned'. Nothing is asked of the input. -/
import Derived.Test.YthmhdbmpeepmaaaU11USl
import Derived.Test.YthmhdbmpeepmaaaU11URowR
set_option linter.unusedVariables false
set_option linter.unusedSimpArgs false
namespace Go.Lt.P8
open Go Go.Lt Go.Proofs
theorem r34_ok {s : Int} (hs1 : -9223372036854775808 ≤ s) (hs2 : s < 9223372036854775807 - 100) {row : List Int} {H : Hp} {v : Sl} (hv : SL H v row) (hb : row.length < 9223372036854775808) : Ok (r34 s v H) fun b H' => Gr H H' ∧ b = refRow s row := by
  by_cases hc : row.length < 4611686018427387904
  · obtain ⟨H', e, g⟩ := r34_spec hs1 hs2 hv.is.ints hc
    exact ⟨_, H', e, g, rfl⟩
  · unfold r34
    rw [half' hv.len hb]
    refine Ok.neg (by omega) (Ok.pos (by omega) ?_)
    unfold r34_j0
    refine Ok.pos rfl (Ok.ret ⟨.refl _, ?_⟩)
    unfold refRow
    rw [decide_eq_false (by omega)]
    rfl
end Go.Lt.P8
