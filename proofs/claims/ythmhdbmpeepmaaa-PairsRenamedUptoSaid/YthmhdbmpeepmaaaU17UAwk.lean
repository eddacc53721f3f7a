/- PLAIN LAWS OF WHAT IS COMPUTED, for the statement 'PairsRenamed'. Nothing is asked of the input. -/
import Derived.Test.YthmhdbmpeepmaaaU17USl
import Derived.Test.YthmhdbmpeepmaaaU17UFirst
set_option linter.unusedVariables false
set_option linter.unusedSimpArgs false
namespace Go.Lt.P8
open Go Go.Lt Go.Proofs
abbrev T (b : Bool) (_ : Hp) : Prop := b = true
theorem awake_ok {H : Hp} : Ok (r23 (app 10) H) fun b _ => b = true := by
  obtain ⟨H', e⟩ := awake10 H
  exact ⟨_, _, e, rfl⟩
theorem r25_ok {H : Hp} {v w : Sl} {l l' : List Int} (h : SL H v l) (h' : SL H w l') (hb : l.length ≤ 1000000) : Ok (r25 v w H) fun b H' => H' = H ∧ b = decide (l = l') :=
  ⟨_, _, r25_spec h.is.ints h'.is.ints (by omega), rfl, rfl⟩
end Go.Lt.P8
