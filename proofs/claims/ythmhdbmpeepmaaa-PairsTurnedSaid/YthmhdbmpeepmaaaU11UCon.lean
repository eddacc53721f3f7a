/- PLAIN LAWS OF WHAT IS COMPUTED, for the statement 'PairsTurned'. Nothing is asked of the input. -/
import Derived.Test.YthmhdbmpeepmaaaU11UIdx
set_option linter.unusedVariables false
set_option linter.unusedSimpArgs false
namespace Go.Lt.P8
open Go Go.Lt Go.Proofs
theorem r77_spec {H : Hp} {v : Sl} {l : List Int} (h : Ints H v l) (hb : l.length < 4611686018427387904) (x : Int) : r77 v x H = some (decide (x ∈ l), H) := by
  unfold r77
  rw [r108_spec h hb]
  simp only [Option.bind_some]
  rcases idxF_cases x l 0 (Int.le_refl 0) with ⟨h1, h2⟩ | ⟨t, ht, h1, h2, _⟩
  · rw [h1, decide_eq_false (by omega), decide_eq_false h2]
  · rw [h1, decide_eq_true (by omega), decide_eq_true (h2 ▸ List.getElem_mem ht)]
end Go.Lt.P8
