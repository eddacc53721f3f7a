/- PLAIN LAWS OF WHAT IS COMPUTED, for the statement 'PairsTurned'. Nothing is asked of the input. -/
import Derived.Test.YthmhdbmpeepmaaaU11UPl
import Derived.Test.YthmhdbmpeepmaaaU11URd
set_option linter.unusedVariables false
set_option linter.unusedSimpArgs false
namespace Go.Lt.P8
open Go Go.Lt Go.Proofs
theorem r30_spec {s : Int} {row : List Int} {H : Hp} {v : Sl} (hv : IS H v row) (hb : row.length < 4611686018427387904) :
    ∃ H', r30 s v H = some ((if (s = 1 ∨ s = 2) ∧ row.length ≤ 16 then ((placesF s row).isSome, 0) else (false, 2)), H') ∧ Gr H H' := by
  unfold r30 r30_j0
  rw [r80_spec]
  simp only [Option.bind_some]
  have hlen := hv.ints.len
  by_cases hs : s = 1 ∨ s = 2
  · rw [decide_eq_true hs, if_pos rfl]
    by_cases hl : row.length ≤ 16
    · rw [decide_eq_false (by omega), if_neg (by simp), if_pos ⟨hs, hl⟩]
      obtain ⟨w, ok, H', h1, g, h2⟩ := r81_spec (s := s) hv hb
      rw [h1]
      refine ⟨H', ?_, g⟩
      cases hp : placesF s row <;> rw [hp] at h2
      · rw [h2.2]; rfl
      · rw [h2.1]; rfl
    · rw [decide_eq_true (by omega), if_pos rfl, if_neg (fun h => hl h.2)]
      exact ⟨H, rfl, .refl _⟩
  · rw [decide_eq_false hs, if_neg (by simp), if_pos trivial, if_neg (fun h => hs h.1)]
    exact ⟨H, rfl, .refl _⟩
end Go.Lt.P8
