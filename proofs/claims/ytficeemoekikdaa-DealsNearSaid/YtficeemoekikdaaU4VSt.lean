/- PLAIN LAWS OF WHAT IS COMPUTED, for the statement 'DealsNear'. Nothing is asked of the input. -/
import Derived.Test.YtficeemoekikdaaU4VAwk
set_option linter.unusedVariables false
set_option linter.unusedSimpArgs false
namespace Go.Lt.P5
open Go Go.Lt Go.Proofs
theorem r47_spec (n p q : Int) (H : Hp) : r47 n p q H = some (decide (0 ≤ n ∧ n ≤ 8 ∧ 1 ≤ q ∧ q ≤ 12 ∧ 0 ≤ p ∧ p < q), H) := by
  unfold r47
  by_cases h1 : 0 ≤ n <;> by_cases h2 : n ≤ 8 <;> by_cases h3 : 1 ≤ q <;> by_cases h4 : q ≤ 12 <;> by_cases h5 : 0 ≤ p <;> simp [h1, h2, h3, h4, h5]
theorem r17_spec (p q : Int) (H : Hp) : r17 p q H = some (decide (1 ≤ q ∧ q ≤ 12 ∧ 0 ≤ p ∧ p < q), H) := by
  unfold r17
  by_cases h3 : 1 ≤ q <;> by_cases h4 : q ≤ 12 <;> by_cases h5 : 0 ≤ p <;> simp [h3, h4, h5]
theorem r15_out {n p q n' p' q' : Int} (h : ¬ (0 ≤ n ∧ n ≤ 8 ∧ 1 ≤ q ∧ q ≤ 12 ∧ 0 ≤ p ∧ p < q)) (h' : ¬ (0 ≤ n' ∧ n' ≤ 8 ∧ 1 ≤ q' ∧ q' ≤ 12 ∧ 0 ≤ p' ∧ p' < q')) (H : Hp) : r15 n p q H = r15 n' p' q' H := by
  unfold r15
  rw [r47_spec, r47_spec, decide_eq_false h, decide_eq_false h']
  simp only [lt, Option.bind_some, Bool.false_eq_true, if_false]
theorem r16_out {p q p' q' : Int} (h : ¬ (1 ≤ q ∧ q ≤ 12 ∧ 0 ≤ p ∧ p < q)) (h' : ¬ (1 ≤ q' ∧ q' ≤ 12 ∧ 0 ≤ p' ∧ p' < q')) (H : Hp) : r16 p q H = r16 p' q' H := by
  unfold r16
  rw [r47_spec, r47_spec, decide_eq_false (by omega), decide_eq_false (by omega)]
  simp only [lt, Option.bind_some, Bool.false_eq_true, if_false]
end Go.Lt.P5
