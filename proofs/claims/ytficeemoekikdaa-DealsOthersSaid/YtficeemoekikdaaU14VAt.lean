/- PLAIN LAWS OF WHAT IS COMPUTED, for the statement 'DealsOthers'. Nothing is asked of the input. -/
import Derived.Test.YtficeemoekikdaaU14VSo
set_option linter.unusedVariables false
set_option linter.unusedSimpArgs false
namespace Go.Lt.P5
open Go.Lt
theorem at_cons (t : Pr) (s : List Pr) (j : Nat) : at' (t :: s) (j + 1) = at' s j := rfl
theorem at_mem {s : List Pr} {j : Nat} (h : j < s.length) : at' s j ∈ s := by rw [← at_eq h]; exact List.getElem_mem h
theorem at_rev {s : List Pr} {i : Nat} (h : i < s.length) : at' s.reverse i = at' s (s.length - 1 - i) := by
  rw [← at_eq (by simpa using h), ← at_eq (by omega), List.getElem_reverse]
theorem conv_at : ∀ (s : List Pr), conv s → ∀ j, j + 1 < s.length → (at' s (j + 1)).1 < (at' s j).1 ∧ (at' s j).2 < (at' s (j + 1)).2 := by
  intro s
  induction s with
  | nil => intro _ j h; simp at h
  | cons t s ih =>
    intro hc j h
    cases s with
    | nil => simp at h
    | cons u r =>
      obtain ⟨c1, c2, c3, c4⟩ := hc
      cases j with
      | zero => exact ⟨c1, c2⟩
      | succ j => exact ih c4 j (by simpa using h)
theorem und_at {o : Pr} : ∀ (s : List Pr), und s o → ∀ j, j + 1 < s.length → under (at' s (j + 1)) (at' s j) o := by
  intro s
  induction s with
  | nil => intro _ j h; simp at h
  | cons t s ih =>
    intro hc j h
    cases s with
    | nil => simp at h
    | cons u r =>
      cases j with
      | zero => exact hc.1
      | succ j => exact ih hc.2 j (by simpa using h)
theorem und_last {o : Pr} : ∀ (s : List Pr), und s o → s ≠ [] → o.2 ≤ (at' s (s.length - 1)).2 := by
  intro s
  induction s with
  | nil => intro _ h; exact absurd rfl h
  | cons t s ih =>
    intro hc _
    cases s with
    | nil => exact hc
    | cons u r => exact ih hc.2 (by simp)
end Go.Lt.P5
