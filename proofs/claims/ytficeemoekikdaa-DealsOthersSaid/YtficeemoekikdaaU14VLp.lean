/- PLAIN LAWS OF WHAT IS COMPUTED, for the statement 'DealsOthers'. Nothing is asked of the input. -/
import Derived.Test.YtficeemoekikdaaU14VSo
set_option linter.unusedVariables false
set_option linter.unusedSimpArgs false
namespace Go.Lt.P5
open Go Go.Lt Go.Proofs
def dom (o a : Pr) : Prop := a ≠ o ∧ o.1 ≤ a.1 ∧ o.2 ≤ a.2
/-- o lies below the way from a to b -/
def beat (o a b : Pr) : Prop := a.1 < o.1 ∧ o.1 < b.1 ∧ (o.2 - a.2) * (b.1 - a.1) < (b.2 - a.2) * (o.1 - a.1)
def lastP (l : List Pr) (o : Pr) : Prop := ∀ a ∈ l, ¬ dom o a ∧ ∀ b ∈ l, ¬ beat o a b
instance (o a : Pr) : Decidable (dom o a) := by unfold dom; infer_instance
instance (o a b : Pr) : Decidable (beat o a b) := by unfold beat; infer_instance
instance (l : List Pr) (o : Pr) : Decidable (lastP l o) := by unfold lastP; infer_instance
/-- b lies in one line with a and o -/
def col (a o b : Pr) : Prop := (b.1 - a.1) * (o.2 - a.2) = (b.2 - a.2) * (o.1 - a.1)
instance (a o b : Pr) : Decidable (col a o b) := by unfold col; infer_instance
def betw (E : List Pr) (o : Pr) : Prop := ∃ a ∈ E, ∃ b ∈ E, (a.1 < o.1 ∧ o.1 < b.1) ∧ col a o b
instance (E : List Pr) (o : Pr) : Decidable (betw E o) := by unfold betw; infer_instance
def incP (a b : Pr) : Prop := a.1 < b.1
theorem inc_take {E : List Pr} (hE : E.Pairwise incP) {i : Nat} (h : i < E.length) {a : Pr} : a ∈ E.take i ↔ a ∈ E ∧ a.1 < E[i].1 := by
  have hp := List.pairwise_iff_getElem.1 hE
  constructor
  · intro ha
    obtain ⟨j, hj, rfl⟩ := List.mem_iff_getElem.1 ha
    rw [List.length_take] at hj
    rw [List.getElem_take]
    exact ⟨List.getElem_mem _, hp j i (by omega) h (by omega)⟩
  · rintro ⟨ha, hlt⟩
    obtain ⟨j, hj, rfl⟩ := List.mem_iff_getElem.1 ha
    have : j < i := by
      rcases Nat.lt_trichotomy j i with c | c | c
      · exact c
      · subst c; omega
      · have := hp i j h hj c; unfold incP at this; omega
    exact List.mem_iff_getElem.2 ⟨j, by rw [List.length_take]; omega, by rw [List.getElem_take]⟩
theorem inc_drop {E : List Pr} (hE : E.Pairwise incP) {i : Nat} (h : i < E.length) {a : Pr} : a ∈ E.drop (i + 1) ↔ a ∈ E ∧ E[i].1 < a.1 := by
  have hp := List.pairwise_iff_getElem.1 hE
  constructor
  · intro ha
    obtain ⟨j, hj, rfl⟩ := List.mem_iff_getElem.1 ha
    rw [List.length_drop] at hj
    rw [List.getElem_drop]
    exact ⟨List.getElem_mem _, hp i (i + 1 + j) h (by omega) (by omega)⟩
  · rintro ⟨ha, hlt⟩
    obtain ⟨j, hj, rfl⟩ := List.mem_iff_getElem.1 ha
    have : i < j := by
      rcases Nat.lt_trichotomy j i with c | c | c
      · have := hp j i hj h c; unfold incP at this; omega
      · subst c; omega
      · exact c
    exact List.mem_iff_getElem.2 ⟨j - (i + 1), by rw [List.length_drop]; omega, by rw [List.getElem_drop]; congr 1; omega⟩
theorem betw_iff {E : List Pr} (hE : E.Pairwise incP) {i : Nat} (h : i < E.length) : betw E E[i] ↔ ∃ a ∈ E.take i, ∃ b ∈ E.drop (i + 1), col a E[i] b := by
  unfold betw
  constructor
  · rintro ⟨a, ha, b, hb, ⟨h1, h2⟩, hc⟩
    exact ⟨a, (inc_take hE h).2 ⟨ha, h1⟩, b, (inc_drop hE h).2 ⟨hb, h2⟩, hc⟩
  · rintro ⟨a, ha, b, hb, hc⟩
    have h1 := (inc_take hE h).1 ha
    have h2 := (inc_drop hE h).1 hb
    exact ⟨a, h1.1, b, h2.1, ⟨h1.2, h2.2⟩, hc⟩
end Go.Lt.P5
