/- PLAIN LAWS OF WHAT IS COMPUTED, for the statement 'PairsRenamed'. Nothing is asked of the input. -/
import Derived.Test.YthmhdbmpeepmaaaU17UOcc
import Derived.Test.YthmhdbmpeepmaaaU17UQ
import Derived.Test.YthmhdbmpeepmaaaLB
set_option linter.unusedVariables false
set_option linter.unusedSimpArgs false
namespace Go.Lt.P8
open Go Go.Lt Go.Proofs
theorem all_pins {l : List Int} : ((∀ x : Nat, x < l.length → (occF l x 0).length = 1) ∧ l.length = l.length) ↔ (∀ i (h : i < l.length), 0 ≤ l[i] ∧ l[i] < l.length) ∧ l.Nodup := by
  simp only [occ_count, and_true]
  constructor
  · intro h
    have hs := range_ints_nodup l.length
    have hsub : ∀ x ∈ ((List.range l.length).map fun (x : Nat) => (x : Int)), x ∈ l := by
      intro x hx
      obtain ⟨y, hy, rfl⟩ := List.mem_map.1 hx
      have := h y (by simpa using hy)
      exact List.count_pos_iff.1 (by omega)
    have hp : ((List.range l.length).map fun (x : Nat) => (x : Int)).Perm l := by
      refine perm_of_sub hs hsub (by simp)
    refine ⟨fun i hi => ?_, hp.nodup_iff.1 hs⟩
    have := hp.mem_iff.2 (List.getElem_mem hi)
    obtain ⟨y, hy, e⟩ := List.mem_map.1 this
    simp at hy
    omega
  · rintro ⟨h1, h2⟩ x hx
    have : (x : Int) ∈ l := onto h2 (fun y hy => by obtain ⟨i, hi, rfl⟩ := List.mem_iff_getElem.1 hy; exact h1 i hi) hx
    have h3 := List.nodup_iff_count.1 h2 (x : Int)
    have := List.count_pos_iff.2 this
    omega
theorem pins_ref {l : List Int} : Pins l ↔ ((∀ i (h : i < l.length), 0 ≤ l[i] ∧ l[i] < l.length) ∧ l.Nodup) ∧ ∀ d i j (hd : 0 < d) (hi : i + d < l.length) (hj : j < i), l[i + d] - l[i] ≠ l[j + d] - l[j] := by
  constructor
  · intro h
    refine ⟨⟨h.rng, h.nodup⟩, fun d i j hd hi hj e => ?_⟩
    have := h.arr (i + d) i (j + d) j hi (by omega) (by omega) (by omega) (by omega) e
    omega
  · rintro ⟨⟨h1, h2⟩, h3⟩
    refine ⟨h1, fun i j hi hj e => nodup_inj h2 hi hj e, fun i j i' j' hi hi' hj hj' e1 e2 => ?_⟩
    rcases Nat.lt_trichotomy i i' with hlt | rfl | hgt
    · have := h3 (i - j) j' j (by omega) (by omega) (by omega)
      simp only [show j' + (i - j) = i' by omega, show j + (i - j) = i by omega] at this
      exact absurd e2.symm this
    · rfl
    · have := h3 (i - j) j j' (by omega) (by omega) (by omega)
      simp only [show j' + (i - j) = i' by omega, show j + (i - j) = i by omega] at this
      exact absurd e2 this
end Go.Lt.P8
