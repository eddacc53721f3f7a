/- PLAIN LAWS OF WHAT IS COMPUTED, for the statement 'DealsSteps'. Nothing is asked of the input. -/
import Derived.Test.YtficeemoekikdaaU3V3F
import Derived.Test.YtficeemoekikdaaU3VSt
set_option linter.unusedVariables false
set_option linter.unusedSimpArgs false
namespace Go.Lt.P5
open Go Go.Lt Go.Proofs
theorem stepsB_iff {n : Int} {p q : Nat} (h : stepsB n p q = true) : ∃ H1, r3 (appA 20) n p q H0 = some (true, H1) := by
  unfold stepsB at h
  rw [beq_iff_eq] at h
  obtain ⟨x, hx, he⟩ := Option.map_eq_some_iff.1 h
  exact ⟨x.2, by rw [hx, ← he]⟩
theorem stepsLaw (n p q : Int) : ∃ H1, r3 (appA 20) n p q H0 = some (true, H1) := by
  by_cases hp : 1 ≤ q ∧ q ≤ 12 ∧ 0 ≤ p ∧ p < q
  · obtain ⟨a, rfl⟩ : ∃ a : Nat, p = a := ⟨p.toNat, by omega⟩
    obtain ⟨b, rfl⟩ : ∃ b : Nat, q = b := ⟨q.toNat, by omega⟩
    by_cases hn : 0 ≤ n ∧ n ≤ 8
    · obtain ⟨c, rfl⟩ : ∃ c : Nat, n = c := ⟨n.toNat, by omega⟩
      exact stepsB_iff (steps_in b (by simp; omega) a (by simp; omega) c (by simp; omega))
    · have : r3 (appA 20) n a b H0 = r3 (appA 20) (-1) a b H0 := by
        have hj : ∀ v4 v5 v6 H, r3_j0 (appA 20) n a b v4 v5 v6 H = r3_j0 (appA 20) (-1) a b v4 v5 v6 H := by
          intro v4 v5 v6 H
          unfold r3_j0
          have h1 : ∀ H, r3_j1 (appA 20) n a b v4 v5 true H = r3_j1 (appA 20) (-1) a b v4 v5 true H := fun H => by
            unfold r3_j1
            rw [if_pos rfl, if_pos rfl]
          have h2 : (if n < 0 then r3_j1 (appA 20) n a b v4 v5 true H else r3_j1 (appA 20) n a b v4 v5 (decide (8 < n)) H) = r3_j1 (appA 20) (-1) a b v4 v5 true H := by
            by_cases hn0 : n < 0
            · rw [if_pos hn0, h1]
            · rw [if_neg hn0, decide_eq_true (by omega), h1]
          rw [h2, if_pos (show (-1 : Int) < 0 by omega)]
        unfold r3
        rw [r15_out (n' := -1) (p' := a) (q' := b) (by omega) (by omega)]
        simp only [hj]
      rw [this]
      exact stepsB_iff (steps_out b (by simp; omega) a (by simp; omega))
  · have : r3 (appA 20) n p q H0 = r3 (appA 20) 0 0 0 H0 := by
      unfold r3
      rw [r15_out (n' := 0) (p' := 0) (q' := 0) (by omega) (by omega), r16_out (p' := 0) (q' := 0) (by omega) (by omega), r17_spec, r17_spec, decide_eq_false hp, decide_eq_false (show ¬ (1 ≤ (0 : Int) ∧ (0 : Int) ≤ 12 ∧ (0 : Int) ≤ 0 ∧ (0 : Int) < 0) by omega)]
      simp only [Option.bind_some, Bool.false_eq_true, if_false]
    rw [this]
    exact stepsB_iff (p := 0) (q := 0) steps_no
theorem lawCall3 (H : Hp) (xs : List AV) (_ : NoOwn H) (h : RdAs H [.int .i64, .int .i64, .int .i64] xs) : ∃ H1, CallSim Try.prog 3 xs H (.bool true) H1 := by
  obtain ⟨x, _, rfl, hx, y, _, rfl, hy, z, _, rfl, hz, rfl⟩ := h
  obtain ⟨a0, e0, _⟩ : Rd H (.int .i64) [x] := hx
  obtain ⟨a1, e1, _⟩ : Rd H (.int .i64) [y] := hy
  obtain ⟨a2, e2, _⟩ : Rd H (.int .i64) [z] := hz
  injection e0 with e0
  injection e1 with e1
  injection e2 with e2
  subst e0; subst e1; subst e2
  obtain ⟨H1, h1⟩ := stepsLaw a0 a1 a2
  exact ⟨H, (sim3 (happ := appASim 20) h1).own rfl rfl H⟩
end Go.Lt.P5
