/- PLAIN LAWS OF WHAT IS COMPUTED, for the statement 'DealsNear'. Nothing is asked of the input. -/
import Derived.Test.YtficeemoekikdaaU4V4F
import Derived.Test.YtficeemoekikdaaU4VSt
import Derived.Test.YtficeemoekikdaaLB
set_option linter.unusedVariables false
set_option linter.unusedSimpArgs false
namespace Go.Lt.P5
open Go Go.Lt Go.Proofs
theorem nearB_iff {n : Int} {p q : Nat} (h : nearB n p q = true) : ∃ H1, r4 (appA 20) n p q H0 = some (true, H1) := by
  unfold nearB at h
  rw [beq_iff_eq] at h
  obtain ⟨x, hx, he⟩ := Option.map_eq_some_iff.1 h
  exact ⟨x.2, by rw [hx, ← he]⟩
theorem r15_err {n p q : Int} (h : ¬ (0 ≤ n ∧ n ≤ 8 ∧ 1 ≤ q ∧ q ≤ 12 ∧ 0 ≤ p ∧ p < q)) : ∃ a b H', r15 n p q H0 = some ((a, b, 2), H') := by
  rw [r15_out (n' := -1) (p' := 0) (q' := 0) h (by omega)]
  exact ⟨0, 0, _, rfl⟩
theorem r16_some (p q : Int) : (∃ r, r16 p q H0 = some r) ∨ (1 ≤ q ∧ q ≤ 12 ∧ 0 ≤ p ∧ p < q) := by
  by_cases hp : 1 ≤ q ∧ q ≤ 12 ∧ 0 ≤ p ∧ p < q
  · exact .inr hp
  · left
    rw [r16_out (p' := 0) (q' := 0) hp (by omega)]
    exact ⟨_, rfl⟩
theorem forever_in : ∀ q ∈ List.range 13, ∀ p ∈ List.range q, (r16 (p : Nat) (q : Nat) H0).isSome = true := by decide +kernel
theorem nearLaw (n p q : Int) : ∃ H1, r4 (appA 20) n p q H0 = some (true, H1) := by
  by_cases hs : 0 ≤ n ∧ n ≤ 8 ∧ 1 ≤ q ∧ q ≤ 12 ∧ 0 ≤ p ∧ p < q
  · obtain ⟨a, rfl⟩ : ∃ a : Nat, p = a := ⟨p.toNat, by omega⟩
    obtain ⟨b, rfl⟩ : ∃ b : Nat, q = b := ⟨q.toNat, by omega⟩
    obtain ⟨c, rfl⟩ : ∃ c : Nat, n = c := ⟨n.toNat, by omega⟩
    exact nearB_iff (near_in b (by simp; omega) a (by simp; omega) c (by simp; omega))
  · obtain ⟨x, y, H', h15⟩ := r15_err hs
    have h16 : ∃ r, r16 p q H0 = some r := by
      rcases r16_some p q with h | hp
      · exact h
      · obtain ⟨a, rfl⟩ : ∃ a : Nat, p = a := ⟨p.toNat, by omega⟩
        obtain ⟨b, rfl⟩ : ∃ b : Nat, q = b := ⟨q.toNat, by omega⟩
        exact Option.isSome_iff_exists.1 (forever_in b (by simp; omega) a (by simp; omega))
    obtain ⟨⟨⟨u, v, e⟩, H2⟩, h16⟩ := h16
    obtain ⟨D, hD, hD', gD, nD⟩ := sts2 H0 (.int .i64 x) (.int .i64 y) (.int .i64 0) (.int .i64 0)
    obtain ⟨E, hE, hE', gE, nE⟩ := sts2 D (.int .i64 u) (.int .i64 v) (.int .i64 0) (.int .i64 0)
    unfold r4
    rw [h15]
    simp only [Option.bind_some]
    rw [hD]
    simp only [Option.bind_some]
    rw [h16]
    simp only [Option.bind_some]
    rw [hE]
    simp only [Option.bind_some]
    rw [if_pos (by omega)]
    unfold r4_j0
    rw [if_pos rfl, if_pos rfl]
    exact ⟨_, rfl⟩
theorem lawCall4 (H : Hp) (xs : List AV) (_ : NoOwn H) (h : RdAs H [.int .i64, .int .i64, .int .i64] xs) : ∃ H1, CallSim Try.prog 4 xs H (.bool true) H1 := by
  obtain ⟨x, _, rfl, hx, y, _, rfl, hy, z, _, rfl, hz, rfl⟩ := h
  obtain ⟨a0, e0, _⟩ : Rd H (.int .i64) [x] := hx
  obtain ⟨a1, e1, _⟩ : Rd H (.int .i64) [y] := hy
  obtain ⟨a2, e2, _⟩ : Rd H (.int .i64) [z] := hz
  injection e0 with e0
  injection e1 with e1
  injection e2 with e2
  subst e0; subst e1; subst e2
  obtain ⟨H1, h1⟩ := nearLaw a0 a1 a2
  exact ⟨H, (sim4 (happ := appASim 20) h1).own rfl rfl H⟩
end Go.Lt.P5
