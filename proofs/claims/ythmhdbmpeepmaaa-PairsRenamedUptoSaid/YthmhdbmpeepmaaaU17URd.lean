/- PLAIN LAWS OF WHAT IS COMPUTED, for the statement 'PairsRenamed'. Nothing is asked of the input. -/
import Derived.Test.YthmhdbmpeepmaaaU17UList
set_option linter.unusedVariables false
set_option linter.unusedSimpArgs false
namespace Go.Lt.P8
open Go Go.Lt Go.Proofs
theorem flat_ints {H : Hp} : ∀ (l : List (List AV)), (∀ y ∈ l, Rd H (.int .i64) y) → ∃ row : List Int, l.flatten = row.map (.int .i64) ∧ row.length = l.length ∧ ∀ n ∈ row, (Lit.int .i64 n).wf = true := by
  intro l
  induction l with
  | nil => intro _; exact ⟨[], rfl, rfl, by simp⟩
  | cons y l ih =>
    intro h
    obtain ⟨row, h1, h2, h3⟩ := ih (fun z hz => h z (by simp [hz]))
    obtain ⟨n, rfl, hn⟩ := h y (by simp)
    exact ⟨n :: row, by simp [h1], by simp [h2], by simpa using ⟨hn, h3⟩⟩
theorem rd_ints {H : Hp} {x : AV} (h : Rd H (.sl (.int .i64)) [x]) : ∃ v row, x = .sl v ∧ IS H v row ∧ row.length ≤ maxLen ∧ ∀ n ∈ row, (Lit.int .i64 n).wf = true := by
  obtain ⟨v, e, hok, l, hl, hd, hr⟩ := h
  injection e with e
  obtain ⟨row, h1, h2, h3⟩ := flat_ints l hr
  simp only [Sh.cells, Nat.mul_one] at hd
  rw [h1] at hd
  have hi : Ints H v row := ⟨by simp [h2, hl], by rw [List.length_map, h2, hl]; exact hd⟩
  refine ⟨v, row, e, ?_, ?_, h3⟩
  · rcases hok with rfl | ⟨a, b, c, d, e, f⟩
    · refine ⟨hi, by simp, by simp, fun _ => ⟨rfl, ?_⟩⟩
      exact List.length_eq_zero_iff.1 (by rw [h2, hl])
    · exact ⟨hi, d, .inl b, fun hn => by simp [a] at hn⟩
  · rcases hok with rfl | ⟨a, b, c, d, e, f⟩
    · rw [h2, hl]; simp
    · omega
theorem wf_i64 {n : Int} (h : (Lit.int .i64 n).wf = true) : -9223372036854775808 ≤ n ∧ n < 9223372036854775808 := by
  simp [Lit.wf, IntKind.min, IntKind.max, IntKind.signed, IntKind.bits] at h
  omega

end Go.Lt.P8
