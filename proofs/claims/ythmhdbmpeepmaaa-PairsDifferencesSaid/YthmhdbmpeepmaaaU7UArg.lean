/- PLAIN LAWS OF WHAT IS COMPUTED, for the statement 'PairsDifferences'. Nothing is asked of the input. -/
import Derived.Test.YthmhdbmpeepmaaaU7UPl
set_option linter.unusedVariables false
namespace Go.Lt.P8
open Go Go.Lt Go.Proofs
theorem flat_ints {H : Hp} : ∀ (l : List (List AV)), (∀ y ∈ l, Rd H (.int .i64) y) → ∃ row : List Int, l.flatten = row.map (.int .i64) ∧ row.length = l.length ∧ ∀ n ∈ row, (Lit.int .i64 n).wf = true := by
  intro l
  induction l with
  | nil => intro _; exact ⟨[], rfl, rfl, by simp⟩
  | cons y l ih =>
    intro h
    obtain ⟨row, h1, h2, h3⟩ := ih (fun z hz => h z (by simp [hz]))
    obtain ⟨n, rfl, hn⟩ := h y (by simp)
    exact ⟨n :: row, by simp [h1], by simp [h2], by simpa using ⟨hn, h3⟩⟩
theorem rd_ints {H : Hp} {x : AV} (h : Rd H (.sl (.int .i64)) [x]) : ∃ v row, x = .sl v ∧ IS H v row ∧ row.length ≤ maxLen ∧ ∀ n ∈ row, (Lit.int .i64 n).wf = true := by
  obtain ⟨v, e, hok, l, hl, hd, hr⟩ := h
  injection e with e
  obtain ⟨row, h1, h2, h3⟩ := flat_ints l hr
  simp only [Sh.cells, Nat.mul_one] at hd
  rw [h1] at hd
  have hi : Ints H v row := ⟨by simp [h2, hl], by rw [List.length_map, h2, hl]; exact hd⟩
  refine ⟨v, row, e, ?_, ?_, h3⟩
  · rcases hok with rfl | ⟨a, b, c, d, e, f⟩
    · refine ⟨hi, by simp, by simp, fun _ => ⟨rfl, ?_⟩⟩
      exact List.length_eq_zero_iff.1 (by rw [h2, hl])
    · exact ⟨hi, d, .inl b, fun hn => by simp [a] at hn⟩
  · rcases hok with rfl | ⟨a, b, c, d, e, f⟩
    · rw [h2, hl]; simp
    · omega
theorem wf_i64 {n : Int} (h : (Lit.int .i64 n).wf = true) : -9223372036854775808 ≤ n ∧ n < 9223372036854775808 := by
  simp [Lit.wf, IntKind.min, IntKind.max, IntKind.signed, IntKind.bits] at h
  omega

theorem r30_spec {s : Int} {row : List Int} {H : Hp} {v : Sl} (hv : IS H v row) (hb : row.length < 4611686018427387904) :
    ∃ H', r30 s v H = some ((if (s = 1 ∨ s = 2) ∧ row.length ≤ 16 then ((placesF s row).isSome, 0) else (false, 2)), H') ∧ Gr H H' := by
  unfold r30 r30_j0
  rw [r80_spec]
  simp only [Option.bind_some]
  have hlen := hv.ints.len
  by_cases hs : s = 1 ∨ s = 2
  · rw [decide_eq_true hs, if_pos rfl]
    by_cases hl : row.length ≤ 16
    · rw [decide_eq_false (by omega), if_neg (by simp), if_pos ⟨hs, hl⟩]
      obtain ⟨w, ok, H', h1, g, h2⟩ := r81_spec (s := s) hv hb
      rw [h1]
      refine ⟨H', ?_, g⟩
      cases hp : placesF s row <;> rw [hp] at h2
      · rw [h2.2]; rfl
      · rw [h2.1]; rfl
    · rw [decide_eq_true (by omega), if_pos rfl, if_neg (fun h => hl h.2)]
      exact ⟨H, rfl, .refl _⟩
  · rw [decide_eq_false hs, if_neg (by simp), if_pos trivial, if_neg (fun h => hs h.1)]
    exact ⟨H, rfl, .refl _⟩
end Go.Lt.P8
