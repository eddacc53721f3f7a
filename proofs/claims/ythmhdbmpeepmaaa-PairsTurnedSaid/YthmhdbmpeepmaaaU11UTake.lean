/- PLAIN LAWS OF WHAT IS COMPUTED, for the statement 'PairsTurned'. Nothing is asked of the input. -/
import Derived.Test.YthmhdbmpeepmaaaU11UList
set_option linter.unusedVariables false
set_option linter.unusedSimpArgs false
namespace Go.Lt.P8
open Go Go.Lt Go.Proofs
/-- list: the first twenty -/
theorem r31_spec {H : Hp} {v : Sl} {l : List Int} (h : IS H v l) : ∃ v' H', r31 v H = some (v', H') ∧ Gr H H' ∧ IS H' v' (l.take 20) ∧ v'.nil = v.nil ∧ (v.nil = false → H.n ≤ v'.b ∧ v'.b < H'.n ∧ H'.get v'.b = some (.cells ((l.take 20).map (.int .i64)) false) ∧ v'.o = 0) := by
  unfold r31
  have hlen := h.ints.len
  have hcap := h.cap
  generalize hm : (if 20 < (v.len : Int) then (20 : Int) else (v.len : Int)) = m
  have hm' : m = ((min l.length 20 : Nat) : Int) := by rw [← hm]; split <;> omega
  rw [ck, if_pos ⟨by omega, h.opn⟩, hm']
  simp only [Int.toNat_natCast]
  have hcut : IS H (v.cut 1 (0 : Int).toNat (min l.length 20)) (l.take 20) ∧ (v.cut 1 (0 : Int).toNat (min l.length 20)).nil = v.nil := by
    by_cases hn : v.nil = true
    · obtain ⟨rfl, rfl⟩ := h.nil hn
      exact ⟨⟨.nil rfl, by simp [Sl.cut], by simp [Sl.cut], fun _ => ⟨rfl, rfl⟩⟩, rfl⟩
    · simp only [Bool.not_eq_true] at hn
      have := h.ints.cut hn (lo := 0) (hi := min l.length 20) (by omega) (by omega)
      refine ⟨⟨?_, ?_, ?_, ?_⟩, ?_⟩
      · have e : (l.drop 0).take (min l.length 20 - 0) = l.take 20 := by
          rw [List.drop_zero, Nat.sub_zero]
          rw [Nat.min_comm, List.take_eq_take_iff]
          omega
        rw [e] at this
        exact this
      · simp [Sl.cut, hn]; omega
      · simp only [Sl.cut, hn, Bool.false_eq_true, if_false]; exact h.opn
      · simp [Sl.cut, hn]
      · simp [Sl.cut, hn]
  obtain ⟨v', H', h1, h2, h3, h4, h5⟩ := r36_is hcut.1 (by simp; omega)
  rw [h1]
  exact ⟨v', H', rfl, h2, h3, by rw [h4, hcut.2], fun hn => h5 (by rw [hcut.2]; exact hn)⟩

end Go.Lt.P8
