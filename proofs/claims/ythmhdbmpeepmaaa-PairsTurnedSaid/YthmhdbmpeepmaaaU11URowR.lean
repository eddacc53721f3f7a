/- PLAIN LAWS OF WHAT IS COMPUTED, for the statement 'PairsTurned'. Nothing is asked of the input. -/
import Derived.Test.YthmhdbmpeepmaaaU11UPlc
set_option linter.unusedVariables false
set_option linter.unusedSimpArgs false
namespace Go.Lt.P8
open Go Go.Lt Go.Proofs
theorem r34_loop {s : Int} {row : List Int} {Hb : Hp} {v : Sl} (hs1 : -9223372036854775808 ≤ s) (hs2 : s < 9223372036854775807 - 100) (hv : Ints Hb v row) {n : Nat} (hn : n ≤ 8) (hl : row.length ≤ 16) : ∀ (m k K : Nat) (H : Hp), k + m = n + 1 → 1 ≤ k → m < K → Gr Hb H →
    ∃ H', r34_l1 K s v (n : Int) (k : Int) H = some ((List.range' k m).all (refK s row), H') ∧ Gr Hb H' := by
  intro m
  induction m with
  | zero =>
    intro k K H hk h1 hK g
    obtain ⟨K, rfl⟩ : ∃ j, K = j + 1 := ⟨K - 1, by omega⟩
    rw [r34_l1, if_neg (by omega)]
    exact ⟨H, rfl, g⟩
  | succ m ih =>
    intro k K H hk h1 hK g
    obtain ⟨K, rfl⟩ : ∃ j, K = j + 1 := ⟨K - 1, by omega⟩
    have hi := hv.gr g
    have ew3 : w64 ((k : Int) + 1) = ((k + 1 : Nat) : Int) := by rw [w64_id (by omega) (by omega)]; push_cast; rfl
    rw [r34_l1, if_pos (by omega), List.range'_succ, List.all_cons]
    obtain ⟨w, H2, h2, g2, hw⟩ := r78_spec (x := (k : Int)) hi (by omega)
    rw [h2]
    simp only [Option.bind_some]
    have hwl := hw.ints.len
    by_cases h2l : (occF row k 0).length = 2
    · rw [if_neg (by simp; omega)]
      simp only [ck]
      rw [if_pos (by omega)]
      have e1 := hw.ints.ldI (i := 1) (by omega)
      have e0 := hw.ints.ldI (i := 0) (by omega)
      simp only [Nat.add_zero] at e0
      rw [show w.o + (1 : Int).toNat * 1 = w.o + 1 from rfl, e1]
      simp only [Option.bind_some]
      rw [if_pos (by omega), show w.o + (0 : Int).toNat * 1 = w.o from rfl, e0]
      simp only [Option.bind_some]
      obtain ⟨p, hp, ep, _⟩ := occF_mem (List.getElem_mem (show 1 < (occF row k 0).length by omega))
      obtain ⟨q, hq, eq, _⟩ := occF_mem (List.getElem_mem (show 0 < (occF row k 0).length by omega))
      have ed : w64 ((occF row k 0)[1] - (occF row k 0)[0]) = (occF row k 0)[1] - (occF row k 0)[0] := w64_id (by omega) (by omega)
      have es : w64 (w64 ((k : Int) + s) - 1) = k + s - 1 := by rw [w64_id (n := (k : Int) + s) (by omega) (by omega), w64_id (by omega) (by omega)]
      rw [ed, es]
      have hk : refK s row k = decide ((occF row k 0)[1] - (occF row k 0)[0] = (k : Int) + s - 1) := by
        unfold refK
        simp only [h2l, beq_self_eq_true, Bool.true_and]
        have g0 : (occF row k 0).getD 0 0 = (occF row k 0)[0] := by simp [List.getD, h2l]
        have g1 : (occF row k 0).getD 1 0 = (occF row k 0)[1] := by simp [List.getD, h2l]
        rw [g0, g1]
        exact Bool.beq_eq_decide_eq _ _
      rw [hk, r34_j2]
      by_cases hd : (occF row k 0)[1] - (occF row k 0)[0] = (k : Int) + s - 1
      · rw [decide_eq_false (by simpa using hd), if_neg (by simp), ew3, decide_eq_true hd, Bool.true_and]
        exact ih (k + 1) K H2 (by omega) (by omega) (by omega) (g.trans g2)
      · rw [decide_eq_true hd, if_pos rfl, decide_eq_false hd, Bool.false_and]
        exact ⟨_, rfl, g.trans g2⟩
    · rw [if_pos (by simp; omega), r34_j2, if_pos rfl]
      have hk : refK s row k = false := by unfold refK; simp [h2l]
      rw [hk, Bool.false_and]
      exact ⟨_, rfl, g.trans g2⟩

/-- the reference's IsRow -/
theorem r34_spec {s : Int} {row : List Int} {H : Hp} {v : Sl} (hs1 : -9223372036854775808 ≤ s) (hs2 : s < 9223372036854775807 - 100) (hv : Ints H v row) (hb : row.length < 4611686018427387904) :
    ∃ H', r34 s v H = some (refRow s row, H') ∧ Gr H H' := by
  unfold r34 refRow r34_j0
  have hlen := hv.len
  have e2n : w64 (2 * ((row.length / 2 : Nat) : Int)) = ((2 * (row.length / 2) : Nat) : Int) := by rw [w64_id (by omega) (by omega)]; push_cast; rfl
  rw [half hlen hb, e2n]
  by_cases h1 : ((row.length / 2 : Nat) : Int) < 1
  · rw [if_pos h1, if_pos rfl, decide_eq_false (by omega), Bool.false_and]
    exact ⟨_, rfl, .refl _⟩
  rw [if_neg h1]
  by_cases h2 : 8 < ((row.length / 2 : Nat) : Int)
  · rw [if_pos h2, if_pos rfl, decide_eq_false (by omega), Bool.false_and]
    exact ⟨_, rfl, .refl _⟩
  rw [if_neg h2]
  by_cases h3 : row.length = 2 * (row.length / 2)
  · rw [decide_eq_false (by omega), if_neg (by simp), decide_eq_true ⟨by omega, by omega, h3⟩, Bool.true_and]
    exact r34_loop hs1 hs2 hv (n := row.length / 2) (by omega) (by omega) (row.length / 2) 1 FUEL H (by omega) (by omega) (by unfold FUEL; omega) (.refl _)
  · rw [decide_eq_true (by omega), if_pos rfl, decide_eq_false (by omega), Bool.false_and]
    exact ⟨_, rfl, .refl _⟩
end Go.Lt.P8
