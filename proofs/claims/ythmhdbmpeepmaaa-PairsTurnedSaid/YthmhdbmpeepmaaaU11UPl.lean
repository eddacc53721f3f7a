/- PLAIN LAWS OF WHAT IS COMPUTED, for the statement 'PairsTurned'. Nothing is asked of the input. -/
import Derived.Test.YthmhdbmpeepmaaaU11UOcc
import Derived.Test.YthmhdbmpeepmaaaU11UCon
import Derived.Test.YthmhdbmpeepmaaaU11UList
set_option linter.unusedVariables false
set_option linter.unusedSimpArgs false
namespace Go.Lt.P8
open Go Go.Lt Go.Proofs
theorem r81_loop {s : Int} {row : List Int} {Hb : Hp} {v : Sl} (hs : s = 1 ∨ s = 2) (hv : IS Hb v row) (hnil : v.nil = false) {n : Nat} (hn : n ≤ 8) (hl : row.length ≤ 16) : ∀ (m k K : Nat) (acc : List Int) (w : Sl) (H : Hp), k + m = n + 1 → 1 ≤ k → m < K → acc.length < k → Gr Hb H → Acc Hb.n 1 H w (acc.map (.int .i64)) →
    ∃ w' ok H', r81_l1 K s v w (n : Int) (k : Int) H = some ((w', ok), H') ∧ Gr Hb H' ∧ match plF s row m k acc with
      | none => w' = ⟨true, 0, 0, 0, 0, 0⟩ ∧ ok = false
      | some l => ok = true ∧ IS H' w' l := by
  intro m
  induction m with
  | zero =>
    intro k K acc w H hk h1 hK ha g hw
    obtain ⟨K, rfl⟩ : ∃ j, K = j + 1 := ⟨K - 1, by omega⟩
    rw [r81_l1, if_neg (by omega)]
    exact ⟨_, _, _, rfl, g, rfl, .ofAcc hw⟩
  | succ m ih =>
    intro k K acc w H hk h1 hK ha g hw
    obtain ⟨K, rfl⟩ : ∃ j, K = j + 1 := ⟨K - 1, by omega⟩
    have hi := hv.ints.gr g
    have hlen := hi.len
    have hcap := hv.cap
    have bad : okK s row k = none → plF s row (m + 1) k acc = none := fun h => by rw [plF, h]; rfl
    rw [r81_l1, if_pos (by omega), r108_spec hi (by omega)]
    simp only [Option.bind_some]
    rcases idxF_cases (k : Int) row 0 (Int.le_refl 0) with ⟨e1, _⟩ | ⟨t, ht, e1, _, _⟩
    · have hk : okK s row k = none := by unfold okK; simp only [e1]; rw [if_pos (.inl (by decide))]
      rw [e1, if_pos (by decide), r81_j2, if_pos rfl, bad hk]
      exact ⟨_, _, _, rfl, g, rfl, rfl⟩
    · rw [show (0 : Int) + (t : Int) = t by omega] at e1
      rw [e1, if_neg (by omega)]
      have ej : w64 ((w64 ((w64 ((t : Int) + k)) + s)) - 1) = t + k + s - 1 := by rw [w64_id (n := (t : Int) + k) (by omega) (by omega), w64_id (n := (t : Int) + k + s) (by omega) (by omega), w64_id (by omega) (by omega)]
      simp only [ej]
      by_cases hj : (row.length : Int) ≤ t + k + s - 1
      · have hk : okK s row k = none := by unfold okK; simp only [e1]; rw [if_pos (.inr (.inl hj))]
        rw [if_pos (by omega), r81_j2, if_pos rfl, bad hk]
        exact ⟨_, _, _, rfl, g, rfl, rfl⟩
      obtain ⟨j, hj'⟩ : ∃ j : Nat, (t : Int) + k + s - 1 = j := ⟨((t : Int) + k + s - 1).toNat, by omega⟩
      have hjl : j < row.length := by omega
      rw [hj', if_neg (by omega), ck, if_pos (by omega)]
      simp only [Int.toNat_natCast, Nat.mul_one]
      rw [hi.ldI hjl]
      simp only [Option.bind_some]
      have hokk : okK s row k = if row[j] ≠ (k : Int) ∨ (k : Int) ∈ (row.drop (t + 1)).take (j - (t + 1)) ∨ (k : Int) ∈ row.drop (j + 1) then none else some (t : Int) := by
        unfold okK
        simp only [e1, hj', Int.toNat_natCast]
        have hgd : row.getD j 0 = row[j] := by simp [List.getD, List.getElem?_eq_getElem hjl]
        rw [hgd]
        have a1 : ¬ ((t : Int) < 0) := by omega
        have a2 : ¬ ((row.length : Int) ≤ (j : Int)) := by omega
        simp only [a1, a2, false_or]
      by_cases hrow : row[j] = (k : Int)
      · rw [if_neg (by simpa using hrow)]
        have ew1 : w64 ((t : Int) + 1) = ((t + 1 : Nat) : Int) := by rw [w64_id (by omega) (by omega)]; push_cast; rfl
        have ew2 : w64 ((j : Int) + 1) = ((j + 1 : Nat) : Int) := by rw [w64_id (by omega) (by omega)]; push_cast; rfl
        have ew3 : w64 ((k : Int) + 1) = ((k + 1 : Nat) : Int) := by rw [w64_id (by omega) (by omega)]; push_cast; rfl
        simp only [ew1, ew2, ck, Int.toNat_natCast]
        rw [if_pos ⟨by omega, hv.opn⟩]
        have hc1 := hi.cut hnil (lo := t + 1) (hi := j) (by omega) (by omega)
        rw [r77_spec hc1 (by simp; omega)]
        simp only [Option.bind_some]
        by_cases hm : (k : Int) ∈ (row.drop (t + 1)).take (j - (t + 1))
        · have hk : okK s row k = none := by rw [hokk, if_pos (.inr (.inl hm))]
          rw [decide_eq_true hm, if_pos rfl, r81_j2, if_pos rfl, bad hk]
          exact ⟨_, _, _, rfl, g, rfl, rfl⟩
        · rw [decide_eq_false hm, if_neg (by simp), if_pos ⟨by omega, hv.opn⟩]
          have hc2 := hi.cut hnil (lo := j + 1) (hi := v.len) (by omega) (by omega)
          rw [r77_spec hc2 (by simp; omega)]
          simp only [Option.bind_some]
          have e3 : (row.drop (j + 1)).take (v.len - (j + 1)) = row.drop (j + 1) := by rw [List.take_of_length_le]; simp; omega
          rw [e3]
          by_cases hm2 : (k : Int) ∈ row.drop (j + 1)
          · have hk : okK s row k = none := by rw [hokk, if_pos (.inr (.inr hm2))]
            rw [decide_eq_true hm2, r81_j2, if_pos rfl, bad hk]
            exact ⟨_, _, _, rfl, g, rfl, rfl⟩
          · have hk : okK s row k = some (t : Int) := by rw [hokk, if_neg]; rintro (h | h | h); exact h hrow; exact hm h; exact hm2 h
            rw [decide_eq_false hm2, r81_j2, if_neg (by simp)]
            have hwl := hw.cs.1
            simp only [List.length_map, Nat.mul_one] at hwl
            obtain ⟨w', H', h1', h2', h3', _⟩ := hw.apN (es := 1) (xs := [.int .i64 (t : Int)]) (k := 1) (by omega) (by simp) (by omega) g.1
            rw [h1', ew3]
            simp only [Option.bind_some]
            have := ih (k + 1) K (acc ++ [(t : Int)]) w' H' (by omega) (by omega) (by omega) (by simp; omega) (h3'.gr hw g) (by simpa using h2')
            rw [plF, hk]
            exact this
      · have hk : okK s row k = none := by rw [hokk, if_pos (.inl hrow)]
        rw [if_pos hrow, r81_j2, if_pos rfl, bad hk]
        exact ⟨_, _, _, rfl, g, rfl, rfl⟩

theorem r80_spec (s : Int) (H : Hp) : r80 s H = some (decide (s = 1 ∨ s = 2), H) := by
  unfold r80
  by_cases h : s = 1 <;> simp [h]
/-- places -/
theorem r81_spec {s : Int} {row : List Int} {H : Hp} {v : Sl} (hv : IS H v row) (hb : row.length < 4611686018427387904) :
    ∃ w' ok H', r81 s v H = some ((w', ok), H') ∧ Gr H H' ∧ match placesF s row with
      | none => w' = ⟨true, 0, 0, 0, 0, 0⟩ ∧ ok = false
      | some l => ok = true ∧ IS H' w' l := by
  unfold r81
  have hlen := hv.ints.len
  rw [r80_spec]
  simp only [Option.bind_some]
  have en : w64 (Int.tdiv (v.len : Int) 2) = ((row.length / 2 : Nat) : Int) := by
    rw [hlen, show Int.tdiv (row.length : Int) 2 = ((row.length / 2 : Nat) : Int) by simp, w64_id (by omega) (by omega)]
  have e2n : w64 (2 * ((row.length / 2 : Nat) : Int)) = ((2 * (row.length / 2) : Nat) : Int) := by rw [w64_id (by omega) (by omega)]; push_cast; rfl
  simp only [en, e2n]
  unfold placesF r81_j0
  by_cases hs : s = 1 ∨ s = 2
  · rw [decide_eq_true hs, if_pos rfl]
    by_cases h1 : ((row.length / 2 : Nat) : Int) < 1
    · rw [if_pos h1, if_pos rfl, if_neg (by omega)]
      exact ⟨_, _, _, rfl, .refl _, rfl, rfl⟩
    rw [if_neg h1]
    by_cases h2 : 8 < ((row.length / 2 : Nat) : Int)
    · rw [if_pos h2, if_pos rfl, if_neg (by omega)]
      exact ⟨_, _, _, rfl, .refl _, rfl, rfl⟩
    rw [if_neg h2]
    by_cases h3 : row.length = 2 * (row.length / 2)
    · rw [decide_eq_false (by omega), if_neg (by simp), if_pos ⟨hs, by omega, by omega, h3⟩]
      have hnil : v.nil = false := by
        cases hn : v.nil with
        | false => rfl
        | true => have := (hv.nil hn).2; subst this; simp at h1
      exact r81_loop hs hv hnil (n := row.length / 2) (by omega) (by omega) (row.length / 2) 1 FUEL [] ⟨true, 0, 0, 0, 0, 0⟩ H (by omega) (by omega) (by unfold FUEL; omega) (by simp) (.refl _) .nilS
    · rw [decide_eq_true (by omega), if_pos rfl, if_neg (by omega)]
      exact ⟨_, _, _, rfl, .refl _, rfl, rfl⟩
  · rw [decide_eq_false hs, if_neg (by simp), if_pos rfl, if_neg (fun h => hs h.1)]
    exact ⟨_, _, _, rfl, .refl _, rfl, rfl⟩
end Go.Lt.P8
