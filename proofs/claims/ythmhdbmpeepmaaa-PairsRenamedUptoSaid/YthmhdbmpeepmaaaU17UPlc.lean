/- PLAIN LAWS OF WHAT IS COMPUTED, for the statement 'PairsRenamed'. Nothing is asked of the input. -/
import Derived.Test.YthmhdbmpeepmaaaU17UOcc
import Derived.Test.YthmhdbmpeepmaaaU17UList
set_option linter.unusedVariables false
set_option linter.unusedSimpArgs false
namespace Go.Lt.P8
open Go Go.Lt Go.Proofs
/-- the reference's places -/
theorem r78_loop {x : Int} {l : List Int} {Hb : Hp} {v : Sl} (hi0 : Ints Hb v l) (hb : l.length < 4294967296) : ∀ (m i K : Nat) (acc : List Int) (w : Sl) (H : Hp), i + m = l.length → m < K → acc.length ≤ i → Gr Hb H → Acc Hb.n 1 H w (acc.map (.int .i64)) →
    ∃ w' H', r78_l0 K x w v (v.len : Int) (i : Int) H = some (w', H') ∧ Gr Hb H' ∧ Acc Hb.n 1 H' w' ((acc ++ occF (l.drop i) x i).map (.int .i64)) := by
  intro m
  induction m with
  | zero =>
    intro i K acc w H hi hK ha g hw
    obtain ⟨K, rfl⟩ : ∃ j, K = j + 1 := ⟨K - 1, by omega⟩
    have hlen := hi0.len
    rw [r78_l0, if_neg (by omega), List.drop_eq_nil_of_le (by omega)]
    exact ⟨w, H, rfl, g, by simpa [occF] using hw⟩
  | succ m ih =>
    intro i K acc w H hi hK ha g hw
    obtain ⟨K, rfl⟩ : ∃ j, K = j + 1 := ⟨K - 1, by omega⟩
    have hlen := hi0.len
    have hi' := hi0.gr g
    have hil : i < l.length := by omega
    have ew : w64 ((i : Int) + 1) = ((i + 1 : Nat) : Int) := by rw [w64_id (by omega) (by omega)]; push_cast; rfl
    rw [r78_l0, if_pos (by omega)]
    simp only [ck, Int.toNat_natCast, Nat.mul_one]
    rw [if_pos (by omega), hi'.ldI hil]
    simp only [Option.bind_some, ew]
    rw [List.drop_eq_getElem_cons hil]
    simp only [occF]
    by_cases hx : l[i] = x
    · rw [if_pos hx, if_pos hx]
      have hwl := hw.cs.1
      simp only [List.length_map, Nat.mul_one] at hwl
      obtain ⟨w', H', h1', h2', h3', _⟩ := hw.apN (es := 1) (xs := [.int .i64 (i : Int)]) (k := 1) (by omega) (by simp) (by omega) g.1
      rw [h1']
      simp only [Option.bind_some]
      have := ih (i + 1) K (acc ++ [(i : Int)]) w' H' (by omega) (by omega) (by simp; omega) (h3'.gr hw g) (by simpa using h2')
      rw [show ((i + 1 : Nat) : Int) = (i : Int) + 1 by push_cast; rfl] at this ⊢
      simpa using this
    · rw [if_neg hx, if_neg hx]
      have := ih (i + 1) K acc w H (by omega) (by omega) (by omega) g hw
      rw [show ((i + 1 : Nat) : Int) = (i : Int) + 1 by push_cast; rfl] at this ⊢
      exact this
theorem r78_spec {x : Int} {l : List Int} {H : Hp} {v : Sl} (h : Ints H v l) (hb : l.length < 4294967296) : ∃ w' H', r78 v x H = some (w', H') ∧ Gr H H' ∧ IS H' w' (occF l x 0) := by
  obtain ⟨w', H', h1, h2, h3⟩ := r78_loop (x := x) h hb l.length 0 FUEL [] ⟨true, 0, 0, 0, 0, 0⟩ H (by omega) (by unfold FUEL; omega) (by simp) (.refl _) .nilS
  exact ⟨w', H', h1, h2, .ofAcc (by simpa using h3)⟩
end Go.Lt.P8
