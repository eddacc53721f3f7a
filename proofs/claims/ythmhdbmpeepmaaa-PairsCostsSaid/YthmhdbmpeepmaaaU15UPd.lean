/- PLAIN LAWS OF WHAT IS COMPUTED, for the statement 'PairsCosts'. Nothing is asked of the input. -/
import Derived.Test.YthmhdbmpeepmaaaU15UPc
set_option linter.unusedVariables false
set_option linter.unusedSimpArgs false
namespace Go.Lt.P8
open Go Go.Lt Go.Proofs
def pinsAll (n : Nat) : List (List Int) := (expand n n [[]]).filter pinsF
theorem expand_small {n k : Nat} (hn : n ≤ 6) (hk : k ≤ 6) : (expand n k [[]]).length ≤ 46656 := by
  refine Nat.le_trans (expand_len n k [[]]) ?_
  rw [List.length_singleton, Nat.one_mul]
  calc n ^ k ≤ 6 ^ k := Nat.pow_le_pow_left hn k
    _ ≤ 6 ^ 6 := Nat.pow_le_pow_right (by omega) hk
    _ = 46656 := by decide
/-- Pins -/
theorem r47_ok (n : Int) (H : Hp) : Ok (r47 (app 10) n H) fun r H' => Gr H H' ∧ if 1 ≤ n ∧ n ≤ 6 then r.2 = 0 ∧ ∃ ws, SLL H' r.1 ws (pinsAll n.toNat) else r = (nilS, 2) := by
  unfold r47
  have bad : ¬ (1 ≤ n ∧ n ≤ 6) → Ok (r47_j0 (app 10) n true H) fun r H' => Gr H H' ∧ if 1 ≤ n ∧ n ≤ 6 then r.2 = 0 ∧ ∃ ws, SLL H' r.1 ws (pinsAll n.toNat) else r = (nilS, 2) := by
    intro hc
    unfold r47_j0
    refine Ok.pos rfl (Ok.ret ⟨.refl _, ?_⟩)
    rw [if_neg hc]
    rfl
  refine Ok.ite (fun hc => bad (by omega)) fun hc => ?_
  by_cases h6 : 6 < n
  · rw [decide_eq_true h6]; exact bad (by omega)
  rw [decide_eq_false h6]
  obtain ⟨n, rfl⟩ : ∃ m : Nat, n = m := ⟨n.toNat, by omega⟩
  simp only [if_pos (show 1 ≤ (n : Int) ∧ (n : Int) ≤ 6 by omega)]
  unfold r47_j0
  refine Ok.neg (by simp) (Ok.lt ?_)
  have gp := Gr.push H (.cells [.sl ⟨true, 0, 0, 0, 0, 0⟩] false)
  refine Ok.loop (L := fun K (s : Sl × Int) H' => r47_l1 (app 10) K n s.1 n s.2 H') (fun m s H' => ∃ j : Nat, s.2 = j ∧ j + m = n ∧ Gr H H' ∧ ∃ us, SLL H' s.1 us (expand n j [[]]) ∧ (0 < j → ∃ Hl, Gr H Hl ∧ Gr Hl H' ∧ AccS Hl.n H' s.1 us (expand n j [[]]))) ?_ FUEL n (_, 0) _ (by unfold FUEL; omega)
    ⟨0, rfl, by omega, gp, [nilS], ⟨.of_get (ro := false) (by simp [nilS]) rfl rfl, Nat.le_refl _, .inl rfl, fun e => (by cases e), All.one SL.nilS⟩, fun h => by omega⟩
  rintro K m ⟨v2, s⟩ H1 ⟨j, rfl, hm, g1, us, h2, h3⟩ ih
  try dsimp only at *
  rw [r47_l1]
  by_cases h : j < n
  · refine Ok.pos (by omega) (r47_l2_ok (Hl := H1) (by omega) h2 (fun l hl => ?_) (Nat.le_trans (expand_small (by omega) (by omega)) (by omega)) fun v2' vs' H2 h4 g2 => ?_)
    · have := expand_mem (c := 0) (by simp) hl; omega
    · rw [w64_succ (by omega)]
      rw [← expand_succ] at h4
      exact ih (m - 1) (v2', _) H2 (by omega) ⟨j + 1, rfl, by omega, g1.trans g2, vs', h4.sll, fun _ => ⟨H1, g1, g2, h4⟩⟩
  · have e : j = n := by omega
    subst e
    obtain ⟨Hl, gl, gl2, h4⟩ := h3 (by omega)
    refine Ok.neg (by omega) (Ok.bind (r83_ok (says84 9) h4 gl2 (fun l hl => ?_) (Nat.le_trans (expand_small (by omega) (by omega)) (by omega))) fun w H2 ⟨g2, ws, h5⟩ => Ok.ret ⟨gl.trans g2, rfl, ws, ?_⟩)
    · have := expand_mem (c := 0) (by simp) hl; omega
    · have e : pinsAll ((j : Int)).toNat = (expand j j [[]]).filter fun l => !!pinsF l := by simp [pinsAll]
      rw [e]
      exact h5
end Go.Lt.P8
