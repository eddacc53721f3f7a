/- PLAIN LAWS OF WHAT IS COMPUTED, for the statement 'PairsRenamed'. Nothing is asked of the input. -/
import Derived.Test.YthmhdbmpeepmaaaU17USl
import Derived.Test.YthmhdbmpeepmaaaU17UPlc
set_option linter.unusedVariables false
set_option linter.unusedSimpArgs false
namespace Go.Lt.P8
open Go Go.Lt Go.Proofs
/-- All of the reference -/
theorem r65_ok {l : List Int} {H : Hp} {v : Sl} (hv : SL H v l) (hb : l.length < 4294967296) {n : Nat} (hn : n ≤ 1000) : Ok (r65 v n H) fun b H' => Gr H H' ∧ (b = true ↔ (∀ x : Nat, x < n → (occF l x 0).length = 1) ∧ l.length = n) := by
  unfold r65
  have hlen := hv.len
  refine Ok.loop (L := fun K (s : Int) H2 => r65_l0 K v n n s H2) (fun m s H' => ∃ i : Nat, s = i ∧ i + m = n ∧ Gr H H' ∧ ∀ x : Nat, x < i → (occF l x 0).length = 1) ?_ FUEL n 0 _ (by unfold FUEL; omega) ⟨0, rfl, by omega, .refl _, fun x h => by omega⟩
  rintro K m s H1 ⟨i, rfl, hm, g, hi⟩ ih
  try dsimp only at *
  rw [r65_l0]
  by_cases h : i < n
  · refine Ok.pos (by omega) ?_
    obtain ⟨w, H2, e2, g2, i2⟩ := r78_spec (x := (i : Int)) (hv.gr g).is.ints (by omega)
    refine Ok.ld e2 ?_
    have hw := i2.ints.len
    dsimp only
    by_cases h1 : (occF l i 0).length = 1
    · refine Ok.neg (by omega) ?_
      rw [w64_succ (by omega)]
      refine ih (m - 1) _ H2 (by omega) ⟨i + 1, rfl, by omega, g.trans g2, fun x hx => ?_⟩
      by_cases e : x = i
      · subst e; exact h1
      · exact hi x (by omega)
    · refine Ok.pos (by omega) (Ok.ret ⟨g.trans g2, ?_⟩)
      simp only [Bool.false_eq_true, false_iff]
      rintro ⟨a, b⟩
      exact h1 (a i h)
  · refine Ok.neg (by omega) (Ok.ret ⟨g, ?_⟩)
    rw [decide_eq_true_iff]
    constructor
    · intro e; exact ⟨fun x hx => hi x (by omega), by omega⟩
    · rintro ⟨_, e⟩; omega
end Go.Lt.P8
