/- PLAIN LAWS OF WHAT IS COMPUTED, for the statement 'PairsRenamed'. Nothing is asked of the input. -/
import Derived.Test.YthmhdbmpeepmaaaU17URrI
import Derived.Test.YthmhdbmpeepmaaaU17URrK
set_option linter.unusedVariables false
set_option linter.unusedSimpArgs false
namespace Go.Lt.P8
open Go Go.Lt Go.Proofs
theorem isRF_take {n : Nat} (hn : n ≤ 4) : ∀ (ls : List (List Pr)) (S : List Pr), isRF n (ls.map fun r => r.take 7) S = isRF n ls S := by
  intro ls
  induction ls with
  | nil => intro S; rfl
  | cons r ls ih =>
    intro S
    rw [List.map_cons, isRF, isRF]
    by_cases hl : r.length = n
    · rw [List.take_of_length_le (show r.length ≤ 7 by omega)]
      simp only [ih]
    · rw [if_neg (fun c => by have := c.1; simp at this; omega), if_neg (fun c => hl c.1)]
def okR (n : Nat) (ls : List (List Pr)) : Bool := decide (ls.length = 2 * n - 1) && isRF n ls []
theorem okR_cut {n : Nat} (hn : n ≤ 4) (ls : List (List Pr)) : okR n (cutR ls) = okR n ls := by
  unfold okR cutR
  by_cases hl : ls.length = 2 * n - 1
  · rw [List.take_of_length_le (show ls.length ≤ 10 by omega), List.length_map, isRF_take hn]
  · rw [decide_eq_false hl, decide_eq_false (by simp; omega)]; rfl
/-- IsRounds of a copy -/
theorem r62_cut {n : Int} {H H0 : Hp} {v : Sl} {vs : List Sl} {ls : List (List Pr)} (hv : SLL H v vs (cutR ls)) : Ok (r62 (app 10) n v H) fun r H' => Gr H H' ∧ r = if 1 ≤ n ∧ n ≤ 4 then (okR n.toNat ls, 0) else (false, 2) := by
  refine (r62_ok hv (by simp [cutR]; omega) (fun l hl => ?_)).mono fun r H' ⟨g, hr⟩ => ⟨g, ?_⟩
  · unfold cutR at hl
    obtain ⟨x, _, rfl⟩ := List.mem_map.1 hl
    simp; omega
  · rw [hr]
    by_cases hn : 1 ≤ n ∧ n ≤ 4
    · rw [if_pos hn, if_pos hn]
      have := okR_cut (n := n.toNat) (by omega) ls
      unfold okR at this ⊢
      rw [this]
    · rw [if_neg hn, if_neg hn]
end Go.Lt.P8
