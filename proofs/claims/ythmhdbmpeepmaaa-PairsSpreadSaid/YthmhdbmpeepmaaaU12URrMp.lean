/- PLAIN LAWS OF WHAT IS COMPUTED, for the statement 'PairsSpread'. Nothing is asked of the input. -/
import Derived.Test.YthmhdbmpeepmaaaU12URrP
set_option linter.unusedVariables false
set_option linter.unusedSimpArgs false
namespace Go.Lt.P8
open Go Go.Lt
/-! ### rounds that are made -/
def condR (m r a b : Nat) : Bool := (decide (b = m) && decide (a = r)) || (decide (b < m) && decide (Int.tmod ((a : Int) + b) m = Int.tmod (2 * (r : Int)) m))
def condP (m r a b : Nat) : Bool := decide (Int.tmod ((a : Int) + b - 2 * (r : Int)) m = 0)
def selB (c : Nat → Nat → Bool) (a t : Nat) : List Pr := ((List.range' (a + 1) t).filter (c a)).map fun (b : Nat) => ((a : Int), (b : Int))
def rowB (c : Nat → Nat → Bool) (k a : Nat) : List Pr := (List.range a).flatMap fun a => selB c a (k - (a + 1))
theorem selB_succ (c : Nat → Nat → Bool) (a t : Nat) : selB c a (t + 1) = selB c a t ++ if c a (a + 1 + t) = true then [((a : Int), ((a + 1 + t : Nat) : Int))] else [] := by
  unfold selB
  rw [List.range'_concat, List.filter_append, List.map_append]
  congr 1
  rw [Nat.one_mul]
  by_cases h : c a (a + 1 + t) = true <;> simp [h]
theorem rowB_succ (c : Nat → Nat → Bool) (k a : Nat) : rowB c k (a + 1) = rowB c k a ++ selB c a (k - (a + 1)) := by
  unfold rowB
  rw [List.range_succ, List.flatMap_append]
  simp
theorem selB_len (c : Nat → Nat → Bool) (a t : Nat) : (selB c a t).length ≤ t := by
  unfold selB
  rw [List.length_map]
  exact Nat.le_trans (List.length_filter_le _ _) (by simp)
theorem rowB_len (c : Nat → Nat → Bool) (k : Nat) : ∀ a, (rowB c k a).length ≤ a * k := by
  intro a
  induction a with
  | zero => simp [rowB]
  | succ a ih =>
    rw [rowB_succ, List.length_append, Nat.add_mul]
    have := selB_len c a (k - (a + 1))
    omega
def roundsR (n : Nat) : List (List Pr) := (List.range (2 * n - 1)).map fun r => rowB (condR (2 * n - 1) r) (2 * n) (2 * n)
def rawP (n r : Nat) : List Pr := ((r : Int), ((2 * n - 1 : Nat) : Int)) :: rowB (condP (2 * n - 1) r) (2 * n - 1) (2 * n - 1)
theorem rows_same : ∀ n ∈ [1, 2, 3, 4], ∀ r ∈ List.range (2 * n - 1), (rawP n r).Perm (rowB (condR (2 * n - 1) r) (2 * n) (2 * n)) ∧ srt (rowB (condR (2 * n - 1) r) (2 * n) (2 * n)) = true ∧ (rawP n r).length ≤ 12 := by decide +kernel

end Go.Lt.P8
