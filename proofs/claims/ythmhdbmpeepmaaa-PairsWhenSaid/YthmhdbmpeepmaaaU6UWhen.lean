/- PLAIN LAWS OF WHAT IS COMPUTED, for the statement 'PairsWhen'. Nothing is asked of the input. -/
import Derived.Test.YthmhdbmpeepmaaaU6UCnt
import Derived.Test.YthmhdbmpeepmaaaU6UCount
import Derived.Test.YthmhdbmpeepmaaaU6UPl
set_option linter.unusedVariables false
namespace Go.Lt.P8
open Go Go.Lt Go.Proofs

theorem u64_nonneg (a : Int) : 0 ≤ IntKind.wrap .u64 a := by
  simp only [IntKind.wrap, IntKind.signed, IntKind.bits]
  simp
  omega
theorem res (a : Int) (m : Nat) (hm : 0 < m) (hm2 : m ≤ 1000) : ∃ t : Nat, t < m ∧ w64 (Int.tmod (IntKind.wrap .u64 a) m) = t := by
  have h := u64_nonneg a
  generalize IntKind.wrap .u64 a = x at h
  obtain ⟨x, rfl⟩ := Int.eq_ofNat_of_zero_le h
  refine ⟨x % m, Nat.mod_lt _ hm, ?_⟩
  have := Nat.mod_lt x hm
  rw [show Int.tmod (x : Int) (m : Int) = ((x % m : Nat) : Int) by exact (Int.ofNat_tmod x m).symm]
  exact w64_id (by omega) (by omega)

def there (n s : Nat) : Bool := n % 4 == 0 || (n % 4 == 1 && s == 1) || (n % 4 == 3 && s == 2)
def headOk (n : Nat) (s : Int) : Bool := match gen n s 9 (zeros n) 0 with
  | [] => true
  | row :: _ => (placesF s row).isSome
def whenOk (n s : Nat) : Bool :=
  let c := cnt n s 17 0 0 0
  (decide (0 < c) == there n s) && !(s == 1 && decide (1 < n) && c % 2 == 1) && headOk n s
theorem when_small : ∀ n ∈ [1, 2, 3, 4, 5, 6, 7], ∀ s ∈ [1, 2], whenOk n s = true := by decide +kernel
theorem when_81 : whenOk 8 1 = true := by decide +kernel
theorem when_82 : whenOk 8 2 = true := by decide +kernel
theorem when_all {n s : Nat} (h1 : 1 ≤ n) (h2 : n ≤ 8) (h3 : 1 ≤ s) (h4 : s ≤ 2) : whenOk n s = true := by
  by_cases h8 : n = 8
  · subst h8
    have : s = 1 ∨ s = 2 := by omega
    rcases this with rfl | rfl
    · exact when_81
    · exact when_82
  · exact when_small n (by simp; omega) s (by simp; omega)
end Go.Lt.P8
