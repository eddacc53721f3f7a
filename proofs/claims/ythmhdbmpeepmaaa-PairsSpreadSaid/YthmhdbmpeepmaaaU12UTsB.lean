/- PLAIN LAWS OF WHAT IS COMPUTED, for the statement 'PairsSpread'. Nothing is asked of the input. -/
import Derived.Test.YthmhdbmpeepmaaaU12UTsP
import Derived.Test.YthmhdbmpeepmaaaLB
set_option linter.unusedVariables false
set_option linter.unusedSimpArgs false
namespace Go.Lt.P8
open Go Go.Lt
theorem shl1 {x : Int} (h0 : 0 ≤ x) (h1 : x < 9) : shlOf .i64 1 x = ((2 ^ x.toNat : Nat) : Int) := by
  obtain ⟨k, rfl⟩ : ∃ k : Nat, x = k := ⟨x.toNat, by omega⟩
  rw [shl_one (by omega), Int.toNat_natCast]
theorem full {v : Nat} (hv : v ≤ 9) : w64 (shlOf .i64 1 (v : Int) - 1) = ((2 ^ v - 1 : Nat) : Int) := by
  rw [shl_one (by omega)]
  have h1 : 1 ≤ 2 ^ v := Nat.one_le_two_pow
  have h2 : 2 ^ v ≤ 2 ^ 9 := Nat.pow_le_pow_right (by omega) hv
  generalize 2 ^ v = p at *
  rw [w64_id (by omega) (by omega)]
  omega
theorem mask {v : Nat} {t : Tr} (hv : v ≤ 9) (h : inT v t) : bitsOf .or .i64 (bitsOf .or .i64 (shlOf .i64 1 t.1) (shlOf .i64 1 t.2.1)) (shlOf .i64 1 t.2.2) = ((msk t : Nat) : Int) := by
  unfold inT at h
  rw [shl1 (by omega) (by omega), shl1 (by omega) (by omega), shl1 (by omega) (by omega)]
  have p : ∀ x : Int, 0 ≤ x → x < v → 2 ^ x.toNat < 2 ^ 9 := fun x h1 h2 => Nat.pow_lt_pow_right (by omega) (by omega)
  have p1 := p t.1 (by omega) (by omega)
  have p2 := p t.2.1 (by omega) (by omega)
  have p3 := p t.2.2 (by omega) (by omega)
  have p12 : 2 ^ t.1.toNat ||| 2 ^ t.2.1.toNat < 2 ^ 9 := Nat.or_lt_two_pow p1 p2
  unfold msk
  rw [bits_or_nat (by omega) (by omega), bits_or_nat (by omega) (by omega)]
end Go.Lt.P8
