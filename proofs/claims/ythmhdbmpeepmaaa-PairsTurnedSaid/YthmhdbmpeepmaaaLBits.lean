/- THE LIBRARY OF THESE PROOFS, A PART: an abstract heap, and that the model's steps keep to it. Nothing is asked of the input. -/
import Derived.Test.YthmhdbmpeepmaaaLAcc
set_option linter.unusedVariables false
namespace Go.Lt

theorem toNat_ofNat64 {a : Nat} (h : a < 18446744073709551616) : (BitVec.ofInt IntKind.i64.bits (a : Int)).toNat = a := by
  rw [BitVec.toNat_ofInt]
  simp only [IntKind.bits]
  omega
theorem bits_or_nat {a b : Nat} (ha : a < 9223372036854775808) (hb : b < 9223372036854775808) : bitsOf .or .i64 a b = ((a ||| b : Nat) : Int) := by
  have h : a ||| b < 2 ^ 63 := Nat.or_lt_two_pow (by omega) (by omega)
  unfold bitsOf
  simp only [BitVec.toNat_or]
  rw [toNat_ofNat64 (by omega), toNat_ofNat64 (by omega)]
  exact w64_id (by omega) (by omega)
theorem bits_and_nat {a b : Nat} (ha : a < 9223372036854775808) (hb : b < 9223372036854775808) : bitsOf .and .i64 a b = ((a &&& b : Nat) : Int) := by
  have h : a &&& b < 2 ^ 63 := Nat.and_lt_two_pow _ (by omega)
  unfold bitsOf
  simp only [BitVec.toNat_and]
  rw [toNat_ofNat64 (by omega), toNat_ofNat64 (by omega)]
  exact w64_id (by omega) (by omega)
theorem shl_one {k : Nat} (hk : k < 63) : shlOf .i64 1 k = ((2 ^ k : Nat) : Int) := by
  have h : 2 ^ k < 2 ^ 63 := Nat.pow_lt_pow_right (by omega) hk
  unfold shlOf
  rw [Int.toNat_natCast, show min k IntKind.i64.bits = k by simp only [IntKind.bits]; omega, Int.one_mul]
  have e : ((2 : Int) ^ k) = ((2 ^ k : Nat) : Int) := by push_cast; rfl
  rw [e]
  generalize (2 ^ k : Nat) = p at h ⊢
  exact w64_id (by omega) (by omega)
theorem shr_nat {a k : Nat} (hk : k ≤ 64) : shrOf .i64 a k = ((a >>> k : Nat) : Int) := by
  unfold shrOf
  rw [Int.toNat_natCast, show min k IntKind.i64.bits = k by simp only [IntKind.bits]; omega, Nat.shiftRight_eq_div_pow]
  have e : ((2 : Int) ^ k) = ((2 ^ k : Nat) : Int) := by push_cast; rfl
  rw [e, ← Int.ofNat_fdiv]
theorem bit_nat {a k : Nat} (ha : a < 9223372036854775808) (hk : k ≤ 64) : bitsOf .and .i64 (shrOf .i64 a k) 1 = 1 ↔ a.testBit k = true := by
  have h2 : a >>> k ≤ a := Nat.shiftRight_le a k
  rw [shr_nat hk]
  have := bits_and_nat (a := a >>> k) (b := 1) (by omega) (by omega)
  rw [show ((1 : Nat) : Int) = 1 from rfl] at this
  rw [this, Nat.testBit_eq_decide_div_mod_eq, Nat.and_one_is_mod, Nat.shiftRight_eq_div_pow]
  simp only [decide_eq_true_eq]
  omega
end Go.Lt
