/- PLAIN LAWS OF WHAT IS COMPUTED, for the statement 'DealsOthers'. Nothing is asked of the input. -/
import Derived.Test.YtficeemoekikdaaU14VOff
set_option linter.unusedVariables false
set_option linter.unusedSimpArgs false
namespace Go.Lt.P5
open Go Go.Lt Go.Proofs
theorem gcd_step (a b : Nat) : Nat.gcd b (a % b) = Nat.gcd a b := by
  rw [Nat.gcd_comm a b, Nat.gcd_rec b a, Nat.gcd_comm]
theorem w64_abs {a : Nat} (ha : a < 9223372036854775808) : (if (a : Int) < w64 (0 - (a : Int)) then w64 (0 - (a : Int)) else (a : Int)) = a := by
  rw [w64_id (by omega) (by omega), if_neg (by omega)]
theorem r53_l0_ok {H : Hp} : ∀ (K a b : Nat), b < K → a < 9223372036854775808 → b < 9223372036854775808 → r53_l0 K a b H = some ((Nat.gcd a b : Int), H) := by
  intro K
  induction K with
  | zero => intro a b h; omega
  | succ K ih =>
    intro a b h ha hb
    rw [r53_l0]
    by_cases h0 : b = 0
    · subst h0
      rw [if_neg (by simp), w64_abs ha, Nat.gcd_zero_right]
    · rw [if_pos (by omega), ck, if_pos (by omega)]
      have e : Int.tmod (a : Int) (b : Int) = ((a % b : Nat) : Int) := rfl
      have hm := Nat.mod_lt a (show 0 < b by omega)
      rw [e, ih b (a % b) (by omega) hb (by omega), gcd_step]
theorem r53_ok {a b : Nat} (ha : a < 9223372036854775808) (hb : b < 9223372036854775808) (H : Hp) : r53 a b H = some ((Nat.gcd a b : Int), H) := r53_l0_ok _ a b (by unfold FUEL; omega) ha hb
/-- a fraction of a point -/
def fr (x : Pr) : Prop := 1 ≤ x.2 ∧ x.2 ≤ 1000000 ∧ 0 ≤ x.1 ∧ x.1 ≤ 30 * x.2 ∧ Nat.gcd x.1.toNat x.2.toNat = 1
instance (x : Pr) : Decidable (fr x) := by unfold fr; infer_instance
end Go.Lt.P5
