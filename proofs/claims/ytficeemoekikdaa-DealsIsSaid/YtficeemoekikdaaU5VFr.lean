/- PLAIN LAWS OF WHAT IS COMPUTED, for the statement 'DealsIs'. Nothing is asked of the input. -/
import Derived.Test.YtficeemoekikdaaU5VOff
set_option linter.unusedVariables false
set_option linter.unusedSimpArgs false
namespace Go.Lt.P5
open Go Go.Lt Go.Proofs
theorem mul_bd {x y A B : Int} (h1 : -A ≤ x) (h2 : x ≤ A) (h3 : -B ≤ y) (h4 : y ≤ B) : -(A * B) ≤ x * y ∧ x * y ≤ A * B := by
  have p1 : 0 ≤ (A - x) * (B - y) := Int.mul_nonneg (by omega) (by omega)
  have p2 : 0 ≤ (A + x) * (B + y) := Int.mul_nonneg (by omega) (by omega)
  have p3 : 0 ≤ (A - x) * (B + y) := Int.mul_nonneg (by omega) (by omega)
  have p4 : 0 ≤ (A + x) * (B - y) := Int.mul_nonneg (by omega) (by omega)
  constructor <;> grind
theorem gcd_step (a b : Nat) : Nat.gcd b (a % b) = Nat.gcd a b := by
  rw [Nat.gcd_comm a b, Nat.gcd_rec b a, Nat.gcd_comm]
theorem w64_abs {a : Nat} (ha : a < 9223372036854775808) : (if (a : Int) < w64 (0 - (a : Int)) then w64 (0 - (a : Int)) else (a : Int)) = a := by
  rw [w64_id (by omega) (by omega), if_neg (by omega)]
theorem r53_l0_ok {H : Hp} : ∀ (K a b : Nat), b < K → a < 9223372036854775808 → b < 9223372036854775808 → r53_l0 K a b H = some ((Nat.gcd a b : Int), H) := by
  intro K
  induction K with
  | zero => intro a b h; omega
  | succ K ih =>
    intro a b h ha hb
    rw [r53_l0]
    by_cases h0 : b = 0
    · subst h0
      rw [if_neg (by simp), w64_abs ha, Nat.gcd_zero_right]
    · rw [if_pos (by omega), ck, if_pos (by omega)]
      have e : Int.tmod (a : Int) (b : Int) = ((a % b : Nat) : Int) := rfl
      have hm := Nat.mod_lt a (show 0 < b by omega)
      rw [e, ih b (a % b) (by omega) hb (by omega), gcd_step]
theorem r53_ok {a b : Nat} (ha : a < 9223372036854775808) (hb : b < 9223372036854775808) (H : Hp) : r53 a b H = some ((Nat.gcd a b : Int), H) := r53_l0_ok _ a b (by unfold FUEL; omega) ha hb
theorem r43_l0_ok {x y : Nat} {c : Nat} (hx : x < 9223372036854775808) (hy : y < 9223372036854775808) {H : Hp} (hc : ∃ cs, H.get c = some (.cells cs false) ∧ cs.length = 2) : ∀ (K a b : Nat), b < K → a < 9223372036854775808 → b < 9223372036854775808 → 0 < Nat.gcd a b →
    ∃ H', r43_l0 K x y c a b H = some ((((x / Nat.gcd a b : Nat) : Int), ((y / Nat.gcd a b : Nat) : Int)), H') := by
  intro K
  induction K with
  | zero => intro a b h; omega
  | succ K ih =>
    intro a b h ha hb hg
    rw [r43_l0]
    by_cases h0 : b = 0
    · subst h0
      rw [Nat.gcd_zero_right] at hg
      obtain ⟨cs, hc, hl⟩ := hc
      have e1 : Int.tdiv (x : Int) (a : Int) = ((x / a : Nat) : Int) := rfl
      have e2 : Int.tdiv (y : Int) (a : Int) = ((y / a : Nat) : Int) := rfl
      have d1 := Nat.div_le_self x a
      have d2 := Nat.div_le_self y a
      rw [if_neg (by simp), ck, if_pos (by omega), ck, if_pos (by omega), e1, e2, Nat.gcd_zero_right]
      generalize x / a = s at *
      generalize y / a = t at *
      rw [w64_id (by omega) (by omega), w64_id (by omega) (by omega)]
      match cs, hl with
      | [u, w], _ =>
        obtain ⟨E, hE, gE⟩ : ∃ E, H.sts c 0 [.int .i64 (s : Int), .int .i64 (t : Int)] = some E ∧ E.get c = some (.cells [.int .i64 (s : Int), .int .i64 (t : Int)] false) := by
          obtain ⟨E, h1, h2, _⟩ := sts_blk [.int .i64 (s : Int), .int .i64 (t : Int)] 0 H [u, w] hc (by simp)
          exact ⟨E, h1, h2⟩
        rw [hE]
        simp only [Option.bind_some]
        have l0 : E.ldI .i64 c 0 = some (s : Int) := ldI_get gE rfl
        have l1 : E.ldI .i64 c (0 + 1) = some (t : Int) := ldI_get gE rfl
        rw [l0, l1]
        exact ⟨E, rfl⟩
    · rw [if_pos (by omega), ck, if_pos (by omega)]
      have e : Int.tmod (a : Int) (b : Int) = ((a % b : Nat) : Int) := rfl
      have hm := Nat.mod_lt a (show 0 < b by omega)
      rw [e]
      have := ih b (a % b) (by omega) hb (by omega) (by rw [gcd_step]; exact hg)
      rw [gcd_step] at this
      exact this
theorem r43_ok {a b : Nat} (ha : a < 9223372036854775808) (hb : b < 9223372036854775808) (h0 : 0 < b) (H : Hp) : ∃ H', r43 a b H = some ((((a / Nat.gcd a b : Nat) : Int), ((b / Nat.gcd a b : Nat) : Int)), H') := by
  unfold r43
  simp only [lt]
  rw [if_neg (by omega)]
  unfold r43_j1
  rw [w64_abs ha]
  exact r43_l0_ok ha hb ⟨_, by simp; rfl, rfl⟩ _ a b (by unfold FUEL; omega) ha hb (Nat.gcd_pos_of_pos_right _ h0)
/-- a fraction of a point -/
def fr (x : Pr) : Prop := 1 ≤ x.2 ∧ x.2 ≤ 1000000 ∧ 0 ≤ x.1 ∧ x.1 ≤ 30 * x.2 ∧ Nat.gcd x.1.toNat x.2.toNat = 1
instance (x : Pr) : Decidable (fr x) := by unfold fr; infer_instance
theorem div_one {b g : Nat} (hb : 0 < b) (h : b / g = b) : g = 1 := by
  rcases Nat.lt_or_ge 1 g with c | c
  · have := Nat.div_lt_self hb c
    omega
  · match g, c with
    | 0, _ => rw [Nat.div_zero] at h; omega
    | 1, _ => rfl
theorem frac_eq {a b : Nat} (hb : 0 < b) : ((((a / Nat.gcd a b : Nat) : Int) == (a : Int)) && (((b / Nat.gcd a b : Nat) : Int) == (b : Int))) = decide (Nat.gcd a b = 1) := by
  by_cases h : Nat.gcd a b = 1
  · rw [decide_eq_true h]; simp [h]
  · rw [decide_eq_false h]
    cases hc : (((a / Nat.gcd a b : Nat) : Int) == (a : Int)) && (((b / Nat.gcd a b : Nat) : Int) == (b : Int)) with
    | false => rfl
    | true =>
      simp only [Bool.and_eq_true, beq_iff_eq] at hc
      exact absurd (div_one hb (by omega)) h
end Go.Lt.P5
