/- PLAIN LAWS OF WHAT IS COMPUTED, for the statement 'CutsCuts'. Nothing is asked of the input. -/
import Derived.Test.YteefkljbmjjncaaG5A
import Derived.Test.YteefkljbmjjncaaLB
import Derived.Test.YteefkljbmjjncaaLB
import Derived.Test.YteefkljbmjjncaaLB
set_option linter.unusedVariables false
set_option linter.unusedSimpArgs false
namespace Go.Lt.P2
open Go Go.Lt Go.Proofs
abbrev Pr := Int × Int
abbrev Sd := Int × Int × Int
theorem mul_bd {x y A B : Int} (h1 : -A ≤ x) (h2 : x ≤ A) (h3 : -B ≤ y) (h4 : y ≤ B) : -(A * B) ≤ x * y ∧ x * y ≤ A * B := by
  have p1 : 0 ≤ (A - x) * (B - y) := Int.mul_nonneg (by omega) (by omega)
  have p2 : 0 ≤ (A + x) * (B + y) := Int.mul_nonneg (by omega) (by omega)
  have p3 : 0 ≤ (A - x) * (B + y) := Int.mul_nonneg (by omega) (by omega)
  have p4 : 0 ≤ (A + x) * (B - y) := Int.mul_nonneg (by omega) (by omega)
  constructor <;> grind
theorem gcd_step (a b : Nat) : Nat.gcd b (a % b) = Nat.gcd a b := by
  rw [Nat.gcd_comm a b, Nat.gcd_rec b a, Nat.gcd_comm]
theorem w64_abs {a : Int} (ha : a.natAbs < 9223372036854775808) : (if a < w64 (0 - a) then w64 (0 - a) else a) = (a.natAbs : Int) := by
  rw [w64_id (by omega) (by omega)]
  split <;> omega
theorem r94_ok' {H : Hp} : ∀ (K : Nat) (a b : Int), b.natAbs < K → a.natAbs < 9223372036854775808 → b.natAbs < 9223372036854775808 → r94_l0 K a b H = some ((Nat.gcd a.natAbs b.natAbs : Int), H) := by
  intro K
  induction K with
  | zero => intro a b h; omega
  | succ K ih =>
    intro a b h ha hb
    rw [r94_l0]
    by_cases h0 : b = 0
    · subst h0
      rw [if_neg (by simp), w64_abs ha]
      simp
    · have hm := Nat.mod_lt a.natAbs (show 0 < b.natAbs by omega)
      have e := Int.natAbs_tmod a b
      rw [if_pos h0, ck, if_pos h0, ih b (Int.tmod a b) (by omega) hb (by omega), e, gcd_step]
theorem r94_ok {a b : Int} (ha : a.natAbs < 9223372036854775808) (hb : b.natAbs < 9223372036854775808) (H : Hp) : r94 a b H = some ((Nat.gcd a.natAbs b.natAbs : Int), H) := r94_ok' _ a b (by unfold FUEL; omega) ha hb
/-- n / d are a / b in lowest terms -/
def Red (n d a b : Int) : Prop := 0 < d ∧ d ≤ b ∧ Nat.gcd n.natAbs d.natAbs = 1 ∧ n * b = a * d ∧ n.natAbs ≤ a.natAbs
theorem red_of {a b : Int} (hb : 0 < b) : Red (Int.tdiv a (Nat.gcd a.natAbs b.natAbs)) (Int.tdiv b (Nat.gcd a.natAbs b.natAbs)) a b := by
  have hg : 0 < Nat.gcd a.natAbs b.natAbs := Nat.gcd_pos_of_pos_right _ (by omega)
  obtain ⟨x, hx⟩ : ((Nat.gcd a.natAbs b.natAbs : Nat) : Int) ∣ a := Int.ofNat_dvd_left.2 (Nat.gcd_dvd_left _ _)
  obtain ⟨y, hy⟩ : ((Nat.gcd a.natAbs b.natAbs : Nat) : Int) ∣ b := Int.ofNat_dvd_left.2 (Nat.gcd_dvd_right _ _)
  have hgg : Nat.gcd a.natAbs b.natAbs * Nat.gcd x.natAbs y.natAbs = Nat.gcd a.natAbs b.natAbs := by
    rw [← Nat.gcd_mul_left]
    have e1 := congrArg Int.natAbs hx
    have e2 := congrArg Int.natAbs hy
    rw [Int.natAbs_mul, Int.natAbs_natCast] at e1 e2
    rw [← e1, ← e2]
  generalize Nat.gcd a.natAbs b.natAbs = g at *
  have hg' : (g : Int) ≠ 0 := by omega
  have q1 : Int.tdiv a g = x := by rw [hx, Int.mul_tdiv_cancel_left _ hg']
  have q2 : Int.tdiv b g = y := by rw [hy, Int.mul_tdiv_cancel_left _ hg']
  rw [q1, q2]
  have hy0 : 0 < y := by
    rw [hy] at hb
    exact Int.pos_of_mul_pos_right hb (by omega)
  refine ⟨hy0, ?_, ?_, ?_, ?_⟩
  · rw [hy]
    have := Int.mul_le_mul_of_nonneg_right (show (1 : Int) ≤ g by omega) (show 0 ≤ y by omega)
    omega
  · have : g * Nat.gcd x.natAbs y.natAbs = g * 1 := by omega
    exact Nat.eq_of_mul_eq_mul_left hg this
  · rw [hx, hy]; grind
  · rw [hx, Int.natAbs_mul, Int.natAbs_natCast]
    exact Nat.le_mul_of_pos_left _ hg
theorem red_uniq {n d n' d' : Int} (hd : 0 < d) (hd' : 0 < d') (h1 : Nat.gcd n.natAbs d.natAbs = 1) (h2 : Nat.gcd n'.natAbs d'.natAbs = 1) (h : n * d' = n' * d) : n = n' ∧ d = d' := by
  have e := congrArg Int.natAbs h
  rw [Int.natAbs_mul, Int.natAbs_mul] at e
  have a1 : d.natAbs ∣ d'.natAbs := Nat.Coprime.dvd_of_dvd_mul_left (k := d.natAbs) (m := n.natAbs) (by rw [Nat.coprime_iff_gcd_eq_one, Nat.gcd_comm]; exact h1) ⟨n'.natAbs, by rw [e, Nat.mul_comm]⟩
  have a2 : d'.natAbs ∣ d.natAbs := Nat.Coprime.dvd_of_dvd_mul_left (k := d'.natAbs) (m := n'.natAbs) (by rw [Nat.coprime_iff_gcd_eq_one, Nat.gcd_comm]; exact h2) ⟨n.natAbs, by rw [← e, Nat.mul_comm]⟩
  have hdd : d = d' := by
    have := Nat.dvd_antisymm a1 a2
    omega
  subst hdd
  exact ⟨Int.eq_of_mul_eq_mul_right (by omega) h, rfl⟩
theorem sts2at {b : Nat} {H : Hp} {u w : AV} (x y : Int) (h : H.get b = some (.cells [u, w] false)) : ∃ E, H.sts b 0 [.int .i64 x, .int .i64 y] = some E ∧ E.get b = some (.cells [.int .i64 x, .int .i64 y] false) := by
  obtain ⟨E, h1, h2, _⟩ := sts_blk [.int .i64 x, .int .i64 y] 0 H [u, w] h (by simp)
  exact ⟨E, h1, h2⟩
/-- frac -/
theorem r100_ok {a b : Int} (ha : a.natAbs < 9223372036854775808) (hb : 0 < b) (hb2 : b < 9223372036854775808) (H : Hp) : ∃ n d H', r100 a b H = some ((n, d), H') ∧ Red n d a b := by
  have hr := red_of (a := a) hb
  have hg : 0 < Nat.gcd a.natAbs b.natAbs := Nat.gcd_pos_of_pos_right _ (by omega)
  unfold r100
  simp only [lt]
  rw [if_neg (by omega)]
  unfold r100_j0
  rw [r94_ok ha (by omega)]
  simp only [Option.bind_some]
  rw [ck, if_pos (by omega), ck, if_pos (by omega)]
  have h2 := hr.2.1
  have h5 := hr.2.2.2.2
  have h3 := hr.1
  rw [w64_id (n := Int.tdiv a (Nat.gcd a.natAbs b.natAbs)) (by omega) (by omega), w64_id (n := Int.tdiv b (Nat.gcd a.natAbs b.natAbs)) (by omega) (by omega)]
  obtain ⟨E, e1, e2⟩ := sts2at (Int.tdiv a (Nat.gcd a.natAbs b.natAbs)) (Int.tdiv b (Nat.gcd a.natAbs b.natAbs)) (Hp.get_push_new H (.cells [.int .i64 0, .int .i64 0] false))
  rw [e1]
  simp only [Option.bind_some]
  rw [ldI_get (o := 0) e2 rfl, ldI_get (o := 0 + 1) e2 rfl]
  exact ⟨_, _, E, rfl, hr⟩
theorem r56_l0_ok {x y : Int} {c : Nat} {H : Hp} (hc : ∃ u w, H.get c = some (.cells [u, w] false)) (hr : ∀ g : Nat, g = Nat.gcd x.natAbs y.natAbs → w64 (Int.tdiv x g) = Int.tdiv x g ∧ w64 (Int.tdiv y g) = Int.tdiv y g) (hg0 : 0 < Nat.gcd x.natAbs y.natAbs) : ∀ (K a b : Nat), b < K → Nat.gcd a b = Nat.gcd x.natAbs y.natAbs →
    ∃ H', r56_l0 K x y c a b H = some ((Int.tdiv x (Nat.gcd x.natAbs y.natAbs), Int.tdiv y (Nat.gcd x.natAbs y.natAbs)), H') := by
  intro K
  induction K with
  | zero => intro a b h; omega
  | succ K ih =>
    intro a b h hg
    rw [r56_l0]
    by_cases h0 : b = 0
    · subst h0
      rw [Nat.gcd_zero_right] at hg
      subst hg
      obtain ⟨u, w, hc⟩ := hc
      obtain ⟨q1, q2⟩ := hr _ rfl
      rw [if_neg (by simp), ck, if_pos (by omega), ck, if_pos (by omega), q1, q2]
      obtain ⟨E, e1, e2⟩ := sts2at (Int.tdiv x (Nat.gcd x.natAbs y.natAbs)) (Int.tdiv y (Nat.gcd x.natAbs y.natAbs)) hc
      rw [e1]
      simp only [Option.bind_some]
      rw [ldI_get (o := 0) e2 rfl, ldI_get (o := 0 + 1) e2 rfl]
      exact ⟨E, rfl⟩
    · rw [if_pos (by omega), ck, if_pos (by omega)]
      have e : Int.tmod (a : Int) (b : Int) = ((a % b : Nat) : Int) := rfl
      have hm := Nat.mod_lt a (show 0 < b by omega)
      rw [e]
      exact ih b (a % b) (by omega) (by rw [gcd_step]; exact hg)
/-- Frac -/
theorem r56_ok {a b : Int} (ha : a.natAbs < 9223372036854775808) (hb : 0 < b) (hb2 : b < 9223372036854775808) (H : Hp) : ∃ n d H', r56 a b H = some ((n, d), H') ∧ Red n d a b := by
  have hr := red_of (a := a) hb
  have hg : 0 < Nat.gcd a.natAbs b.natAbs := Nat.gcd_pos_of_pos_right _ (by omega)
  unfold r56
  simp only [lt]
  rw [if_neg (by omega)]
  unfold r56_j1
  rw [w64_abs ha]
  have h2 := hr.2.1
  have h5 := hr.2.2.2.2
  have h3 := hr.1
  have eb : b = ((b.natAbs : Nat) : Int) := by omega
  obtain ⟨H', e⟩ := r56_l0_ok (x := a) (y := b) (c := H.n) (H := H.push (.cells [.int .i64 0, .int .i64 0] false)) ⟨_, _, Hp.get_push_new _ _⟩ (fun g hgg => by subst hgg; exact ⟨w64_id (by omega) (by omega), w64_id (by omega) (by omega)⟩) hg FUEL a.natAbs b.natAbs (by unfold FUEL; omega) rfl
  rw [← eb] at e
  rw [e]
  exact ⟨_, _, H', rfl, hr⟩
/-- rounded down -/
def Fl (f n d : Int) : Prop := f * d ≤ n ∧ n < (f + 1) * d
theorem Fl.uniq {f g n d : Int} (hd : 0 < d) (h : Fl f n d) (k : Fl g n d) : f = g := by
  obtain ⟨h1, h2⟩ := h
  obtain ⟨k1, k2⟩ := k
  have a1 : f < g + 1 := Int.lt_of_mul_lt_mul_right (show f * d < (g + 1) * d by omega) (by omega)
  have a2 : g < f + 1 := Int.lt_of_mul_lt_mul_right (show g * d < (f + 1) * d by omega) (by omega)
  omega
theorem tdiv_bd {n d : Int} (hd : 0 < d) : (Int.tdiv n d).natAbs ≤ n.natAbs := by
  rw [Int.natAbs_tdiv]
  exact Nat.div_le_self _ _
theorem tdiv_fl {n d : Int} (hd : 0 < d) : (n < Int.tdiv n d * d → Fl (Int.tdiv n d - 1) n d) ∧ (¬ n < Int.tdiv n d * d → Fl (Int.tdiv n d) n d) ∧ (0 ≤ n → ¬ n < Int.tdiv n d * d) ∧ (n < 0 → (n < Int.tdiv n d * d ↔ Int.tdiv n d * d ≠ n)) := by
  have e := Int.mul_tdiv_add_tmod n d
  have hm : Int.natAbs (Int.tmod n d) < d.natAbs := by rw [Int.natAbs_tmod]; exact Nat.mod_lt _ (by omega)
  have hs : 0 ≤ n → 0 ≤ Int.tmod n d := fun h => Int.tmod_nonneg d h
  have hs2 : n ≤ 0 → Int.tmod n d ≤ 0 := fun h => by
    have := Int.tmod_nonneg d (show 0 ≤ -n by omega)
    rw [Int.neg_tmod] at this
    omega
  generalize Int.tmod n d = m at *
  generalize Int.tdiv n d = t at *
  rw [Int.mul_comm] at e
  have e1 : (t - 1) * d = t * d - d := by rw [Int.sub_mul]; omega
  have e2 : (t + 1) * d = t * d + d := by rw [Int.add_mul]; omega
  have e3 : (t - 1 + 1) * d = t * d := by rw [Int.sub_add_cancel]
  refine ⟨fun h => ?_, fun h => ?_, fun h => ?_, fun h => ?_⟩
  · unfold Fl; rw [e1, e3]; omega
  · unfold Fl; rw [e2]; omega
  · have := hs h; omega
  · have := hs2 (by omega); omega
/-- down -/
theorem r68_ok {n d : Int} (hn : n.natAbs < 4611686018427387904) (hd : 0 < d) (H : Hp) : ∃ f H', r68 n d H = some (f, H') ∧ Fl f n d := by
  obtain ⟨f1, f2, f3, f4⟩ := tdiv_fl (n := n) hd
  have hb := tdiv_bd (n := n) hd
  have hg : (H.push (.cells [.int .i64 n, .int .i64 d] false)).get H.n = some (.cells [.int .i64 n, .int .i64 d] false) := Hp.get_push_new _ _
  unfold r68
  simp only [lt]
  rw [ldI_get (o := 0 + 0) hg rfl, ldI_get (o := 0 + 1) hg rfl]
  simp only [Option.bind_some]
  rw [ck, if_pos (by omega)]
  rw [w64_id (n := Int.tdiv n d) (by omega) (by omega)]
  have hm : n < 0 → w64 (Int.tdiv n d * d) = Int.tdiv n d * d := fun h => by
    by_cases c : n < Int.tdiv n d * d
    · have := f1 c
      have h2 := this.1
      have e1 : (Int.tdiv n d - 1) * d = Int.tdiv n d * d - d := by rw [Int.sub_mul]; omega
      have hz : Int.tdiv n d * d ≤ 0 := by
        have : Int.tdiv n d ≤ 0 := by
          by_cases c2 : Int.tdiv n d ≤ 0
          · exact c2
          · exfalso
            have m1 := Int.mul_le_mul_of_nonneg_right (show (1 : Int) ≤ Int.tdiv n d by omega) (show 0 ≤ d by omega)
            have t1 : Int.tdiv (-n) d = -Int.tdiv n d := Int.neg_tdiv n d
            have t2 : 0 ≤ Int.tdiv (-n) d := Int.tdiv_nonneg (by omega) (by omega)
            omega
        have := Int.mul_le_mul_of_nonneg_right this (show 0 ≤ d by omega)
        omega
      exact w64_id (by omega) (by omega)
    · have e : Int.tdiv n d * d = n := by
        have := f4 h
        by_cases c2 : Int.tdiv n d * d = n
        · exact c2
        · exact absurd (this.2 c2) c
      rw [e]
      exact w64_id (by omega) (by omega)
  by_cases h : n < 0
  · rw [if_pos h]
    rw [hm h]
    unfold r68_j0
    by_cases c : n < Int.tdiv n d * d
    · rw [decide_eq_true ((f4 h).1 c), if_pos rfl, w64_id (by omega) (by omega)]
      exact ⟨_, _, rfl, f1 c⟩
    · rw [decide_eq_false (fun q => c ((f4 h).2 q)), if_neg (by simp)]
      exact ⟨_, _, rfl, f2 c⟩
  · rw [if_neg h]
    unfold r68_j0
    rw [if_neg (by simp)]
    exact ⟨_, _, rfl, f2 (f3 (by omega))⟩
end Go.Lt.P2
