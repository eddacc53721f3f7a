/- PLAIN LAWS OF WHAT IS COMPUTED, for the statement 'DealsOthers'. Nothing is asked of the input. -/
import Derived.Test.YtficeemoekikdaaU14VTo
import Derived.Test.YtficeemoekikdaaLB
set_option linter.unusedVariables false
set_option linter.unusedSimpArgs false
namespace Go.Lt.P5
open Go Go.Lt Go.Proofs
/-! ### quotients of the program and of the reference -/
theorem gcd_stepQ (a b : Nat) : Nat.gcd b (a % b) = Nat.gcd a b := by
  rw [Nat.gcd_comm a b, Nat.gcd_rec b a, Nat.gcd_comm]
theorem w64_absI {a : Int} (ha : a.natAbs < 9223372036854775808) : (if a < w64 (0 - a) then w64 (0 - a) else a) = (a.natAbs : Int) := by
  rw [w64_id (by omega) (by omega)]
  split <;> omega
theorem gcdI {H : Hp} : ∀ (K : Nat) (a b : Int), b.natAbs < K → a.natAbs < 9223372036854775808 → b.natAbs < 9223372036854775808 → r53_l0 K a b H = some ((Nat.gcd a.natAbs b.natAbs : Int), H) := by
  intro K
  induction K with
  | zero => intro a b h; omega
  | succ K ih =>
    intro a b h ha hb
    rw [r53_l0]
    by_cases h0 : b = 0
    · subst h0
      rw [if_neg (by simp), w64_absI ha]
      simp
    · have hm := Nat.mod_lt a.natAbs (show 0 < b.natAbs by omega)
      have e := Int.natAbs_tmod a b
      rw [if_pos h0, ck, if_pos h0, ih b (Int.tmod a b) (by omega) hb (by omega), e, gcd_stepQ]
/-- the lowest terms, by the greatest common divisor -/
theorem fq_gcdv {a b : Int} (hb : 0 < b) : fq (dv a b) = (Int.tdiv a (Nat.gcd a.natAbs b.natAbs), Int.tdiv b (Nat.gcd a.natAbs b.natAbs)) := by
  have hg : 0 < Nat.gcd a.natAbs b.natAbs := Nat.gcd_pos_of_pos_right _ (by omega)
  obtain ⟨x, hx⟩ : ((Nat.gcd a.natAbs b.natAbs : Nat) : Int) ∣ a := Int.ofNat_dvd_left.2 (Nat.gcd_dvd_left _ _)
  obtain ⟨y, hy⟩ : ((Nat.gcd a.natAbs b.natAbs : Nat) : Int) ∣ b := Int.ofNat_dvd_left.2 (Nat.gcd_dvd_right _ _)
  have hgg : Nat.gcd a.natAbs b.natAbs * Nat.gcd x.natAbs y.natAbs = Nat.gcd a.natAbs b.natAbs := by
    rw [← Nat.gcd_mul_left]
    have e1 := congrArg Int.natAbs hx
    have e2 := congrArg Int.natAbs hy
    rw [Int.natAbs_mul, Int.natAbs_natCast] at e1 e2
    rw [← e1, ← e2]
  generalize Nat.gcd a.natAbs b.natAbs = g at *
  have hg' : (g : Int) ≠ 0 := by omega
  have q1 : Int.tdiv a g = x := by rw [hx, Int.mul_tdiv_cancel_left _ hg']
  have q2 : Int.tdiv b g = y := by rw [hy, Int.mul_tdiv_cancel_left _ hg']
  rw [q1, q2]
  have hy0 : 0 < y := by
    rw [hy] at hb
    exact Int.pos_of_mul_pos_right hb (by omega)
  have hc : Nat.gcd x.natAbs y.natAbs = 1 := by
    have : g * Nat.gcd x.natAbs y.natAbs = g * 1 := by omega
    exact Nat.eq_of_mul_eq_mul_left hg this
  rw [← fq_dv hy0 hc]
  congr 1
  rw [dv_eq_iff hb hy0, hx, hy]
  grind
theorem tdiv_small {a : Int} {g : Nat} (ha : a.natAbs < 9223372036854775808) : w64 (Int.tdiv a g) = Int.tdiv a g := by
  have : (Int.tdiv a g).natAbs ≤ a.natAbs := by rw [Int.natAbs_tdiv]; exact Nat.div_le_self _ _
  exact w64_id (by omega) (by omega)
/-- frac -/
theorem r48_q {a b : Int} (ha : a.natAbs < 9223372036854775808) (hb : 0 < b) (hb2 : b < 9223372036854775808) (H : Hp) : Ok (r48 a b H) fun r _ => r = fq (dv a b) := by
  have hg : 0 < Nat.gcd a.natAbs b.natAbs := Nat.gcd_pos_of_pos_right _ (by omega)
  unfold r48
  refine Ok.box (.nil H) fun A _ c => Ok.neg (by omega) ?_
  unfold r48_j0
  refine Ok.own (b := (Nat.gcd a.natAbs b.natAbs : Int)) ⟨_, _, gcdI FUEL a b (by unfold FUEL; omega) ha (by omega), rfl⟩ fun X => ?_
  dsimp only
  rw [tdiv_small ha, tdiv_small (by omega)]
  refine Ok.ck (by omega) (Ok.ck (by omega) (Ok.cst c 0 rfl rfl fun D _ _ c => ?_))
  refine Ok.cld c (.head _) rfl (Ok.cld c (.head _) rfl (Ok.ret ?_))
  rw [fq_gcdv hb]
/-- a quotient with bounded terms -/
def qb (N D : Int) (q : Rat) : Prop := -N ≤ (fq q).1 ∧ (fq q).1 ≤ N ∧ (fq q).2 ≤ D
theorem qb_int {a N D : Int} (h : -N ≤ a) (h2 : a ≤ N) (hD : 1 ≤ D) : qb N D (a : Rat) := ⟨h, h2, hD⟩
theorem qb_dv {a b N D : Int} (hb : 0 < b) (h : -N ≤ a) (h2 : a ≤ N) (hD : b ≤ D) : qb N D (dv a b) := by
  have := fq_bd (a := a) hb
  exact ⟨by omega, by omega, by omega⟩
theorem qb.mono {N D N' D' : Int} {q : Rat} (h : qb N D q) (hN : N ≤ N') (hD : D ≤ D') : qb N' D' q := ⟨by have := h.1; omega, by have := h.2.1; omega, by have := h.2.2; omega⟩
theorem qb.mul {N D N' D' : Int} {p q : Rat} (h : qb N D p) (k : qb N' D' q) : qb (N * N') (D * D') (p * q) := by
  rw [← fq_mul]
  obtain ⟨h1, h2, h3⟩ := h
  obtain ⟨k1, k2, k3⟩ := k
  have hp := fq_pos p
  have kp := fq_pos q
  have b1 := mul_bd (A := N) (B := N') h1 h2 k1 k2
  have b2 := mul_bd (A := D) (B := D') (x := (fq p).2) (y := (fq q).2) (by omega) h3 (by omega) k3
  exact qb_dv (Int.mul_pos hp kp) b1.1 b1.2 b2.2
theorem qb.add {N D N' D' : Int} {p q : Rat} (h : qb N D p) (k : qb N' D' q) : qb (N * D' + N' * D) (D * D') (p + q) := by
  rw [← fq_add]
  obtain ⟨h1, h2, h3⟩ := h
  obtain ⟨k1, k2, k3⟩ := k
  have hp := fq_pos p
  have kp := fq_pos q
  have b1 := mul_bd (A := N) (B := D') (x := (fq p).1) (y := (fq q).2) h1 h2 (by omega) k3
  have b3 := mul_bd (A := N') (B := D) (x := (fq q).1) (y := (fq p).2) k1 k2 (by omega) h3
  have b2 := mul_bd (A := D) (B := D') (x := (fq p).2) (y := (fq q).2) (by omega) h3 (by omega) k3
  exact qb_dv (Int.mul_pos hp kp) (by omega) (by omega) b2.2
theorem qb.sub {N D N' D' : Int} {p q : Rat} (h : qb N D p) (k : qb N' D' q) : qb (N * D' + N' * D) (D * D') (p - q) := by
  rw [← fq_sub]
  obtain ⟨h1, h2, h3⟩ := h
  obtain ⟨k1, k2, k3⟩ := k
  have hp := fq_pos p
  have kp := fq_pos q
  have b1 := mul_bd (A := N) (B := D') (x := (fq p).1) (y := (fq q).2) h1 h2 (by omega) k3
  have b3 := mul_bd (A := N') (B := D) (x := (fq q).1) (y := (fq p).2) k1 k2 (by omega) h3
  have b2 := mul_bd (A := D) (B := D') (x := (fq p).2) (y := (fq q).2) (by omega) h3 (by omega) k3
  exact qb_dv (Int.mul_pos hp kp) (by omega) (by omega) b2.2
/-- compare -/
theorem r80_q (a b : Int) : Ok (r80 a b H0) fun r _ => r = if a < b then -1 else if b < a then 1 else 0 := by
  unfold r80 r85
  refine Ok.own (b := false) (Ok.ret (by simp)) fun X => Ok.own (b := false) (Ok.ret (by simp)) fun Y => Ok.neg (by simp) (Ok.neg (by simp) ?_)
  refine Ok.ite (fun c => Ok.ret (by rw [if_pos c])) fun c => Ok.ite (fun d => Ok.ret (by rw [if_neg c, if_pos d])) fun d => Ok.ret (by rw [if_neg c, if_neg d])
def cmpq (p q : Rat) : Int := if p < q then -1 else if q < p then 1 else 0
theorem r68_q {N D N' D' : Int} {p q : Rat} (hp : qb N D p) (hq : qb N' D' q) (h1 : N * D' < 9223372036854775808) (h2 : N' * D < 9223372036854775808) : Ok (r68 (fq p).1 (fq p).2 (fq q).1 (fq q).2 H0) fun r _ => r = cmpq p q := by
  obtain ⟨a1, a2, a3⟩ := hp
  obtain ⟨k1, k2, k3⟩ := hq
  have ap := fq_pos p
  have kp := fq_pos q
  have b1 := mul_bd (A := N) (B := D') (x := (fq p).1) (y := (fq q).2) a1 a2 (by omega) k3
  have b3 := mul_bd (A := N') (B := D) (x := (fq q).1) (y := (fq p).2) k1 k2 (by omega) a3
  unfold r68
  refine Ok.lt (Ok.ld rfl (Ok.ld rfl (Ok.ld rfl (Ok.ld rfl ?_))))
  rw [w64_id (by omega) (by omega), w64_id (by omega) (by omega)]
  refine Ok.own (r80_q _ _) fun X => Ok.ret ?_
  dsimp only
  unfold cmpq
  simp only [fq_lt]
/-- rest -/
theorem r78_q {t : Tr} {d : Pr} (h1 : 0 ≤ t.1 ∧ t.1 ≤ 30) (h2 : 0 ≤ t.2.1 ∧ t.2.1 ≤ 30) (h3 : 0 ≤ t.2.2 ∧ t.2.2 ≤ 1800) (hd : num d) : Ok (r78 t.1 t.2.1 t.2.2 d.1 d.2 H0) fun r _ => r = restF t d := by
  unfold num at hd
  have b1 := pr_bd (x := t.1) (y := d.1) (by omega) (by omega) (by omega) (by omega)
  have b2 := pr_bd (x := t.2.1) (y := d.2) (by omega) (by omega) (by omega) (by omega)
  unfold r78
  refine Ok.lt (Ok.ld rfl (Ok.ld rfl (Ok.ld rfl (Ok.ld rfl (Ok.ld rfl (Ok.ret ?_))))))
  rw [w64_id (n := t.1 * d.1) (by omega) (by omega), w64_id (n := t.2.1 * d.2) (by omega) (by omega), w64_id (n := t.2.2 - t.1 * d.1) (by omega) (by omega), w64_id (by omega) (by omega)]
  rfl
/-- along -/
theorem r79_q {x : Int} {n s : Rat} {N D N' D' : Int} (hx : 0 ≤ x ∧ x ≤ 30) (hn : qb N D n) (hs : qb N' D' s) (h1 : N * N' < 100000000000000000) (h2 : D * D' < 100000000000000000) : Ok (r79 x (fq n).1 (fq n).2 (fq s).1 (fq s).2 H0) fun r _ => r = fq ((x : Rat) + n * s) := by
  have hb := hn.mul hs
  obtain ⟨a1, a2, a3⟩ := hn
  obtain ⟨k1, k2, k3⟩ := hs
  have ap := fq_pos n
  have kp := fq_pos s
  have b1 := mul_bd (A := N) (B := N') (x := (fq n).1) (y := (fq s).1) a1 a2 k1 k2
  have b3 := mul_bd (A := D) (B := D') (x := (fq n).2) (y := (fq s).2) (by omega) a3 (by omega) k3
  have b4 := Int.mul_pos ap kp
  have e := fq_mul n s
  unfold r79
  refine Ok.lt (Ok.ld rfl (Ok.ld rfl (Ok.ld rfl (Ok.ld rfl ?_))))
  rw [w64_id (by omega) (by omega), w64_id (by omega) (by omega)]
  refine Ok.own (r48_q (by omega) b4 (by omega) H0) fun X => ?_
  rw [e]
  obtain ⟨c1, c2, c3⟩ := hb
  have cp := fq_pos (n * s)
  refine Ok.ld rfl (Ok.ld rfl (Ok.ld rfl (Ok.ld rfl ?_)))
  dsimp only
  have d1 := mul_bd (A := 30) (B := D * D') (x := x) (y := (fq (n * s)).2) (by omega) (by omega) (by omega) c3
  rw [w64_id (n := x * _) (by omega) (by omega), w64_id (by omega) (by omega)]
  refine Ok.own (r48_q (by omega) cp (by omega) H0) fun Y => ?_
  refine Ok.ld rfl (Ok.ld rfl (Ok.ld rfl (Ok.ret ?_)))
  have := dv_add (a := x) (b := 1) (c := (fq (n * s)).1) (d := (fq (n * s)).2) (by omega) cp
  rw [dv_fq, dv_int, Int.mul_one, Int.one_mul] at this
  rw [this]
end Go.Lt.P5
