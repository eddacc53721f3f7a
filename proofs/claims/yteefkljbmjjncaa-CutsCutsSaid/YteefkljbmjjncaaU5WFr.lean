/- PLAIN LAWS OF WHAT IS COMPUTED, for the statement 'CutsCuts'. Nothing is asked of the input. -/
import Derived.Test.YteefkljbmjjncaaU5WGc
set_option linter.unusedVariables false
set_option linter.unusedSimpArgs false
namespace Go.Lt.P2
open Go Go.Lt Go.Proofs
theorem td_bd {n d : Int} : (Int.tdiv n d * d).natAbs ≤ n.natAbs := by
  rw [Int.natAbs_mul, Int.natAbs_tdiv]
  exact Nat.div_mul_le_self _ _
/-- Floor -/
theorem r61_ok {n d : Int} (hn : n.natAbs < 4611686018427387904) (hd : 0 < d) (H : Hp) : ∃ f H', r61 n d H = some (f, H') ∧ Fl f n d := by
  obtain ⟨f1, f2, _, _⟩ := tdiv_fl (n := n) hd
  have hb := tdiv_bd (n := n) hd
  have hb2 := td_bd (n := n) (d := d)
  have hg : (H.push (.cells [.int .i64 n, .int .i64 d] false)).get H.n = some (.cells [.int .i64 n, .int .i64 d] false) := Hp.get_push_new _ _
  unfold r61
  simp only [lt]
  rw [ldI_get (o := 0 + 0) hg rfl, ldI_get (o := 0 + 1) hg rfl]
  simp only [Option.bind_some]
  rw [ck, if_pos (by omega), w64_id (n := Int.tdiv n d) (by omega) (by omega), w64_id (n := Int.tdiv n d * d) (by omega) (by omega)]
  by_cases c : n < Int.tdiv n d * d
  · rw [if_pos c, w64_id (by omega) (by omega)]
    exact ⟨_, _, rfl, f1 c⟩
  · rw [if_neg c]
    exact ⟨_, _, rfl, f2 c⟩
/-- times -/
theorem r99_ok {k : Int} {a : Pr} (hk : -40 ≤ k ∧ k ≤ 40) (h1 : 0 ≤ a.1 ∧ a.1 ≤ 10000) (h2 : 1 ≤ a.2 ∧ a.2 ≤ 100) (H : Hp) : ∃ n d H', r99 k a.1 a.2 H = some ((n, d), H') ∧ Red n d (k * a.1) a.2 := by
  have b1 := mul_bd (A := 40) (B := 10000) (x := k) (y := a.1) (by omega) (by omega) (by omega) (by omega)
  obtain ⟨n, d, X, e, hr⟩ := r100_ok (a := k * a.1) (b := a.2) (by omega) (by omega) (by omega) H0
  unfold r99
  simp only [lt]
  have n1 : (H.push (.cells [.int .i64 a.1, .int .i64 a.2] false)).n = H.n + 1 := by simp
  generalize hA : H.push (.cells [.int .i64 a.1, .int .i64 a.2] false) = A at *
  have hg : (A.push (.cells [.int .i64 0, .int .i64 0] false)).get H.n = some (.cells [.int .i64 a.1, .int .i64 a.2] false) := by
    rw [Hp.get_push_old _ _ (by omega), ← hA]; exact Hp.get_push_new _ _
  rw [ldI_get (o := 0 + 0) hg rfl, ldI_get (o := 0 + 1) hg rfl]
  simp only [Option.bind_some]
  rw [w64_id (by omega) (by omega), e]
  simp only [Option.bind_some]
  obtain ⟨E, e1, e2⟩ := sts2at n d (Hp.get_push_new A (.cells [.int .i64 0, .int .i64 0] false))
  rw [e1]
  simp only [Option.bind_some]
  rw [ldI_get (o := 0) e2 rfl, ldI_get (o := 0 + 1) e2 rfl]
  exact ⟨n, d, E, rfl, hr⟩
/-- plus -/
theorem r98_ok {a b : Pr} (h1 : a.1.natAbs ≤ 1000000000000000) (h2 : 1 ≤ a.2 ∧ a.2 ≤ 10000000000) (h3 : b.1.natAbs ≤ 1000000) (h4 : 1 ≤ b.2 ∧ b.2 ≤ 100) (H : Hp) : ∃ n d H', r98 a.1 a.2 b.1 b.2 H = some ((n, d), H') ∧ Red n d (a.1 * b.2 + b.1 * a.2) (a.2 * b.2) := by
  have b1 := mul_bd (A := 1000000000000000) (B := 100) (x := a.1) (y := b.2) (by omega) (by omega) (by omega) (by omega)
  have b2 := mul_bd (A := 1000000) (B := 10000000000) (x := b.1) (y := a.2) (by omega) (by omega) (by omega) (by omega)
  have b3 := mul_bd (A := 10000000000) (B := 100) (x := a.2) (y := b.2) (by omega) (by omega) (by omega) (by omega)
  have b4 : 0 < a.2 * b.2 := Int.mul_pos (by omega) (by omega)
  obtain ⟨n, d, X, e, hr⟩ := r100_ok (a := a.1 * b.2 + b.1 * a.2) (b := a.2 * b.2) (by omega) (by omega) (by omega) H0
  unfold r98
  simp only [lt]
  have n1 : (H.push (.cells [.int .i64 a.1, .int .i64 a.2] false)).n = H.n + 1 := by simp
  have g0 : (H.push (.cells [.int .i64 a.1, .int .i64 a.2] false)).get H.n = some (.cells [.int .i64 a.1, .int .i64 a.2] false) := Hp.get_push_new _ _
  generalize H.push (.cells [.int .i64 a.1, .int .i64 a.2] false) = A at *
  have n2 : (A.push (.cells [.int .i64 b.1, .int .i64 b.2] false)).n = A.n + 1 := by simp
  have g1 : (A.push (.cells [.int .i64 b.1, .int .i64 b.2] false)).get A.n = some (.cells [.int .i64 b.1, .int .i64 b.2] false) := Hp.get_push_new _ _
  have g2 : (A.push (.cells [.int .i64 b.1, .int .i64 b.2] false)).get H.n = some (.cells [.int .i64 a.1, .int .i64 a.2] false) := by rw [Hp.get_push_old _ _ (by omega)]; exact g0
  generalize A.push (.cells [.int .i64 b.1, .int .i64 b.2] false) = B at *
  have g3 : (B.push (.cells [.int .i64 0, .int .i64 0] false)).get H.n = some (.cells [.int .i64 a.1, .int .i64 a.2] false) := by rw [Hp.get_push_old _ _ (by omega)]; exact g2
  have g4 : (B.push (.cells [.int .i64 0, .int .i64 0] false)).get A.n = some (.cells [.int .i64 b.1, .int .i64 b.2] false) := by rw [Hp.get_push_old _ _ (by omega)]; exact g1
  have i1 : (B.push (.cells [.int .i64 0, .int .i64 0] false)).ldI .i64 H.n (0 + 0) = some a.1 := ldI_get g3 rfl
  have i2 : (B.push (.cells [.int .i64 0, .int .i64 0] false)).ldI .i64 H.n (0 + 1) = some a.2 := ldI_get g3 rfl
  have i3 : (B.push (.cells [.int .i64 0, .int .i64 0] false)).ldI .i64 A.n (0 + 0) = some b.1 := ldI_get g4 rfl
  have i4 : (B.push (.cells [.int .i64 0, .int .i64 0] false)).ldI .i64 A.n (0 + 1) = some b.2 := ldI_get g4 rfl
  simp only [i1, i2, i3, i4, Option.bind_some]
  rw [w64_id (n := a.1 * b.2) (by omega) (by omega), w64_id (n := b.1 * a.2) (by omega) (by omega), w64_id (n := a.2 * b.2) (by omega) (by omega), w64_id (by omega) (by omega), e]
  simp only [Option.bind_some]
  obtain ⟨E, e1, e2⟩ := sts2at n d (Hp.get_push_new B (.cells [.int .i64 0, .int .i64 0] false))
  rw [e1]
  simp only [Option.bind_some]
  rw [ldI_get (o := 0) e2 rfl, ldI_get (o := 0 + 1) e2 rfl]
  exact ⟨n, d, E, rfl, hr⟩
/-- sums of quotients with a common denominator -/
def tot (L : Int) (x : Nat → Int) (f : Nat → Pr) : Nat → Int
  | 0 => 0
  | i + 1 => tot L x f i + L / (f i).2 * (f i).1 * x i
def frP (f : Pr) : Prop := 1 ≤ f.2 ∧ f.2 ≤ 100 ∧ 0 ≤ f.1 ∧ f.1 ≤ 100 * f.2 ∧ Nat.gcd f.1.natAbs f.2.natAbs = 1
instance (f : Pr) : Decidable (frP f) := by unfold frP; infer_instance
/-- a partial sum in lowest terms -/
structure PI (L T : Int) (i : Nat) (s : Pr) : Prop where
  pos : 0 < s.2
  le : s.2 ≤ 100 ^ i
  cop : Nat.gcd s.1.natAbs s.2.natAbs = 1
  val : s.1 * L = T * s.2
  bd : T.natAbs ≤ 4000 * i * L.natAbs
theorem PI.zero {L : Int} : PI L 0 0 (0, 1) := ⟨by decide, by decide, by decide, by simp, by simp⟩
theorem cancelE {k x y : Int} (hk : 0 < k) (h : k * x = k * y) : x = y := Int.eq_of_mul_eq_mul_left (by omega) h
theorem PI.num {L T : Int} {i : Nat} {s : Pr} (h : PI L T i s) (hL : 0 < L) : s.1.natAbs ≤ 4000 * i * s.2.natAbs := by
  have e := congrArg Int.natAbs h.val
  rw [Int.natAbs_mul, Int.natAbs_mul] at e
  have h1 := Nat.mul_le_mul_right s.2.natAbs h.bd
  have hL' : 0 < L.natAbs := by omega
  refine Nat.le_of_mul_le_mul_right (c := L.natAbs) ?_ hL'
  rw [e]
  exact Nat.le_trans h1 (Nat.le_of_eq (Nat.mul_right_comm _ _ _))
theorem PI.step {L T x : Int} {i : Nat} {s s' f : Pr} {n d : Int} (hL : 0 < L) (h : PI L T i s) (hf : frP f) (hdv : f.2 ∣ L) (hx : -40 ≤ x ∧ x ≤ 40) (ht : Red n d (x * f.1) f.2) (hp : Red s'.1 s'.2 (s.1 * d + n * s.2) (s.2 * d)) : PI L (T + L / f.2 * f.1 * x) (i + 1) s' := by
  obtain ⟨f1, f2, f3, f4, _⟩ := hf
  obtain ⟨t1, t2, t3, t4, t5⟩ := ht
  obtain ⟨p1, p2, p3, p4, p5⟩ := hp
  obtain ⟨q, hq⟩ := hdv
  have hqe : L / f.2 = q := by rw [hq]; exact Int.mul_ediv_cancel_left _ (by omega)
  have hq0 : 0 < q := by
    have : 0 < f.2 * q := by omega
    exact Int.pos_of_mul_pos_right this (by omega)
  rw [hqe]
  have hpos := h.pos
  have hsd : 0 < s.2 * d := Int.mul_pos hpos t1
  refine ⟨p1, ?_, p3, ?_, ?_⟩
  · have a1 : s.2 * d ≤ s.2 * 100 := Int.mul_le_mul_of_nonneg_left (by omega) (by omega)
    have a2 := h.le
    have a3 : (100 : Int) ^ (i + 1) = 100 ^ i * 100 := Int.pow_succ _ _
    have a4 : s.2 * 100 ≤ 100 ^ i * 100 := Int.mul_le_mul_of_nonneg_right a2 (by omega)
    omega
  · refine cancelE hsd ?_
    have v := h.val
    have e1 : s.2 * d * (s'.1 * L) = (s'.1 * (s.2 * d)) * L := by grind
    have e2 : n * L = x * f.1 * d * q := by rw [hq, ← Int.mul_assoc, t4]
    have e3 : (s.1 * d + n * s.2) * s'.2 * L = (s.1 * L) * d * s'.2 + (n * L) * s.2 * s'.2 := by grind
    rw [e1, p4, e3, v, e2]
    grind
  · have b := h.bd
    have c1 : (q * f.1 * x).natAbs ≤ 4000 * L.natAbs := by
      have hfx : (q * f.1).natAbs ≤ 100 * L.natAbs := by
        have m1 : q * f.1 ≤ q * (100 * f.2) := Int.mul_le_mul_of_nonneg_left f4 (by omega)
        have m2 : 0 ≤ q * f.1 := Int.mul_nonneg (by omega) f3
        have m3 : q * (100 * f.2) = 100 * L := by rw [hq]; grind
        omega
      rw [Int.natAbs_mul]
      have m4 : x.natAbs ≤ 40 := by omega
      have := Nat.mul_le_mul hfx m4
      omega
    have c2 := Int.natAbs_add_le T (q * f.1 * x)
    have c3 : 4000 * (i + 1) * L.natAbs = 4000 * i * L.natAbs + 4000 * L.natAbs := by rw [Nat.mul_add, Nat.add_mul]
    omega
end Go.Lt.P2
