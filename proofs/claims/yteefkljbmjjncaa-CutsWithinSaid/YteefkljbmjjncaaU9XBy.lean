/- PLAIN LAWS OF WHAT IS COMPUTED, for the statement 'CutsWithin'. Nothing is asked of the input. -/
import Derived.Test.YteefkljbmjjncaaG9A
import Derived.Test.YteefkljbmjjncaaLB
set_option linter.unusedVariables false
set_option linter.unusedSimpArgs false
namespace Go.Lt.P2
open Go Go.Lt Go.Proofs
abbrev Pr := Int × Int
abbrev Sd := Int × Int × Int
theorem mul_bd {x y A B : Int} (h1 : -A ≤ x) (h2 : x ≤ A) (h3 : -B ≤ y) (h4 : y ≤ B) : -(A * B) ≤ x * y ∧ x * y ≤ A * B := by
  have p1 : 0 ≤ (A - x) * (B - y) := Int.mul_nonneg (by omega) (by omega)
  have p2 : 0 ≤ (A + x) * (B + y) := Int.mul_nonneg (by omega) (by omega)
  have p3 : 0 ≤ (A - x) * (B + y) := Int.mul_nonneg (by omega) (by omega)
  have p4 : 0 ≤ (A + x) * (B - y) := Int.mul_nonneg (by omega) (by omega)
  constructor <;> grind
theorem gcd_step (a b : Nat) : Nat.gcd b (a % b) = Nat.gcd a b := by
  rw [Nat.gcd_comm a b, Nat.gcd_rec b a, Nat.gcd_comm]
theorem w64_abs {a : Int} (ha : a.natAbs < 9223372036854775808) : (if a < w64 (0 - a) then w64 (0 - a) else a) = (a.natAbs : Int) := by
  rw [w64_id (by omega) (by omega)]
  split <;> omega
/-- a side -/
def sideP (s : Sd) : Prop := (-4 ≤ s.1 ∧ s.1 ≤ 4) ∧ (-4 ≤ s.2.1 ∧ s.2.1 ≤ 4) ∧ ¬ (s.1 = 0 ∧ s.2.1 = 0) ∧ (-40 ≤ s.2.2 ∧ s.2.2 ≤ 40)
instance (s : Sd) : Decidable (sideP s) := by unfold sideP; infer_instance
theorem sts3 (H : Hp) (x y z a b c : AV) : ∃ D, (H.push (.cells [a, b, c] false)).sts H.n 0 [x, y, z] = some D ∧ D.get H.n = some (.cells [x, y, z] false) ∧ Gr H D ∧ D.n = H.n + 1 := by
  obtain ⟨D, h1, h2, h3, h4⟩ := sts_blk [x, y, z] 0 (H.push (.cells [a, b, c] false)) [a, b, c] (Hp.get_push_new _ _) (by simp)
  refine ⟨D, h1, h2, ⟨by rw [h3]; simp, fun q hq => ?_⟩, by rw [h3]; simp⟩
  rw [h4 q (by omega), Hp.get_push_old _ _ hq]
end Go.Lt.P2

namespace Go.Lt.P2
open Go Go.Lt Go.Proofs
theorem gcdI {H : Hp} : ∀ (K : Nat) (a b : Int), b.natAbs < K → a.natAbs < 9223372036854775808 → b.natAbs < 9223372036854775808 → r94_l0 K a b H = some ((Nat.gcd a.natAbs b.natAbs : Int), H) := by
  intro K
  induction K with
  | zero => intro a b h; omega
  | succ K ih =>
    intro a b h ha hb
    rw [r94_l0]
    by_cases h0 : b = 0
    · subst h0
      rw [if_neg (by simp), w64Abs ha]
      simp
    · have hm := Nat.mod_lt a.natAbs (show 0 < b.natAbs by omega)
      have e := Int.natAbs_tmod a b
      rw [if_pos h0, ck, if_pos h0, ih b (Int.tmod a b) (by omega) hb (by omega), e, gcd_step]
/-- frac -/
theorem r100_q {a b : Int} (ha : a.natAbs < 9223372036854775807) (hb : b ≠ 0) (hb2 : b.natAbs < 9223372036854775807) (H : Hp) : Ok (r100 a b H) fun r _ => r = fq (dv a b) := by
  have key : ∀ {a b : Int} {A : Hp} {E : List (Nat × List AV)}, a.natAbs < 9223372036854775808 → 0 < b → b < 9223372036854775808 → Cx H A ((H.n, [.int .i64 0, .int .i64 0]) :: E) → Ok (r100_j0 a b H.n A) fun r _ => r = fq (dv a b) := fun {a b A E} ha hb hb2 c => by
    have hg : 0 < Nat.gcd a.natAbs b.natAbs := Nat.gcd_pos_of_pos_right _ (by omega)
    unfold r100_j0
    refine Ok.own (b := (Nat.gcd a.natAbs b.natAbs : Int)) ⟨_, _, gcdI FUEL a b (by unfold FUEL; omega) ha (by omega), rfl⟩ fun X => ?_
    dsimp only
    rw [tdivSmall ha, tdivSmall (by omega)]
    refine Ok.ck (by omega) (Ok.ck (by omega) (Ok.cst c 0 rfl rfl fun D _ _ c => ?_))
    refine Ok.cld c (.head _) rfl (Ok.cld c (.head _) rfl (Ok.ret ?_))
    rw [fq_gcdv hb]
  unfold r100
  refine Ok.box (.nil H) fun A _ c => Ok.ite (fun h => ?_) fun h => ?_
  · rw [w64_id (by omega) (by omega), w64_id (by omega) (by omega)]
    have e : dv a b = dv (0 - a) (0 - b) := by rw [Int.zero_sub, Int.zero_sub, dv_neg]
    rw [e]
    exact key (by omega) (by omega) (by omega) c
  · exact key (by omega) (by omega) (by omega) c
theorem r100_int {a : Int} (ha : a.natAbs < 9223372036854775807) (H : Hp) : Ok (r100 a 1 H) fun r _ => r = fq (a : Rat) := by
  have := r100_q (a := a) (b := 1) ha (by decide) (by decide) H
  rw [dv_int] at this
  exact this
/-- compare -/
theorem r84_q (a b : Int) : Ok (r84 a b H0) fun r _ => r = if a < b then -1 else if b < a then 1 else 0 := by
  unfold r84 r107
  refine Ok.own (b := false) (Ok.ret (by simp)) fun X => Ok.own (b := false) (Ok.ret (by simp)) fun Y => Ok.neg (by simp) (Ok.neg (by simp) ?_)
  refine Ok.ite (fun c => Ok.ret (by rw [if_pos c])) fun c => Ok.ite (fun d => Ok.ret (by rw [if_neg c, if_pos d])) fun d => Ok.ret (by rw [if_neg c, if_neg d])
theorem r89_q {N D N' D' : Int} {p q : Rat} (hp : qb N D p) (hq : qb N' D' q) (h1 : N * D' < 9223372036854775808) (h2 : N' * D < 9223372036854775808) : Ok (r89 (fq p).1 (fq p).2 (fq q).1 (fq q).2 H0) fun r _ => r = cmpq p q := by
  obtain ⟨a1, a2, a3⟩ := hp
  obtain ⟨k1, k2, k3⟩ := hq
  have ap := fq_pos p
  have kp := fq_pos q
  have b1 := mulBd (A := N) (B := D') (x := (fq p).1) (y := (fq q).2) a1 a2 (by omega) k3
  have b3 := mulBd (A := N') (B := D) (x := (fq q).1) (y := (fq p).2) k1 k2 (by omega) a3
  unfold r89
  refine Ok.lt (Ok.ld rfl (Ok.ld rfl (Ok.ld rfl (Ok.ld rfl ?_))))
  rw [w64_id (by omega) (by omega), w64_id (by omega) (by omega)]
  refine Ok.own (r84_q _ _) fun X => Ok.ret ?_
  dsimp only
  unfold cmpq
  simp only [fq_lt]
/-- plus, times -/
theorem r98_q {p q : Rat} {N D N' D' : Int} (hp : qb N D p) (hq : qb N' D' q) (h1 : N * D' < 1000000000000000000) (h2 : N' * D < 1000000000000000000) (h3 : D * D' < 1000000000000000000) : Ok (r98 (fq p).1 (fq p).2 (fq q).1 (fq q).2 H0) fun r _ => r = fq (p + q) := by
  have e := fq_add p q
  obtain ⟨a1, a2, a3⟩ := hp
  obtain ⟨k1, k2, k3⟩ := hq
  have ap := fq_pos p
  have kp := fq_pos q
  have b1 := mulBd (A := N) (B := D') (x := (fq p).1) (y := (fq q).2) a1 a2 (by omega) k3
  have b2 := mulBd (A := N') (B := D) (x := (fq q).1) (y := (fq p).2) k1 k2 (by omega) a3
  have b3 := mulBd (A := D) (B := D') (x := (fq p).2) (y := (fq q).2) (by omega) a3 (by omega) k3
  have b4 := Int.mul_pos ap kp
  unfold r98
  refine Ok.box3 (.nil H0) fun A _ c => Ok.cld c (.tail _ (.tail _ (.head _))) rfl (Ok.cld c (.tail _ (.head _)) rfl (Ok.cld c (.tail _ (.head _)) rfl (Ok.cld c (.tail _ (.tail _ (.head _))) rfl (Ok.cld c (.tail _ (.tail _ (.head _))) rfl (Ok.cld c (.tail _ (.head _)) rfl ?_)))))
  rw [w64_id (n := (fq p).1 * (fq q).2) (by omega) (by omega), w64_id (n := (fq q).1 * (fq p).2) (by omega) (by omega), w64_id (n := (fq p).2 * (fq q).2) (by omega) (by omega), w64_id (by omega) (by omega)]
  refine Ok.own (r100_q (by omega) (by omega) (by omega) H0) fun X => ?_
  rw [e]
  exact Ok.cst c 0 rfl rfl fun B _ _ c => Ok.cld c (.head _) rfl (Ok.cld c (.head _) rfl (Ok.ret rfl))
theorem r99_q {q : Rat} {k K N D : Int} (hk : -K ≤ k ∧ k ≤ K) (hq : qb N D q) (h1 : K * N < 1000000000000000000) (h2 : D < 1000000000000000000) : Ok (r99 k (fq q).1 (fq q).2 H0) fun r _ => r = fq ((k : Rat) * q) := by
  obtain ⟨k1, k2, k3⟩ := hq
  have kp := fq_pos q
  have b1 := mulBd (A := K) (B := N) (x := k) (y := (fq q).1) hk.1 hk.2 k1 k2
  have e : dv (k * (fq q).1) (fq q).2 = (k : Rat) * q := by
    have := dv_mul (a := k) (b := 1) (c := (fq q).1) (d := (fq q).2) (by decide) kp
    rw [Int.one_mul, dv_fq, dv_int] at this
    exact this
  unfold r99
  refine Ok.box2 (.nil H0) fun A _ c => Ok.cld c (.tail _ (.head _)) rfl (Ok.cld c (.tail _ (.head _)) rfl ?_)
  rw [w64_id (by omega) (by omega)]
  refine Ok.own (r100_q (by omega) (by omega) (by omega) H0) fun X => ?_
  rw [e]
  exact Ok.cst c 0 rfl rfl fun B _ _ c => Ok.cld c (.head _) rfl (Ok.cld c (.head _) rfl (Ok.ret rfl))
/-- points of the plane -/
abbrev Pq := Rat × Rat
def pt (p : Pq) : Int × Int × Int × Int := ((fq p.1).1, (fq p.1).2, (fq p.2).1, (fq p.2).2)
def pc4 (p : Pq) : List AV := [.int .i64 (fq p.1).1, .int .i64 (fq p.1).2, .int .i64 (fq p.2).1, .int .i64 (fq p.2).2]
def sc (s : Sd) : List AV := [.int .i64 s.1, .int .i64 s.2.1, .int .i64 s.2.2]
def qp (p : Pq) : Prop := qb 10000 100 p.1 ∧ qb 10000 100 p.2
def atq (a b : Int) (p : Pq) : Rat := (a : Rat) * p.1 + (b : Rat) * p.2
def lqs (s : Sd) (p : Pq) : Prop := atq s.1 s.2.1 p ≤ (s.2.2 : Rat)
instance (s : Sd) (p : Pq) : Decidable (lqs s p) := by unfold lqs; infer_instance
def inP (l : List Sd) (p : Pq) : Prop := ∀ s ∈ l, lqs s p
instance (l : List Sd) (p : Pq) : Decidable (inP l p) := by unfold inP; infer_instance
theorem atq_qb {a b : Int} {p : Pq} (ha : -24 ≤ a ∧ a ≤ 24) (hb : -24 ≤ b ∧ b ≤ 24) (hp : qp p) : qb 48000000 10000 (atq a b p) := by
  have h1 := (qb_int (a := a) (N := 24) (D := 1) (by omega) (by omega) (by omega)).mul hp.1
  have h2 := (qb_int (a := b) (N := 24) (D := 1) (by omega) (by omega) (by omega)).mul hp.2
  exact (h1.add h2).mono (by decide) (by decide)
/-- at -/
theorem r69_q {a b c : Int} {p : Pq} (ha : -24 ≤ a ∧ a ≤ 24) (hb : -24 ≤ b ∧ b ≤ 24) (hp : qp p) : Ok (r69 a b c (fq p.1).1 (fq p.1).2 (fq p.2).1 (fq p.2).2 H0) fun r _ => r = fq (atq a b p) := by
  have h1 := (qb_int (a := a) (N := 24) (D := 1) (by omega) (by omega) (by omega)).mul hp.1
  have h2 := (qb_int (a := b) (N := 24) (D := 1) (by omega) (by omega) (by omega)).mul hp.2
  unfold r69
  refine Ok.box3 (.nil H0) fun A _ c => Ok.cld c (.tail _ (.tail _ (.head _))) rfl (Ok.cld c (.tail _ (.head _)) rfl (Ok.cld c (.tail _ (.head _)) rfl (Ok.own (r99_q (K := 24) (by omega) hp.1 (by decide) (by decide)) fun X => ?_)))
  refine Ok.cld c (.tail _ (.tail _ (.head _))) rfl (Ok.cld c (.tail _ (.head _)) rfl (Ok.cld c (.tail _ (.head _)) rfl (Ok.own (r99_q (K := 24) (by omega) hp.2 (by decide) (by decide)) fun X => ?_)))
  refine Ok.own (r98_q h1 h2 (by decide) (by decide) (by decide)) fun X => ?_
  exact Ok.cst c 0 rfl rfl fun B _ _ c => Ok.cld c (.head _) rfl (Ok.cld c (.head _) rfl (Ok.ret rfl))
/-- keeps -/
theorem r70_q {a b c : Int} {p : Pq} (ha : -24 ≤ a ∧ a ≤ 24) (hb : -24 ≤ b ∧ b ≤ 24) (hc : -100000000 ≤ c ∧ c ≤ 100000000) (hp : qp p) : Ok (r70 a b c (fq p.1).1 (fq p.1).2 (fq p.2).1 (fq p.2).2 H0) fun r _ => r = decide (lqs (a, b, c) p) := by
  unfold r70
  refine Ok.box2 (.nil H0) fun A _ cx => Ok.cld cx (.tail _ (.head _)) rfl (Ok.cld cx (.tail _ (.head _)) rfl (Ok.cld cx (.tail _ (.head _)) rfl (Ok.cld cx (.head _) rfl (Ok.cld cx (.head _) rfl (Ok.cld cx (.head _) rfl (Ok.cld cx (.head _) rfl (Ok.own (r69_q ha hb hp) fun X => ?_)))))))
  refine Ok.cld cx (.tail _ (.head _)) rfl (Ok.own (r100_int (by omega) H0) fun X => Ok.own (r89_q (atq_qb ha hb hp) (qb_int (a := c) (N := 100000000) (D := 1) (by omega) (by omega) (by omega)) (by decide) (by decide)) fun X => Ok.ret ?_)
  exact decide_eq_decide.2 cmp_le
end Go.Lt.P2

namespace Go.Lt.P2
open Go Go.Lt Go.Proofs
def crI (s t : Sd) : Int := s.1 * t.2.1 - s.2.1 * t.1
def meetq (s t : Sd) : Pq := (dv (s.2.2 * t.2.1 - t.2.2 * s.2.1) (crI s t), dv (s.1 * t.2.2 - t.1 * s.2.2) (crI s t))
theorem r97_ok {a b c d : Int} (ha : -1000000000 ≤ a ∧ a ≤ 1000000000) (hb : -1000000000 ≤ b ∧ b ≤ 1000000000) (hc : -1000000000 ≤ c ∧ c ≤ 1000000000) (hd : -1000000000 ≤ d ∧ d ≤ 1000000000) : Ok (r97 a b c d H0) fun r _ => r = a * d - b * c := by
  have b1 := mul_bd (A := 1000000000) (B := 1000000000) (x := a) (y := d) (by omega) (by omega) (by omega) (by omega)
  have b2 := mul_bd (A := 1000000000) (B := 1000000000) (x := b) (y := c) (by omega) (by omega) (by omega) (by omega)
  unfold r97
  rw [w64_id (n := a * d) (by omega) (by omega), w64_id (n := b * c) (by omega) (by omega), w64_id (by omega) (by omega)]
  exact Ok.ret rfl
theorem meet_bd {s t : Sd} (hs : sideP s) (ht : sideP t) : (-32 ≤ crI s t ∧ crI s t ≤ 32) ∧ (-160 ≤ s.2.2 * t.2.1 ∧ s.2.2 * t.2.1 ≤ 160) ∧ (-160 ≤ t.2.2 * s.2.1 ∧ t.2.2 * s.2.1 ≤ 160) ∧ (-160 ≤ s.1 * t.2.2 ∧ s.1 * t.2.2 ≤ 160) ∧ (-160 ≤ t.1 * s.2.2 ∧ t.1 * s.2.2 ≤ 160) := by
  unfold sideP at hs ht
  have b1 := mul_bd (A := 4) (B := 4) (x := s.1) (y := t.2.1) (by omega) (by omega) (by omega) (by omega)
  have b2 := mul_bd (A := 4) (B := 4) (x := s.2.1) (y := t.1) (by omega) (by omega) (by omega) (by omega)
  have b3 := mul_bd (A := 40) (B := 4) (x := s.2.2) (y := t.2.1) (by omega) (by omega) (by omega) (by omega)
  have b4 := mul_bd (A := 40) (B := 4) (x := t.2.2) (y := s.2.1) (by omega) (by omega) (by omega) (by omega)
  have b5 := mul_bd (A := 4) (B := 40) (x := s.1) (y := t.2.2) (by omega) (by omega) (by omega) (by omega)
  have b6 := mul_bd (A := 4) (B := 40) (x := t.1) (y := s.2.2) (by omega) (by omega) (by omega) (by omega)
  unfold crI
  omega
theorem qb_dvn {a b N D : Int} (hb : b ≠ 0) (h : -N ≤ a) (h2 : a ≤ N) (hD : -D ≤ b) (hD2 : b ≤ D) : qb N D (dv a b) := by
  by_cases h0 : 0 < b
  · exact qb_dv h0 h h2 hD2
  · rw [← dv_neg]
    exact qb_dv (by omega) (by omega) (by omega) (by omega)
theorem meet_qb {s t : Sd} (hs : sideP s) (ht : sideP t) (h : crI s t ≠ 0) : qb 320 32 (meetq s t).1 ∧ qb 320 32 (meetq s t).2 := by
  have b := meet_bd hs ht
  exact ⟨qb_dvn h (by omega) (by omega) (by omega) (by omega), qb_dvn h (by omega) (by omega) (by omega) (by omega)⟩
theorem meet_qp {s t : Sd} (hs : sideP s) (ht : sideP t) (h : crI s t ≠ 0) : qp (meetq s t) :=
  have b := meet_qb hs ht h
  ⟨b.1.mono (by decide) (by decide), b.2.mono (by decide) (by decide)⟩
theorem meet_on {s t : Sd} (h : crI s t ≠ 0) : atq s.1 s.2.1 (meetq s t) = (s.2.2 : Rat) ∧ atq t.1 t.2.1 (meetq s t) = (t.2.2 : Rat) := by
  have h0 := cast_ne h
  unfold meetq atq dv
  have e : ((crI s t : Int) : Rat) = (s.1 : Rat) * t.2.1 - (s.2.1 : Rat) * t.1 := by unfold crI; push_cast; rfl
  rw [e] at h0 ⊢
  push_cast
  constructor <;> grind
theorem crI_sym (s t : Sd) : crI t s = -crI s t := by unfold crI; grind
theorem meet_sym (s t : Sd) : meetq t s = meetq s t := by
  unfold meetq
  rw [crI_sym]
  rw [← dv_neg (s.2.2 * t.2.1 - t.2.2 * s.2.1), ← dv_neg (s.1 * t.2.2 - t.1 * s.2.2)]
  congr 2 <;> grind
/-- meet -/
theorem r96_ok {s t : Sd} (hs : sideP s) (ht : sideP t) : Ok (r96 s.1 s.2.1 s.2.2 t.1 t.2.1 t.2.2 H0) fun r _ => r = if crI s t = 0 then (0, 0, 0, 0, false) else ((fq (meetq s t).1).1, (fq (meetq s t).1).2, (fq (meetq s t).2).1, (fq (meetq s t).2).2, true) := by
  have b := meet_bd hs ht
  have hs' := hs
  have ht' := ht
  unfold sideP at hs' ht'
  unfold r96
  refine Ok.box3 (.nil H0) fun A _ c => ?_
  refine Ok.cld c (.tail _ (.tail _ (.head _))) rfl (Ok.cld c (.tail _ (.tail _ (.head _))) rfl (Ok.cld c (.tail _ (.head _)) rfl (Ok.cld c (.tail _ (.head _)) rfl (Ok.own (r97_ok (by omega) (by omega) (by omega) (by omega)) fun X => ?_))))
  show Ok (if crI s t = 0 then _ else _) _
  refine Ok.ite (fun h => ?_) fun h => ?_
  · simp only [if_pos h]
    refine Ok.cst c 0 rfl rfl fun B _ _ c => ?_
    exact Ok.cld c (.head _) rfl (Ok.cld c (.head _) rfl (Ok.cld c (.head _) rfl (Ok.cld c (.head _) rfl (Ok.ret rfl))))
  · simp only [if_neg h]
    refine Ok.cld c (.tail _ (.tail _ (.head _))) rfl (Ok.cld c (.tail _ (.head _)) rfl (Ok.cld c (.tail _ (.head _)) rfl (Ok.cld c (.tail _ (.tail _ (.head _))) rfl ?_)))
    rw [w64_id (n := s.2.2 * _) (by omega) (by omega), w64_id (n := t.2.2 * _) (by omega) (by omega), w64_id (by omega) (by omega)]
    refine Ok.own (r100_q (by omega) h (by show (crI s t).natAbs < _; omega) H0) fun X => ?_
    refine Ok.cld c (.tail _ (.tail _ (.head _))) rfl (Ok.cld c (.tail _ (.head _)) rfl (Ok.cld c (.tail _ (.head _)) rfl (Ok.cld c (.tail _ (.tail _ (.head _))) rfl ?_)))
    rw [w64_id (n := s.1 * _) (by omega) (by omega), w64_id (n := t.1 * _) (by omega) (by omega), w64_id (by omega) (by omega)]
    refine Ok.own (r100_q (by omega) h (by show (crI s t).natAbs < _; omega) H0) fun X => ?_
    refine Ok.cst c 0 rfl rfl fun B _ _ c => ?_
    exact Ok.cld c (.head _) rfl (Ok.cld c (.head _) rfl (Ok.cld c (.head _) rfl (Ok.cld c (.head _) rfl (Ok.ret rfl))))
end Go.Lt.P2

namespace Go.Lt.P2
open Go Go.Lt Go.Proofs
theorem awakeH0 : ((r21 (app 20) H0).map (·.1)) = some true := by decide +kernel
/-- awake is known -/
noncomputable def appA (k : Nat) : App := ⟨fun f xs H => match f, xs with
  | 21, [] => some (.bool true, H)
  | f, xs => app k f xs H, (app k).yld⟩
theorem appASim (k : Nat) : AppSim Try.prog (appA k) := by
  refine ⟨fun f xs H v H1 h => ?_, (appSim k).2⟩
  unfold appA at h
  simp only at h
  split at h
  · injection h with h
    injection h with h1 h2
    subst h1; subst h2
    obtain ⟨p, hp, he⟩ := Option.map_eq_some_iff.1 awakeH0
    have := sim21 (happ := appSim 20) hp
    rw [he] at this
    exact ⟨ok21, this.own rfl rfl H⟩
  · exact (appSim k).1 _ _ _ _ _ h
end Go.Lt.P2

namespace Go.Lt.P2
open Go Go.Lt Go.Proofs
/-- a side's direction leads out of the plate at both of its ends -/
def dirP (l : List Sd) (d : Pr) : Prop := ∃ t ∈ l, 0 < t.1 * d.1 + t.2.1 * d.2
instance (l : List Sd) (d : Pr) : Decidable (dirP l d) := by unfold dirP; infer_instance
def plateP (l : List Sd) : Prop := (3 ≤ l.length ∧ l.length ≤ 6) ∧ (∀ s ∈ l, sideP s) ∧ ∀ s ∈ l, dirP l (-s.2.1, s.1) ∧ dirP l (s.2.1, -s.1)
instance (l : List Sd) : Decidable (plateP l) := by unfold plateP; infer_instance
theorem forall_take {α : Type} {l : List α} {i : Nat} {P : α → Prop} (h : i < l.length) (h1 : ∀ x ∈ l.take i, P x) (h2 : P l[i]) : ∀ x ∈ l.take (i + 1), P x := by
  rw [List.take_succ_eq_append_getElem h]
  intro x hx
  rcases List.mem_append.1 hx with hx | hx
  · exact h1 x hx
  · rw [List.mem_singleton] at hx; subst hx; exact h2
/-- a function value that says something of each element, from a heap on -/
def Says {T : Type} [El T] (a : App) (fv : AV) (B : Hp) (arg : T → AV) (P : T → Prop) [DecidablePred P] (D : T → Prop) : Prop := ∀ H x, Gr B H → D x → Ok (callv a fv [arg x] H) fun r H' => Gr H H' ∧ r = .bool (decide (P x))
def argI (x : Int) : AV := .int .i64 x
def argP (x : Pr) : AV := .agg [.int .i64 x.1, .int .i64 x.2]
def argS (x : Sd) : AV := .agg [.int .i64 x.1, .int .i64 x.2.1, .int .i64 x.2.2]
section
variable {a : App} {fv : AV} {B : Hp}
theorem r105_ok {P : Int → Prop} [DecidablePred P] {D : Int → Prop} (hf : Says a fv B argI P D) {v : Sl} {l : List Int} (hv : SL B v l) (hb : l.length ≤ 1000000) (hD : ∀ x ∈ l, D x) : Ok (r105 a v fv B) fun r H' => Gr B H' ∧ r = decide (∃ x ∈ l, P x) := by
  unfold r105
  refine Ok.bind (P := fun r H' => Gr B H' ∧ (0 ≤ r ↔ ∃ x ∈ l, P x)) ?_ fun r H' h => Ok.ret ⟨h.1, decide_eq_decide.2 h.2⟩
  unfold r113
  have hlen := hv.len
  rw [hlen]
  refine Ok.loop (L := fun K (s : Int) H2 => r113_l0 a K v fv l.length s H2) (fun m s H' => Gr B H' ∧ ∃ i : Nat, s = i ∧ i + m = l.length ∧ ∀ x ∈ l.take i, ¬ P x) ?_ FUEL l.length 0 B (by unfold FUEL; omega) ⟨.refl _, 0, rfl, by omega, by simp⟩
  rintro K m s H1 ⟨g1, i, rfl, hm, ht⟩ ih
  try dsimp only at *
  rw [r113_l0]
  by_cases h : i < l.length
  · have hg := hv.gr g1
    refine Ok.pos (by omega) (Ok.ck (by omega) (Ok.ld (hg.ldI (i := i) (j := 0) h rfl) (Ok.bind (hf H1 l[i] g1 (hD _ (List.getElem_mem h))) fun r H2 ⟨g2, hr⟩ => ?_)))
    subst hr
    refine Ok.ld rfl (Ok.ite (fun c => Ok.ret ⟨g1.trans g2, ⟨fun _ => ⟨l[i], List.getElem_mem h, of_decide_eq_true c⟩, fun _ => by omega⟩⟩) fun c => ?_)
    rw [w64_succ (by omega)]
    exact ih (m - 1) _ H2 (by omega) ⟨g1.trans g2, i + 1, rfl, by omega, forall_take h ht (fun p => c (decide_eq_true p))⟩
  · rw [List.take_of_length_le (by omega)] at ht
    exact Ok.neg (by omega) (Ok.ret ⟨g1, ⟨fun q => by omega, fun ⟨x, hx, hp⟩ => absurd hp (ht x hx)⟩⟩)
theorem r92_ok {P : Sd → Prop} [DecidablePred P] {D : Sd → Prop} (hf : Says a fv B argS P D) {v : Sl} {l : List Sd} (hv : SL B v l) (hb : l.length ≤ 1000000) (hD : ∀ x ∈ l, D x) : Ok (r92 a v fv B) fun r H' => Gr B H' ∧ r = decide (∃ x ∈ l, P x) := by
  unfold r92
  refine Ok.bind (P := fun r H' => Gr B H' ∧ (0 ≤ r ↔ ∃ x ∈ l, P x)) ?_ fun r H' h => Ok.ret ⟨h.1, decide_eq_decide.2 h.2⟩
  unfold r111
  have hlen := hv.len
  rw [hlen]
  refine Ok.loop (L := fun K (s : Int) H2 => r111_l0 a K v fv l.length s H2) (fun m s H' => Gr B H' ∧ ∃ i : Nat, s = i ∧ i + m = l.length ∧ ∀ x ∈ l.take i, ¬ P x) ?_ FUEL l.length 0 B (by unfold FUEL; omega) ⟨.refl _, 0, rfl, by omega, by simp⟩
  rintro K m s H1 ⟨g1, i, rfl, hm, ht⟩ ih
  try dsimp only at *
  rw [r111_l0]
  by_cases h : i < l.length
  · have hg := hv.gr g1
    refine Ok.pos (by omega) (Ok.ck (by omega) (Ok.ld (hg.ldI (i := i) (j := 0) h rfl) (Ok.ld (hg.ldI (i := i) (j := 1) h rfl) (Ok.ld (hg.ldI (i := i) (j := 2) h rfl) (Ok.bind (hf H1 l[i] g1 (hD _ (List.getElem_mem h))) fun r H2 ⟨g2, hr⟩ => ?_)))))
    subst hr
    refine Ok.ld rfl (Ok.ite (fun c => Ok.ret ⟨g1.trans g2, ⟨fun _ => ⟨l[i], List.getElem_mem h, of_decide_eq_true c⟩, fun _ => by omega⟩⟩) fun c => ?_)
    rw [w64_succ (by omega)]
    exact ih (m - 1) _ H2 (by omega) ⟨g1.trans g2, i + 1, rfl, by omega, forall_take h ht (fun p => c (decide_eq_true p))⟩
  · rw [List.take_of_length_le (by omega)] at ht
    exact Ok.neg (by omega) (Ok.ret ⟨g1, ⟨fun q => by omega, fun ⟨x, hx, hp⟩ => absurd hp (ht x hx)⟩⟩)
end
/-- within -/
theorem r79_ok {k : Nat} {c : Int} (hc : 0 ≤ c ∧ c ≤ 1000) {B : Hp} {v : Sl} {l : List Int} (hv : SL B v l) (hb : l.length ≤ 1000000) : Ok (r79 (appA (k + 1)) c v B) fun r H' => Gr B H' ∧ r = !decide (∃ x ∈ l, x < -c ∨ c < x) := by
  unfold r79
  have gp := Gr.push B (.cells [.int .i64 c] false)
  have g0 : (B.push (.cells [.int .i64 c] false)).get B.n = some (.cells [.int .i64 c] false) := Hp.get_push_new _ _
  generalize B.push (.cells [.int .i64 c] false) = A at *
  refine Ok.lt ?_
  have hsay : Says (appA (k + 1)) (.fn 106 [] [.ptr B.n 0]) A argI (fun x => x < -c ∨ c < x) fun _ => True := fun H x g _ => by
    show Ok ((r106 x B.n H).map fun p => (AV.bool p.1, p.2)) _
    have h0 : H.get B.n = some (.cells [.int .i64 c] false) := by rw [g.2 _ (Hp.get_lt g0)]; exact g0
    have h1 : Ok (r106 x B.n H) fun r H' => H' = H ∧ r = decide (x < -c ∨ c < x) := by
      unfold r106
      refine Ok.ld (ldI_get h0 rfl) ?_
      rw [w64_id (by omega) (by omega)]
      refine Ok.ite (fun q => Ok.ret ⟨rfl, by symm; rw [decide_eq_true_iff]; omega⟩) fun q => Ok.ld (ldI_get h0 rfl) (Ok.ret ⟨rfl, decide_eq_decide.2 (by omega)⟩)
    obtain ⟨r, H', e, rfl, rfl⟩ := h1
    rw [e]
    exact Ok.ret ⟨.refl _, rfl⟩
  exact Ok.bind (r105_ok hsay (hv.gr gp) hb fun _ _ => trivial) fun r H' ⟨g, hr⟩ => Ok.ret ⟨gp.trans g, by rw [hr]⟩
theorem says93 (k : Nat) {B : Hp} {c : Nat} {d : Pr} (h0 : B.get c = some (.cells [.int .i64 d.1, .int .i64 d.2] false)) (hd : (-4 ≤ d.1 ∧ d.1 ≤ 4) ∧ -4 ≤ d.2 ∧ d.2 ≤ 4) : Says (appA (k + 1)) (.fn 93 [] [.ptr c 0]) B argS (fun t => 0 < t.1 * d.1 + t.2.1 * d.2) sideP := fun H x g hx => by
  show Ok ((r93 x.1 x.2.1 x.2.2 c H).map fun p => (AV.bool p.1, p.2)) _
  have h1 : Ok (r93 x.1 x.2.1 x.2.2 c H) fun r H' => Gr H H' ∧ r = decide (0 < x.1 * d.1 + x.2.1 * d.2) := by
    unfold r93
    have hc : H.get c = some (.cells [.int .i64 d.1, .int .i64 d.2] false) := by rw [g.2 _ (Hp.get_lt h0)]; exact h0
    have gp := Gr.push H (.cells [.int .i64 x.1, .int .i64 x.2.1, .int .i64 x.2.2] false)
    have g0 : (H.push (.cells [.int .i64 x.1, .int .i64 x.2.1, .int .i64 x.2.2] false)).get H.n = some (.cells [.int .i64 x.1, .int .i64 x.2.1, .int .i64 x.2.2] false) := Hp.get_push_new _ _
    have hc2 : (H.push (.cells [.int .i64 x.1, .int .i64 x.2.1, .int .i64 x.2.2] false)).get c = some (.cells [.int .i64 d.1, .int .i64 d.2] false) := by rw [gp.2 _ (Hp.get_lt hc)]; exact hc
    refine Ok.lt (Ok.ld (ldI_get g0 rfl) (Ok.ld (ldI_get hc2 rfl) (Ok.ld (ldI_get g0 rfl) (Ok.ld (ldI_get hc2 rfl) ?_))))
    unfold sideP at hx
    have b1 := mul_bd (A := 4) (B := 4) (x := x.1) (y := d.1) (by omega) (by omega) (by omega) (by omega)
    have b2 := mul_bd (A := 4) (B := 4) (x := x.2.1) (y := d.2) (by omega) (by omega) (by omega) (by omega)
    rw [w64_id (n := x.1 * d.1) (by omega) (by omega), w64_id (n := x.2.1 * d.2) (by omega) (by omega), w64_id (by omega) (by omega)]
    exact Ok.ret ⟨gp, rfl⟩
  obtain ⟨r, H', e, g2, rfl⟩ := h1
  rw [e]
  exact Ok.ret ⟨g2, rfl⟩
end Go.Lt.P2

namespace Go.Lt.P2
open Go Go.Lt Go.Proofs
/-- an App that knows what has calls -/
def A95 (a : App) : Prop := ∀ (s : Sd) (c : Nat) (H : Hp), callv a (.fn 95 [] [.ptr c 0]) [argS s] H = (r95 s.1 s.2.1 s.2.2 c H).map fun p => (.bool p.1, p.2)
theorem a95 (k : Nat) : A95 (app (k + 1)) := fun _ _ _ => rfl
theorem a95A (k : Nat) : A95 (appA (k + 1)) := fun _ _ _ => rfl
theorem says95 {a : App} (ha : A95 a) {B : Hp} {c : Nat} {p : Pq} (h0 : B.get c = some (.cells (pc4 p) false)) (hp : qp p) : Says a (.fn 95 [] [.ptr c 0]) B argS (fun t => ¬ lqs t p) sideP := fun H x g hx => by
  rw [ha]
  have h1 : Ok (r95 x.1 x.2.1 x.2.2 c H) fun r H' => Gr H H' ∧ r = decide (¬ lqs x p) := by
    have hc : H.get c = some (.cells (pc4 p) false) := by rw [g.2 _ (Hp.get_lt h0)]; exact h0
    unfold sideP at hx
    unfold r95
    refine Ok.box (.nil H) fun A gA cx => ?_
    have hc2 : A.get c = some (.cells (pc4 p) false) := by rw [gA.2 _ (Hp.get_lt hc)]; exact hc
    refine Ok.cld cx (.head _) rfl (Ok.cld cx (.head _) rfl (Ok.cld cx (.head _) rfl (Ok.ld (ldI_get hc2 rfl) (Ok.ld (ldI_get hc2 rfl) (Ok.ld (ldI_get hc2 rfl) (Ok.ld (ldI_get hc2 rfl) ?_))))))
    refine Ok.own (r70_q (by omega) (by omega) (by omega) hp) fun X => Ok.ret ⟨gA, ?_⟩
    dsimp only
    rw [decide_not]
  obtain ⟨r, H', e, g2, rfl⟩ := h1
  rw [e]
  exact Ok.ret ⟨g2, rfl⟩
/-- has -/
theorem r65_ok {a : App} (ha : A95 a) {H : Hp} {v : Sl} {l : List Sd} {p : Pq} (hv : SL H v l) (hb : l.length ≤ 1000) (hs : ∀ s ∈ l, sideP s) (hp : qp p) : Ok (r65 a v (fq p.1).1 (fq p.1).2 (fq p.2).1 (fq p.2).2 H) fun r H' => Gr H H' ∧ r = decide (inP l p) := by
  unfold r65
  refine Ok.box (.nil H) fun A gA c => ?_
  refine Ok.bind (r92_ok (says95 ha (p := p) (c.e _ (.head _)) hp) (hv.gr gA) (by omega) hs) fun r D ⟨gD, hr⟩ => Ok.ret ⟨gA.trans gD, ?_⟩
  rw [hr, ← decide_not]
  refine decide_eq_decide.2 ?_
  unfold inP
  constructor
  · intro h s hs'
    exact Classical.byContradiction fun q => h ⟨s, hs', q⟩
  · rintro h ⟨s, hs', q⟩
    exact q (h s hs')
end Go.Lt.P2

namespace Go.Lt.P2
open Go Go.Lt Go.Proofs
/-- what takes things one after the other: I holds while it goes on, St when it wants no more; P are blocks that it leaves alone -/
structure Yd {T : Type} (a : App) (yv : AV) (arg : T → List AV) (L : List T) (B : Hp) (I : (Nat → Prop) → List T → Hp → Prop) (St : List T → Hp → Prop) : Prop where
  grow : ∀ {P P' : Nat → Prop} {q : List T} {H H' : Hp}, I P q H → Gr H H' → (∀ b, P' b → P b ∨ (H.n ≤ b ∧ b < H'.n)) → I P' q H'
  base : ∀ {P : Nat → Prop} {q : List T} {H : Hp}, I P q H → Gr B H
  step : ∀ {P : Nat → Prop} {q : List T} {H : Hp} {x : T}, I P q H → q ++ [x] <+: L → Ok (callv a yv (arg x) H) fun r H' => H.n ≤ H'.n ∧ ((r = .bool true ∧ I P (q ++ [x]) H' ∧ ∀ b, b < H.n → P b → H'.get b = H.get b) ∨ (r = .bool false ∧ St (q ++ [x]) H'))
/-- corners, with the sides that meet there -/
abbrev Cn := Pq × Sd × Sd
def cn (l : List Sd) (s t : Sd) : Option Cn := if crI s t ≠ 0 ∧ inP l (meetq s t) then some (meetq s t, s, t) else none
def cno (l : List Sd) (i : Nat) : List Cn := (l.take i).filterMap (cn l (l[i]!))
def cs (l : List Sd) : List Cn := (List.range l.length).flatMap (cno l)
theorem range_succ_flatMap {α : Type} (f : Nat → List α) (n : Nat) : (List.range (n + 1)).flatMap f = (List.range n).flatMap f ++ f n := by
  rw [List.range_succ, List.flatMap_append, List.flatMap_singleton]
theorem cs_mem {l : List Sd} {c : Cn} (h : c ∈ cs l) : c.2.1 ∈ l ∧ c.2.2 ∈ l ∧ crI c.2.1 c.2.2 ≠ 0 ∧ c.1 = meetq c.2.1 c.2.2 ∧ inP l c.1 := by
  unfold cs at h
  obtain ⟨i, hi, h⟩ := List.mem_flatMap.1 h
  rw [List.mem_range] at hi
  unfold cno at h
  obtain ⟨t, ht, h⟩ := List.mem_filterMap.1 h
  unfold cn at h
  split at h
  · rename_i hc
    injection h with h
    subst h
    refine ⟨?_, List.mem_of_mem_take ht, hc.1, rfl, hc.2⟩
    dsimp only
    rw [getElem!_pos l i hi]
    exact List.getElem_mem hi
  · cases h
theorem mem_take_of {α : Type} {l : List α} {i j : Nat} (hj : j < l.length) (h : j < i) : l[j] ∈ l.take i :=
  List.mem_take_iff_getElem.2 ⟨j, by omega, rfl⟩
theorem mem_cs {l : List Sd} {s t : Sd} (hs : s ∈ l) (ht : t ∈ l) (h : crI s t ≠ 0) (hin : inP l (meetq s t)) : (meetq s t, s, t) ∈ cs l ∨ (meetq s t, t, s) ∈ cs l := by
  obtain ⟨i, hi, rfl⟩ := List.mem_iff_getElem.1 hs
  obtain ⟨j, hj, rfl⟩ := List.mem_iff_getElem.1 ht
  have key : ∀ {i j : Nat} (hi : i < l.length) (hj : j < l.length), j < i → crI l[i] l[j] ≠ 0 → inP l (meetq l[i] l[j]) → (meetq l[i] l[j], l[i], l[j]) ∈ cs l := fun {i j} hi hj hji hc hin => by
    unfold cs
    refine List.mem_flatMap.2 ⟨i, List.mem_range.2 hi, ?_⟩
    unfold cno
    refine List.mem_filterMap.2 ⟨l[j], mem_take_of hj hji, ?_⟩
    rw [getElem!_pos l i hi]
    unfold cn
    rw [if_pos ⟨hc, hin⟩]
  rcases Nat.lt_trichotomy j i with hji | hji | hji
  · exact .inl (key hi hj hji h hin)
  · subst hji
    exact absurd (by unfold crI; grind) h
  · right
    have := key hj hi hji (by rw [crI_sym]; omega) (by rw [meet_sym]; exact hin)
    rw [meet_sym] at this
    exact this
def argC (c : Cn) : List AV := [.agg [.int .i64 (fq c.1.1).1, .int .i64 (fq c.1.1).2, .int .i64 (fq c.1.2).1, .int .i64 (fq c.1.2).2, .int .i64 c.2.1.1, .int .i64 c.2.1.2.1, .int .i64 c.2.1.2.2, .int .i64 c.2.2.1, .int .i64 c.2.2.2.1, .int .i64 c.2.2.2.2]]
section
variable {a : App} {yv : AV} {B : Hp} {I : (Nat → Prop) → List Cn → Hp → Prop} {St : List Cn → Hp → Prop} {P : Nat → Prop} {v : Sl} {l : List Sd}
/-- one side with those before it -/
theorem r66_l1_ok (ha : A95 a) (Y : Yd a yv argC (cs l) B I St) (hv : SL B v l) (hb : l.length ≤ 1000) (hs : ∀ s ∈ l, sideP s) {i : Nat} (hi : i < l.length) {H : Hp} {c : Nat} {w : Sl} {ln : Int} {kt : Sl → AV → Sl → Int → Int → Hp → Option (Unit × Hp)} {q : List Cn} {Q : Unit → Hp → Prop}
    (hpq : q ++ cno l i <+: cs l) (hw : SL B w (l.take i)) (hI : I (fun b => P b ∨ b = c) q H) (hc : H.get c = some (.cells (sc l[i]) false)) (kS : ∀ q' H', q' <+: q ++ cno l i → St q' H' → Q () H') (kN : ∀ H', I P (q ++ cno l i) H' → Ok (kt v yv v ln ((i + 1 : Nat) : Int) H') Q) :
    Ok (r66_l1 a kt FUEL v yv c v ln i w i 0 H) Q := by
  have hlen := hw.len
  have hil : (l.take i).length = i := by rw [List.length_take]; omega
  refine Ok.loop (L := fun K (s : Int) H2 => r66_l1 a kt K v yv c v ln i w i s H2) (fun m s H' => I (fun b => P b ∨ b = c) (q ++ ((l.take i).take s.toNat).filterMap (cn l l[i])) H' ∧ H'.get c = some (.cells (sc l[i]) false) ∧ ∃ j : Nat, s = j ∧ j + m = i) ?_ FUEL i 0 H (by unfold FUEL; omega) ⟨by simpa using hI, hc, 0, rfl, by omega⟩
  rintro K m s H1 ⟨hI, hc, j, rfl, hm⟩ ih
  try dsimp only at *
  rw [r66_l1]
  rw [Int.toNat_natCast] at hI
  by_cases h : j < i
  · have hg := hw.gr (Y.base hI)
    have hj : j < (l.take i).length := by omega
    have et : (l.take i)[j] = l[j] := by rw [List.getElem_take]
    have hsl := hs _ (List.getElem_mem hi)
    have htl := hs _ (List.getElem_mem (show j < l.length by omega))
    have l0 := hg.ldI (i := j) (j := 0) (n := l[j].1) hj (by rw [et]; rfl)
    have l1 := hg.ldI (i := j) (j := 1) (n := l[j].2.1) hj (by rw [et]; rfl)
    have l2 := hg.ldI (i := j) (j := 2) (n := l[j].2.2) hj (by rw [et]; rfl)
    have cx : Cx H1 H1 [] := .nil H1
    refine Ok.pos (by omega) (Ok.ck (by omega) (Ok.ld l0 (Ok.ld l1 (Ok.ld l2 (Ok.alo cx fun D gD cx => ?_)))))
    have hcD : D.get c = some (.cells (sc l[i]) false) := by rw [cx.g.2 _ (Hp.get_lt hc)]; exact hc
    refine Ok.ld (ldI_get hcD rfl) (Ok.ld (ldI_get hcD rfl) (Ok.ld (ldI_get hcD rfl) (Ok.cld cx (.head _) rfl (Ok.cld cx (.head _) rfl (Ok.cld cx (.head _) rfl (Ok.own (r96_ok hsl htl) fun X => ?_))))))
    have eq1 : ((l.take i).take (j + 1)).filterMap (cn l l[i]) = ((l.take i).take j).filterMap (cn l l[i]) ++ (cn l l[i] l[j]).toList := by
      rw [List.take_succ_eq_append_getElem hj, List.filterMap_append, et]
      cases h : cn l l[i] l[j] <;> simp [h]
    -- no corner
    have skip : cn l l[i] l[j] = none → ∀ E, Gr H1 E → Ok (r66_j2 a (fun v1_ v2_ v3_ v4_ v5_ v6_ v7_ v8_ v9_ H_ => r66_l1 a kt K v1_ v2_ v3_ v4_ v5_ v6_ v7_ v8_ v9_ H_) v yv c v ln i w i j false E) Q := fun hno E gE => by
      unfold r66_j2
      refine Ok.neg (by simp) ?_
      rw [w64_succ (by omega)]
      refine ih (m - 1) _ E (by omega) ⟨?_, by rw [gE.2 _ (Hp.get_lt hc)]; exact hc, j + 1, rfl, by omega⟩
      rw [Int.toNat_natCast, eq1, hno]
      simpa using Y.grow hI gE fun b hb => .inl hb
    by_cases h0 : crI l[i] l[j] = 0
    · simp only [if_pos h0]
      refine Ok.alo cx fun E gE cx => Ok.neg (by simp) (skip ?_ E cx.g)
      unfold cn
      rw [if_neg (fun q => q.1 h0)]
    · simp only [if_neg h0]
      refine Ok.alo cx fun E gE cx => Ok.pos trivial ?_
      refine Ok.cld cx (.head _) rfl (Ok.cld cx (.head _) rfl (Ok.cld cx (.head _) rfl (Ok.cld cx (.head _) rfl ?_)))
      refine Ok.bind (r65_ok ha (p := meetq l[i] l[j]) (hv.gr ((Y.base hI).trans cx.g)) hb hs (meet_qp hsl htl h0)) fun r F ⟨gF, hr⟩ => ?_
      subst hr
      have cx := cx.gr gF
      by_cases hin : inP l (meetq l[i] l[j])
      · rw [decide_eq_true hin]
        have hcF : F.get c = some (.cells (sc l[i]) false) := by rw [cx.g.2 _ (Hp.get_lt hc)]; exact hc
        refine Ok.pos rfl ?_
        refine Ok.cld cx (.head _) rfl (Ok.cld cx (.head _) rfl (Ok.cld cx (.head _) rfl (Ok.cld cx (.head _) rfl (Ok.ld (ldI_get hcF rfl) (Ok.ld (ldI_get hcF rfl) (Ok.ld (ldI_get hcF rfl) (Ok.cld cx (.tail _ (.head _)) rfl (Ok.cld cx (.tail _ (.head _)) rfl (Ok.cld cx (.tail _ (.head _)) rfl ?_)))))))))
        have hcn : cn l l[i] l[j] = some (meetq l[i] l[j], l[i], l[j]) := by unfold cn; rw [if_pos ⟨h0, hin⟩]
        have hpx : (q ++ ((l.take i).take j).filterMap (cn l l[i])) ++ [(meetq l[i] l[j], l[i], l[j])] <+: q ++ cno l i := by
          rw [List.append_assoc]
          refine (List.prefix_append_right_inj q).2 ?_
          have : ((l.take i).take (j + 1)).filterMap (cn l l[i]) <+: (l.take i).filterMap (cn l l[i]) := by
            conv => rhs; rw [← List.take_append_drop (j + 1) (l.take i), List.filterMap_append]
            exact List.prefix_append _ _
          rw [eq1, hcn] at this
          unfold cno
          rw [getElem!_pos l i hi]
          exact this
        have hIF := Y.grow hI cx.g (P' := fun b => P b ∨ b = c) fun b hb => .inl hb
        refine Ok.bind (Y.step hIF (hpx.trans hpq)) fun r G ⟨nG, hG⟩ => ?_
        rw [hcn] at eq1
        rcases hG with ⟨rfl, hIG, kG⟩ | ⟨rfl, hSt⟩
        · refine Ok.ld rfl ?_
          unfold r66_j2
          refine Ok.neg (by simp) ?_
          rw [w64_succ (by omega)]
          refine ih (m - 1) _ G (by omega) ⟨?_, by rw [kG c (Hp.get_lt hcF) (.inr rfl)]; exact hcF, j + 1, rfl, by omega⟩
          rw [Int.toNat_natCast, eq1]
          rw [List.append_assoc] at hIG
          exact hIG
        · refine Ok.ld rfl ?_
          unfold r66_j2
          refine Ok.pos (by simp) (Ok.ret (kS _ _ ?_ hSt))
          exact hpx
      · rw [decide_eq_false hin]
        refine Ok.neg (by simp) (skip ?_ F cx.g)
        unfold cn
        rw [if_neg (fun q => hin q.2)]
  · refine Ok.neg (by omega) ?_
    rw [w64_succ (by omega)]
    refine kN _ ?_
    have : (l.take i).take j = l.take i := List.take_of_length_le (by omega)
    rw [this] at hI
    unfold cno
    rw [getElem!_pos l i hi]
    exact Y.grow hI (.refl _) fun b hb => .inl (.inl hb)
/-- corners -/
theorem r66_ok (ha : A95 a) (Y : Yd a yv argC (cs l) B I St) (hv : SL B v l) (hb : l.length ≤ 1000) (hs : ∀ s ∈ l, sideP s) {H : Hp} (hI : I P [] H) :
    Ok (r66 a v yv H) fun _ H' => I P (cs l) H' ∨ ∃ q, q <+: cs l ∧ St q H' := by
  unfold r66
  have hlen := hv.len
  rw [hlen]
  refine Ok.loop (L := fun K (s : Int) H2 => r66_l0 a K v yv v l.length s H2) (fun m s H' => ∃ i : Nat, s = i ∧ i + m = l.length ∧ I P ((List.range i).flatMap (cno l)) H') ?_ FUEL l.length 0 H (by unfold FUEL; omega) ⟨0, rfl, by omega, by simpa using hI⟩
  rintro K m s H1 ⟨i, rfl, hm, hI⟩ ih
  try dsimp only at *
  rw [r66_l0]
  by_cases h : i < l.length
  · have hg := hv.gr (Y.base hI)
    have cx : Cx H1 H1 [] := .nil H1
    have hcap := hv.cap
    have hopn := hv.opn
    have es : El.sz Sd = 3 := rfl
    rw [es] at hopn
    refine Ok.pos (by omega) (Ok.ck (by omega) (Ok.ld (hg.ldI (i := i) (j := 0) h rfl) (Ok.ld (hg.ldI (i := i) (j := 1) h rfl) (Ok.ld (hg.ldI (i := i) (j := 2) h rfl) (Ok.alo cx fun D gD cx => Ok.ck ⟨by omega, hopn⟩ ?_)))))
    have hcut := hv.cut (lo := 0) (hi := i) (by omega) (by omega)
    rw [List.drop_zero, Nat.sub_zero] at hcut
    have hil : (l.take i).length = i := by rw [List.length_take]; omega
    have hcl := hcut.len
    rw [hil] at hcl
    rw [Int.toNat_natCast]
    have e3 : (v.cut 3 (0 : Int).toNat i).len = i := hcl
    rw [e3]
    refine r66_l1_ok (P := P) (q := (List.range i).flatMap (cno l)) ha Y hv hb hs h ?_ hcut ?_ (cx.e _ (.head _)) (fun q' H' hp hS => .inr ⟨q', ?_, hS⟩) fun H' hI' => ?_
    · rw [← range_succ_flatMap]
      unfold cs
      have : l.length = (i + 1) + (l.length - (i + 1)) := by omega
      rw [this, List.range_add (n := i + 1), List.flatMap_append]
      exact List.prefix_append _ _
    · have hlt := cx.lt (.head _)
      exact Y.grow hI cx.g fun b hb' => hb'.elim .inl fun e => .inr (by dsimp only at hlt; omega)
    · refine hp.trans ?_
      rw [← range_succ_flatMap]
      unfold cs
      have : l.length = (i + 1) + (l.length - (i + 1)) := by omega
      rw [this, List.range_add (n := i + 1), List.flatMap_append]
      exact List.prefix_append _ _
    · refine ih (m - 1) _ H' (by omega) ⟨i + 1, rfl, by omega, ?_⟩
      rw [range_succ_flatMap]
      exact hI'
  · have : i = l.length := by omega
    subst this
    exact Ok.neg (by omega) (Ok.ret (.inl hI))
end
end Go.Lt.P2

namespace Go.Lt.P2
open Go Go.Lt Go.Proofs
/-- down -/
theorem r68_q {q : Rat} {N D : Int} (hq : qb N D q) (hN : N < 1000000000000000000) (hD : D < 1000000000000000000) : Ok (r68 (fq q).1 (fq q).2 H0) fun r _ => r = q.floor := by
  obtain ⟨h1, h2, h3⟩ := hq
  have hp := fq_pos q
  have e1 := Int.mul_tdiv_add_tmod (fq q).1 (fq q).2
  have e2 := Int.tmod_lt_of_pos (fq q).1 hp
  have e3 := Int.lt_tmod_of_pos (fq q).1 hp
  have hf : ∀ f : Int, f * (fq q).2 ≤ (fq q).1 → (fq q).1 < (f + 1) * (fq q).2 → f = q.floor := fun f h1 h2 => by
    have := (floor_iff (f := f) (n := (fq q).1) hp).2 ⟨h1, h2⟩
    rw [dv_fq] at this
    exact this
  have hm0 : 0 ≤ (fq q).1 → 0 ≤ Int.tmod (fq q).1 (fq q).2 := fun h => Int.tmod_nonneg _ h
  have hm1 : (fq q).1 < 0 → Int.tmod (fq q).1 (fq q).2 ≤ 0 := fun h => by
    have := Int.tmod_nonneg (a := -(fq q).1) (fq q).2 (by omega)
    rw [Int.neg_tmod] at this
    omega
  have hab : (Int.tdiv (fq q).1 (fq q).2).natAbs ≤ (fq q).1.natAbs := by
    rw [Int.natAbs_tdiv]; exact Nat.div_le_self _ _
  have hmul : (fq q).2 * Int.tdiv (fq q).1 (fq q).2 = Int.tdiv (fq q).1 (fq q).2 * (fq q).2 := Int.mul_comm _ _
  rw [hmul] at e1
  have e4 : (Int.tdiv (fq q).1 (fq q).2 + 1) * (fq q).2 = Int.tdiv (fq q).1 (fq q).2 * (fq q).2 + (fq q).2 := by rw [Int.add_mul, Int.one_mul]
  have e5 : (Int.tdiv (fq q).1 (fq q).2 - 1) * (fq q).2 = Int.tdiv (fq q).1 (fq q).2 * (fq q).2 - (fq q).2 := by rw [Int.sub_mul, Int.one_mul]
  have e6 : (Int.tdiv (fq q).1 (fq q).2 - 1 + 1) * (fq q).2 = Int.tdiv (fq q).1 (fq q).2 * (fq q).2 := by rw [Int.sub_add_cancel]
  unfold r68
  refine Ok.box (.nil H0) fun A _ c => Ok.cld c (.head _) rfl (Ok.cld c (.head _) rfl (Ok.ck (by omega) (Ok.cld c (.head _) rfl ?_)))
  have hw : w64 (Int.tdiv (fq q).1 (fq q).2) = Int.tdiv (fq q).1 (fq q).2 := w64_id (by omega) (by omega)
  rw [hw]
  generalize Int.tdiv (fq q).1 (fq q).2 = n at *
  generalize Int.tmod (fq q).1 (fq q).2 = m at *
  refine Ok.ite (fun hneg => Ok.cld c (.head _) rfl (Ok.cld c (.head _) rfl ?_)) fun hneg => ?_
  · have := hm1 hneg
    rw [w64_id (n := n * _) (by omega) (by omega)]
    unfold r68_j0
    refine Ok.ite (fun hc => Ok.ret ?_) fun hc => Ok.ret ?_
    · rw [w64_id (by omega) (by omega)]
      have hc' := of_decide_eq_true hc
      refine hf _ (by omega) (by omega)
    · have hc' : n * (fq q).2 = (fq q).1 := Classical.byContradiction fun q => hc (decide_eq_true q)
      exact hf _ (by omega) (by omega)
  · have := hm0 (by omega)
    unfold r68_j0
    exact Ok.neg (by simp) (Ok.ret (hf _ (by omega) (by omega)))
end Go.Lt.P2

namespace Go.Lt.P2
open Go Go.Lt Go.Proofs
/-- low, high, ok -/
abbrev Bst := Pr × Pr × Bool
def nlo (ok : Bool) (x l : Int) : Int := if ok = true ∧ ¬ x < l then l else x
def nhi (ok : Bool) (x h : Int) : Int := if ok = true ∧ ¬ h < x then h else x
def bxE (n : Nat) (st : Bst) (ls : LoopState) : List (Nat × Blk) := [(n, cel [.int .i64 st.1.1, .int .i64 st.1.2]), (n + 1, cel [.int .i64 st.2.1.1, .int .i64 st.2.1.2]), (n + 2, cel [.bool st.2.2]), (n + 3, .dfr), (n + 4, .loop ls none 0 59 [(2, .ptr n 0), (3, .ptr (n + 1) 0), (4, .ptr (n + 2) 0)])]
def up0 (st : Bst) (f : Pr) : Bst := ((nlo st.2.2 f.1 st.1.1, st.1.2), (nhi st.2.2 f.1 st.2.1.1, st.2.1.2), st.2.2)
def up1 (st : Bst) (f : Pr) : Bst := ((st.1.1, nlo st.2.2 f.2 st.1.2), (st.2.1.1, nhi st.2.2 f.2 st.2.1.2), st.2.2)
section
variable {α : Type} {a : App} {l n fb K : Nat} {H1 H : Hp} {st : Bst} {f : Pr} {y : Nat × Blk} {ls : LoopState} {Q : Option Code → Hp → Prop}
theorem it0 (c : Cb H1 H ((fb, cel [.int .i64 f.1, .int .i64 f.2]) :: y :: bxE n st ls)) (kk : ∀ A, A.n = H.n → Cb H1 A ((fb, cel [.int .i64 f.1, .int .i64 f.2]) :: y :: bxE n (up0 st f) ls) → Ok (r101q0_l0 a l K n (n + 1) (n + 2) fb 1 A) Q) : Ok (r101q0_l0 a l (K + 1) n (n + 1) (n + 2) fb 0 H) Q := by
  obtain ⟨⟨l0, l1⟩, ⟨h0, h1⟩, ok⟩ := st
  rw [r101q0_l0]
  refine Ok.pos (by decide) (Ok.kldB c (.tail _ (.tail _ (.tail _ (.tail _ (.head _))))) rfl ?_)
  have J1 : ∀ (b : Bool) (A : Hp) (l0' : Int), A.n = H.n → (b = true ↔ ¬ (ok = true ∧ ¬ h0 < f.1)) → l0' = nlo ok f.1 l0 → Cb H1 A ((fb, cel [.int .i64 f.1, .int .i64 f.2]) :: y :: bxE n ((l0', l1), (h0, h1), ok) ls) → Ok (r101q0_j1 a l (fun v1_ v2_ v3_ v4_ v5_ H_ => r101q0_l0 a l K v1_ v2_ v3_ v4_ v5_ H_) n (n + 1) (n + 2) fb 0 0 b A) Q := fun b A l0' nA hb hl c => by
    subst hl
    unfold r101q0_j1
    refine Ok.ite (fun hc => Ok.ck (by decide) (Ok.kld c (.head _) rfl (Ok.ck (by decide) (Ok.kst1 c 3 rfl (by show _ < 2; decide) fun D nD _ c => ?_)))) fun hc => ?_
    · have e : f.1 = nhi ok f.1 h0 := by unfold nhi; rw [if_neg (hb.1 hc)]
      refine kk D (by omega) ?_
      have c : Cb H1 D ((fb, cel [.int .i64 f.1, .int .i64 f.2]) :: y :: bxE n ((nlo ok f.1 l0, l1), (f.1, h1), ok) ls) := c
      rw [show up0 ((l0, l1), (h0, h1), ok) f = ((nlo ok f.1 l0, l1), (nhi ok f.1 h0, h1), ok) from rfl, ← e]
      exact c
    · have e : h0 = nhi ok f.1 h0 := by unfold nhi; rw [if_pos (Classical.byContradiction fun q => hc (hb.2 q))]
      refine kk A (by omega) ?_
      rw [show up0 ((l0, l1), (h0, h1), ok) f = ((nlo ok f.1 l0, l1), (nhi ok f.1 h0, h1), ok) from rfl, ← e]
      exact c
  have J2 : ∀ (A : Hp) (l0' : Int), A.n = H.n → l0' = nlo ok f.1 l0 → Cb H1 A ((fb, cel [.int .i64 f.1, .int .i64 f.2]) :: y :: bxE n ((l0', l1), (h0, h1), ok) ls) → Ok (r101q0_j2 a l (fun v1_ v2_ v3_ v4_ v5_ H_ => r101q0_l0 a l K v1_ v2_ v3_ v4_ v5_ H_) n (n + 1) (n + 2) fb 0 0 A) Q := fun A l0' nA hl c => by
    unfold r101q0_j2
    refine Ok.kldB c (.tail _ (.tail _ (.tail _ (.tail _ (.head _))))) rfl (Ok.ite (fun hok => Ok.ck (by decide) (Ok.kld c (.head _) rfl (Ok.ck (by decide) (Ok.kld c (.tail _ (.tail _ (.tail _ (.head _)))) rfl (J1 _ A l0' nA ?_ hl c))))) fun hok => J1 _ A l0' nA ?_ hl c)
    · dsimp only at hok
      rw [decide_eq_true_iff]
      constructor
      · intro h q; exact q.2 h
      · intro h; exact Classical.byContradiction fun q => h ⟨hok, q⟩
    · exact ⟨fun _ q => hok q.1, fun _ => rfl⟩
  have J3 : ∀ (b : Bool), (b = true ↔ ¬ (ok = true ∧ ¬ f.1 < l0)) → Ok (r101q0_j3 a l (fun v1_ v2_ v3_ v4_ v5_ H_ => r101q0_l0 a l K v1_ v2_ v3_ v4_ v5_ H_) n (n + 1) (n + 2) fb 0 0 b H) Q := fun b hb => by
    unfold r101q0_j3
    refine Ok.ite (fun hc => Ok.ck (by decide) (Ok.kld c (.head _) rfl (Ok.ck (by decide) (Ok.kst1 c 2 rfl (by show _ < 2; decide) fun D nD _ c => J2 D f.1 nD ?_ c)))) fun hc => J2 H l0 rfl ?_ c
    · unfold nlo; rw [if_neg (hb.1 hc)]
    · unfold nlo; rw [if_pos (Classical.byContradiction fun q => hc (hb.2 q))]
  refine Ok.ite (fun hok => Ok.ck (by decide) (Ok.kld c (.head _) rfl (Ok.ck (by decide) (Ok.kld c (.tail _ (.tail _ (.head _))) rfl (J3 _ ?_))))) fun hok => J3 _ ?_
  · dsimp only at hok
    rw [decide_eq_true_iff]
    constructor
    · intro h q; exact q.2 h
    · intro h; exact Classical.byContradiction fun q => h ⟨hok, q⟩
  · exact ⟨fun _ q => hok q.1, fun _ => rfl⟩
theorem it1 (c : Cb H1 H ((fb, cel [.int .i64 f.1, .int .i64 f.2]) :: y :: bxE n st ls)) (kk : ∀ A, A.n = H.n → Cb H1 A ((fb, cel [.int .i64 f.1, .int .i64 f.2]) :: y :: bxE n (up1 st f) ls) → Ok (r101q0_l0 a l K n (n + 1) (n + 2) fb 2 A) Q) : Ok (r101q0_l0 a l (K + 1) n (n + 1) (n + 2) fb 1 H) Q := by
  obtain ⟨⟨l0, l1⟩, ⟨h0, h1⟩, ok⟩ := st
  rw [r101q0_l0]
  refine Ok.pos (by decide) (Ok.kldB c (.tail _ (.tail _ (.tail _ (.tail _ (.head _))))) rfl ?_)
  have J1 : ∀ (b : Bool) (A : Hp) (l1' : Int), A.n = H.n → (b = true ↔ ¬ (ok = true ∧ ¬ h1 < f.2)) → l1' = nlo ok f.2 l1 → Cb H1 A ((fb, cel [.int .i64 f.1, .int .i64 f.2]) :: y :: bxE n ((l0, l1'), (h0, h1), ok) ls) → Ok (r101q0_j1 a l (fun v1_ v2_ v3_ v4_ v5_ H_ => r101q0_l0 a l K v1_ v2_ v3_ v4_ v5_ H_) n (n + 1) (n + 2) fb 1 1 b A) Q := fun b A l1' nA hb hl c => by
    subst hl
    unfold r101q0_j1
    refine Ok.ite (fun hc => Ok.ck (by decide) (Ok.kld c (.head _) rfl (Ok.ck (by decide) (Ok.kst1 c 3 rfl (by show _ < 2; decide) fun D nD _ c => ?_)))) fun hc => ?_
    · have e : f.2 = nhi ok f.2 h1 := by unfold nhi; rw [if_neg (hb.1 hc)]
      refine kk D (by omega) ?_
      have c : Cb H1 D ((fb, cel [.int .i64 f.1, .int .i64 f.2]) :: y :: bxE n ((l0, nlo ok f.2 l1), (h0, f.2), ok) ls) := c
      rw [show up1 ((l0, l1), (h0, h1), ok) f = ((l0, nlo ok f.2 l1), (h0, nhi ok f.2 h1), ok) from rfl, ← e]
      exact c
    · have e : h1 = nhi ok f.2 h1 := by unfold nhi; rw [if_pos (Classical.byContradiction fun q => hc (hb.2 q))]
      refine kk A (by omega) ?_
      rw [show up1 ((l0, l1), (h0, h1), ok) f = ((l0, nlo ok f.2 l1), (h0, nhi ok f.2 h1), ok) from rfl, ← e]
      exact c
  have J2 : ∀ (A : Hp) (l1' : Int), A.n = H.n → l1' = nlo ok f.2 l1 → Cb H1 A ((fb, cel [.int .i64 f.1, .int .i64 f.2]) :: y :: bxE n ((l0, l1'), (h0, h1), ok) ls) → Ok (r101q0_j2 a l (fun v1_ v2_ v3_ v4_ v5_ H_ => r101q0_l0 a l K v1_ v2_ v3_ v4_ v5_ H_) n (n + 1) (n + 2) fb 1 1 A) Q := fun A l1' nA hl c => by
    unfold r101q0_j2
    refine Ok.kldB c (.tail _ (.tail _ (.tail _ (.tail _ (.head _))))) rfl (Ok.ite (fun hok => Ok.ck (by decide) (Ok.kld c (.head _) rfl (Ok.ck (by decide) (Ok.kld c (.tail _ (.tail _ (.tail _ (.head _)))) rfl (J1 _ A l1' nA ?_ hl c))))) fun hok => J1 _ A l1' nA ?_ hl c)
    · dsimp only at hok
      rw [decide_eq_true_iff]
      constructor
      · intro h q; exact q.2 h
      · intro h; exact Classical.byContradiction fun q => h ⟨hok, q⟩
    · exact ⟨fun _ q => hok q.1, fun _ => rfl⟩
  have J3 : ∀ (b : Bool), (b = true ↔ ¬ (ok = true ∧ ¬ f.2 < l1)) → Ok (r101q0_j3 a l (fun v1_ v2_ v3_ v4_ v5_ H_ => r101q0_l0 a l K v1_ v2_ v3_ v4_ v5_ H_) n (n + 1) (n + 2) fb 1 1 b H) Q := fun b hb => by
    unfold r101q0_j3
    refine Ok.ite (fun hc => Ok.ck (by decide) (Ok.kld c (.head _) rfl (Ok.ck (by decide) (Ok.kst1 c 2 rfl (by show _ < 2; decide) fun D nD _ c => J2 D f.2 nD ?_ c)))) fun hc => J2 H l1 rfl ?_ c
    · unfold nlo; rw [if_neg (hb.1 hc)]
    · unfold nlo; rw [if_pos (Classical.byContradiction fun q => hc (hb.2 q))]
  refine Ok.ite (fun hok => Ok.ck (by decide) (Ok.kld c (.head _) rfl (Ok.ck (by decide) (Ok.kld c (.tail _ (.tail _ (.head _))) rfl (J3 _ ?_))))) fun hok => J3 _ ?_
  · dsimp only at hok
    rw [decide_eq_true_iff]
    constructor
    · intro h q; exact q.2 h
    · intro h; exact Classical.byContradiction fun q => h ⟨hok, q⟩
  · exact ⟨fun _ q => hok q.1, fun _ => rfl⟩
end
end Go.Lt.P2

namespace Go.Lt.P2
open Go Go.Lt Go.Proofs
def inB (s : Sd) : Prop := (-4 ≤ s.1 ∧ s.1 ≤ 4) ∧ (-4 ≤ s.2.1 ∧ s.2.1 ≤ 4) ∧ (-40 ≤ s.2.2 ∧ s.2.2 ≤ 40)
instance (s : Sd) : Decidable (inB s) := by unfold inB; infer_instance
theorem tail63 {k c : Nat} {s : Sd} {E : Hp} {Q : Bool → Hp → Prop} {F : Bool → Hp → Option (Bool × Hp)} (hc : E.get c = some (.cells [.int .i64 s.1, .int .i64 s.2.1, .int .i64 s.2.2] false)) (kF : ∀ H' b, Gr E H' → b = !decide (inB s) → Ok (F b H') Q) :
    Ok ((r79 (appA (k + 1)) 4 ⟨false, E.n, 0, 2, 2, 0⟩ (E.push (.cells [.int .i64 s.1, .int .i64 s.2.1] false))).bind fun p => if p.1 = true then ((p.2.ldI .i64 c (0 + 2)).bind fun x => (r79 (appA (k + 1)) 40 ⟨false, p.2.n, 0, 1, 1, 0⟩ (p.2.push (.cells [.int .i64 x] false))).bind fun q => F (!q.1) q.2) else F true p.2) Q := by
  have gp := Gr.push E (.cells [.int .i64 s.1, .int .i64 s.2.1] false)
  have hs : SL (T := Int) (E.push (.cells [.int .i64 s.1, .int .i64 s.2.1] false)) ⟨false, E.n, 0, 2, 2, 0⟩ [s.1, s.2.1] := .of_get (ro := false) (Hp.get_push_new _ _) rfl rfl (Nat.le_refl _) (.inl rfl) rfl
  generalize E.push (.cells [.int .i64 s.1, .int .i64 s.2.1] false) = A at *
  refine Ok.bind (r79_ok (by omega) hs (by simp)) fun r B ⟨gB, hr⟩ => ?_
  subst hr
  by_cases h1 : ∃ x ∈ [s.1, s.2.1], x < -4 ∨ 4 < x
  · rw [decide_eq_true h1]
    refine Ok.neg (by simp) (kF _ _ (gp.trans gB) ?_)
    symm
    rw [decide_eq_false]
    · rfl
    · intro hb
      obtain ⟨x, hx, h2⟩ := h1
      unfold inB at hb
      simp only [List.mem_cons, List.not_mem_nil, or_false] at hx
      rcases hx with rfl | rfl <;> omega
  · rw [decide_eq_false h1]
    have g2 := gp.trans gB
    have hcB : B.get c = some (.cells [.int .i64 s.1, .int .i64 s.2.1, .int .i64 s.2.2] false) := by rw [g2.2 _ (Hp.get_lt hc)]; exact hc
    refine Ok.pos (by simp) (Ok.ld (ldI_get hcB rfl) ?_)
    have gq := Gr.push B (.cells [.int .i64 s.2.2] false)
    have hs2 : SL (T := Int) (B.push (.cells [.int .i64 s.2.2] false)) ⟨false, B.n, 0, 1, 1, 0⟩ [s.2.2] := .of_get (ro := false) (Hp.get_push_new _ _) rfl rfl (Nat.le_refl _) (.inl rfl) rfl
    refine Ok.bind (r79_ok (k := k) (c := 40) (by omega) hs2 (by simp)) fun r C ⟨gC, hr⟩ => ?_
    subst hr
    refine kF _ _ (g2.trans (gq.trans gC)) ?_
    congr 1
    refine Bool.eq_iff_iff.2 ?_
    rw [Bool.not_eq_true', decide_eq_false_iff_not, decide_eq_true_iff]
    unfold inB
    have q1 : ¬ (s.1 < -4 ∨ 4 < s.1) := fun q => h1 ⟨s.1, by simp, q⟩
    have q2 : ¬ (s.2.1 < -4 ∨ 4 < s.2.1) := fun q => h1 ⟨s.2.1, by simp, q⟩
    constructor
    · intro q
      have : ¬ (s.2.2 < -40 ∨ 40 < s.2.2) := fun w => q ⟨s.2.2, by simp, w⟩
      omega
    · rintro q ⟨x, hx, h2⟩
      rw [List.mem_singleton] at hx
      subst hx
      omega
theorem side_in {s : Sd} : sideP s ↔ ¬ (s.1 = 0 ∧ s.2.1 = 0) ∧ inB s := by
  unfold sideP inB
  constructor
  · intro h; exact ⟨h.2.2.1, h.1, h.2.1, h.2.2.2⟩
  · intro h; exact ⟨h.2.1, h.2.2.1, h.1, h.2.2.2⟩
/-- the directions -/
theorem r63_l3_ok {k : Nat} {H0' H : Hp} {v : Sl} {l : List Sd} (hv : SL H v l) (hb : l.length ≤ 6) (hs : ∀ s ∈ l, sideP s) (g : Gr H0' H) : Ok (r63_l3 (appA (k + 1)) FUEL v v l.length 0 H) fun r H' => Gr H0' H' ∧ r = decide (∀ s ∈ l, dirP l (-s.2.1, s.1) ∧ dirP l (s.2.1, -s.1)) := by
  have hlen := hv.len
  refine Ok.loop (L := fun K (s : Int) H2 => r63_l3 (appA (k + 1)) K v v l.length s H2) (fun m s H' => Gr H H' ∧ ∃ i : Nat, s = i ∧ i + m = l.length ∧ ∀ s ∈ l.take i, dirP l (-s.2.1, s.1) ∧ dirP l (s.2.1, -s.1)) ?_ FUEL l.length 0 H (by unfold FUEL; omega) ⟨.refl _, 0, rfl, by omega, by simp⟩
  rintro K m s H1 ⟨g1, i, rfl, hm, ht⟩ ih
  try dsimp only at *
  rw [r63_l3]
  by_cases h : i < l.length
  · have hg := hv.gr g1
    have hmem : l[i] ∈ l := List.getElem_mem h
    have hsd := hs _ hmem
    unfold sideP at hsd
    obtain ⟨E, hE, hE', gE, nE⟩ := sts3 H1 (.int .i64 l[i].1) (.int .i64 l[i].2.1) (.int .i64 l[i].2.2) (.int .i64 0) (.int .i64 0) (.int .i64 0)
    refine Ok.pos (by omega) (Ok.ck (by omega) (Ok.ld (hg.ldI (i := i) (j := 0) h rfl) (Ok.ld (hg.ldI (i := i) (j := 1) h rfl) (Ok.ld (hg.ldI (i := i) (j := 2) h rfl) (Ok.ld hE (Ok.ld (ldI_get hE' rfl) (Ok.ld (ldI_get hE' rfl) (Ok.ld (ldI_get hE' rfl) (Ok.ld (ldI_get hE' rfl) (Ok.lt ?_))))))))))
    have e1 : w64 (0 - l[i].2.1) = -l[i].2.1 := by rw [w64_id (by omega) (by omega)]; omega
    have e2 : w64 (0 - l[i].1) = -l[i].1 := by rw [w64_id (by omega) (by omega)]; omega
    rw [e1, e2]
    have gq := Gr.push E (.cells [.int .i64 (-l[i].2.1), .int .i64 l[i].1, .int .i64 l[i].2.1, .int .i64 (-l[i].1)] false)
    have hds : SL (T := Pr) (E.push (.cells [.int .i64 (-l[i].2.1), .int .i64 l[i].1, .int .i64 l[i].2.1, .int .i64 (-l[i].1)] false)) ⟨false, E.n, 0, 2, 2, 0⟩ [(-l[i].2.1, l[i].1), (l[i].2.1, -l[i].1)] := .of_get (ro := false) (Hp.get_push_new _ _) rfl rfl (Nat.le_refl _) (.inl rfl) rfl
    generalize E.push (.cells [.int .i64 (-l[i].2.1), .int .i64 l[i].1, .int .i64 l[i].2.1, .int .i64 (-l[i].1)] false) = C at *
    have gC := g1.trans (gE.trans gq)
    show Ok (r63_l4 (appA (k + 1)) _ FUEL v v l.length i ⟨false, E.n, 0, 2, 2, 0⟩ 2 0 C) _
    have hall : (dirP l (-l[i].2.1, l[i].1) ∧ dirP l (l[i].2.1, -l[i].1)) ↔ ∀ d ∈ [(-l[i].2.1, l[i].1), (l[i].2.1, -l[i].1)], dirP l d := by simp
    have hdb : ∀ d ∈ [(-l[i].2.1, l[i].1), (l[i].2.1, -l[i].1)], (-4 ≤ d.1 ∧ d.1 ≤ 4) ∧ -4 ≤ d.2 ∧ d.2 ≤ 4 := by
      intro d hd
      simp only [List.mem_cons, List.not_mem_nil, or_false] at hd
      rcases hd with rfl | rfl <;> dsimp only <;> omega
    have two : [(-l[i].2.1, l[i].1), (l[i].2.1, -l[i].1)].length = 2 := rfl
    generalize [(-l[i].2.1, l[i].1), (l[i].2.1, -l[i].1)] = ds at *
    have hdl := hds.len
    refine Ok.loop (L := fun K2 (s : Int) H2 => r63_l4 (appA (k + 1)) (fun v1_ v2_ v3_ v4_ H_ => r63_l3 (appA (k + 1)) K v1_ v2_ v3_ v4_ H_) K2 v v l.length i ⟨false, E.n, 0, 2, 2, 0⟩ 2 s H2) (fun m s H' => Gr C H' ∧ ∃ j : Nat, s = j ∧ j + m = 2 ∧ ∀ d ∈ ds.take j, dirP l d) ?_ FUEL 2 0 C (by unfold FUEL; omega) ⟨.refl _, 0, rfl, rfl, by simp⟩
    rintro K2 m2 s2 H2 ⟨g2, j, rfl, hm2, ht2⟩ ih2
    try dsimp only at *
    rw [r63_l4]
    by_cases hj : j < 2
    · have hg2 := hds.gr g2
      have hdm : ds[j] ∈ ds := List.getElem_mem (by omega)
      obtain ⟨F, hF, hF', gF, nF⟩ := sts2 H2 (.int .i64 ds[j].1) (.int .i64 ds[j].2) (.int .i64 0) (.int .i64 0)
      have gX := gC.trans (g2.trans gF)
      refine Ok.pos (by omega) (Ok.ck (by dsimp only; omega) (Ok.ld (hg2.ldI (i := j) (j := 0) (by omega) rfl) (Ok.ld (hg2.ldI (i := j) (j := 1) (by omega) rfl) (Ok.ld hF ?_))))
      refine Ok.bind (r92_ok (says93 k hF' (hdb _ hdm)) (hv.gr gX) (by omega) hs) fun r G ⟨gG, hr⟩ => ?_
      subst hr
      by_cases hd : dirP l ds[j]
      · rw [decide_eq_true (show ∃ x ∈ l, 0 < x.1 * ds[j].1 + x.2.1 * ds[j].2 from hd)]
        refine Ok.pos rfl ?_
        rw [w64_succ (by omega)]
        exact ih2 (m2 - 1) _ G (by omega) ⟨g2.trans (gF.trans gG), j + 1, rfl, by omega, forall_take (by omega) ht2 hd⟩
      · rw [decide_eq_false (show ¬ ∃ x ∈ l, 0 < x.1 * ds[j].1 + x.2.1 * ds[j].2 from hd)]
        refine Ok.neg (by simp) (Ok.ret ⟨g.trans (gX.trans gG), ?_⟩)
        rw [decide_eq_false]
        intro hh
        exact hd (hall.1 (hh _ hmem) _ hdm)
    · rw [List.take_of_length_le (by omega)] at ht2
      refine Ok.neg (by omega) ?_
      rw [w64_succ (by omega)]
      exact ih (m - 1) _ H2 (by omega) ⟨gC.trans g2, i + 1, rfl, by omega, forall_take h ht (hall.2 ht2)⟩
  · rw [List.take_of_length_le (by omega)] at ht
    exact Ok.neg (by omega) (Ok.ret ⟨g.trans g1, by rw [decide_eq_true ht]⟩)
/-- valid -/
theorem r63_ok {k : Nat} {H : Hp} {v : Sl} {l : List Sd} (hv : SL H v l) (hb : l.length ≤ 1000) : Ok (r63 (appA (k + 1)) v H) fun r H' => Gr H H' ∧ r = decide (plateP l) := by
  unfold r63
  have hlen := hv.len
  by_cases h3 : l.length < 3
  · refine Ok.pos (by omega) ?_
    unfold r63_j0
    exact Ok.pos rfl (Ok.ret ⟨.refl _, by rw [decide_eq_false (fun h => by have := h.1.1; omega)]⟩)
  · refine Ok.neg (by omega) ?_
    unfold r63_j0
    by_cases h6 : 6 < l.length
    · exact Ok.pos (by rw [decide_eq_true_iff]; omega) (Ok.ret ⟨.refl _, by rw [decide_eq_false (fun h => by have := h.1.2; omega)]⟩)
    · refine Ok.neg (by rw [decide_eq_true_iff]; omega) ?_
      rw [hlen]
      refine Ok.loop (L := fun K (s : Int) H2 => r63_l1 (appA (k + 1)) K v v l.length s H2) (fun m s H' => Gr H H' ∧ ∃ i : Nat, s = i ∧ i + m = l.length ∧ ∀ s ∈ l.take i, sideP s) ?_ FUEL l.length 0 H (by unfold FUEL; omega) ⟨.refl _, 0, rfl, by omega, by simp⟩
      rintro K m s H1 ⟨g1, i, rfl, hm, ht⟩ ih
      try dsimp only at *
      rw [r63_l1]
      by_cases h : i < l.length
      · have hg := hv.gr g1
        have hmem : l[i] ∈ l := List.getElem_mem h
        obtain ⟨E, hE, hE', gE, nE⟩ := sts3 H1 (.int .i64 l[i].1) (.int .i64 l[i].2.1) (.int .i64 l[i].2.2) (.int .i64 0) (.int .i64 0) (.int .i64 0)
        have gB := g1.trans gE
        have j2 : ∀ b H', Gr E H' → b = !decide (sideP l[i]) → Ok (r63_j2 (appA (k + 1)) (fun v1_ v2_ v3_ v4_ H_ => r63_l1 (appA (k + 1)) K v1_ v2_ v3_ v4_ H_) v v l.length i b H') fun r H' => Gr H H' ∧ r = decide (plateP l) := fun b H' gH hbb => by
          subst hbb
          unfold r63_j2
          by_cases c : sideP l[i]
          · rw [decide_eq_true c]
            refine Ok.neg (by simp) ?_
            rw [w64_succ (by omega)]
            exact ih (m - 1) _ H' (by omega) ⟨gB.trans gH, i + 1, rfl, by omega, forall_take h ht c⟩
          · rw [decide_eq_false c]
            exact Ok.pos rfl (Ok.ret ⟨gB.trans gH, by rw [decide_eq_false (fun q => c (q.2.1 _ hmem))]⟩)
        have tl : ¬ (l[i].1 = 0 ∧ l[i].2.1 = 0) → ∀ H' b, Gr E H' → b = !decide (inB l[i]) → Ok (r63_j2 (appA (k + 1)) (fun v1_ v2_ v3_ v4_ H_ => r63_l1 (appA (k + 1)) K v1_ v2_ v3_ v4_ H_) v v l.length i b H') fun r H' => Gr H H' ∧ r = decide (plateP l) := fun hne H' b gH hbb => j2 b H' gH (by rw [hbb]; congr 1; exact decide_eq_decide.2 ⟨fun q => side_in.2 ⟨hne, q⟩, fun q => (side_in.1 q).2⟩)
        refine Ok.pos (by omega) (Ok.ck (by omega) (Ok.ld (hg.ldI (i := i) (j := 0) h rfl) (Ok.ld (hg.ldI (i := i) (j := 1) h rfl) (Ok.ld (hg.ldI (i := i) (j := 2) h rfl) (Ok.ld hE (Ok.ld (ldI_get hE' rfl) ?_))))))
        refine Ok.ite (fun c0 => Ok.ld (ldI_get hE' rfl) (Ok.ite (fun c1 => j2 _ _ (.refl _) ?_) fun c1 => Ok.ld (ldI_get hE' rfl) (Ok.ld (ldI_get hE' rfl) (tail63 (s := l[i]) hE' (tl fun q => c1 q.2))))) fun c0 => Ok.ld (ldI_get hE' rfl) (Ok.ld (ldI_get hE' rfl) (tail63 (s := l[i]) hE' (tl fun q => c0 q.1)))
        rw [decide_eq_false (fun q => (side_in.1 q).1 ⟨c0, c1⟩)]
        rfl
      · rw [List.take_of_length_le (by omega)] at ht
        refine Ok.neg (by omega) ?_
        rw [hlen]
        refine (r63_l3_ok (hv.gr g1) (by omega) ht g1).mono fun r H' hh => ⟨hh.1, ?_⟩
        rw [hh.2]
        exact decide_eq_decide.2 ⟨fun q => ⟨⟨by omega, by omega⟩, ht, q⟩, fun q => q.2.2⟩
end Go.Lt.P2

namespace Go.Lt.P2
open Go Go.Lt Go.Proofs
/-- whole -/
theorem r80_q {x y : Int} (hx : -100000000 ≤ x ∧ x ≤ 100000000) (hy : -100000000 ≤ y ∧ y ≤ 100000000) : Ok (r80 x y H0) fun r _ => r = pt ((x : Rat), (y : Rat)) := by
  unfold r80
  refine Ok.box (.nil H0) fun A _ c => ?_
  refine Ok.own (r100_int (by omega) H0) fun X => Ok.own (r100_int (by omega) H0) fun X => ?_
  refine Ok.cst c 0 rfl rfl fun B _ _ c => ?_
  exact Ok.cld c (.head _) rfl (Ok.cld c (.head _) rfl (Ok.cld c (.head _) rfl (Ok.cld c (.head _) rfl (Ok.ret rfl))))
theorem lqs_int {s : Sd} {x y : Int} : lqs s ((x : Rat), (y : Rat)) ↔ s.1 * x + s.2.1 * y ≤ s.2.2 := by
  unfold lqs atq
  dsimp only
  rw [← Rat.intCast_mul, ← Rat.intCast_mul, ← Rat.intCast_add]
  exact Rat.intCast_le_intCast
theorem qp_int {x y : Int} (hx : -10000 ≤ x ∧ x ≤ 10000) (hy : -10000 ≤ y ∧ y ≤ 10000) : qp ((x : Rat), (y : Rat)) :=
  ⟨qb_int (by omega) (by omega) (by omega), qb_int (by omega) (by omega) (by omega)⟩
end Go.Lt.P2

namespace Go.Lt.P2
open Go Go.Lt Go.Proofs
/-- the first side that a whole point does not keep -/
def kp (x : Pr) (s : Sd) : Prop := s.1 * x.1 + s.2.1 * x.2 ≤ s.2.2
instance (x : Pr) (s : Sd) : Decidable (kp x s) := by unfold kp; infer_instance
def apt (x : Pr) : List Sd → Int × Int × Int × Int
  | [] => (0, 0, 0, 4)
  | s :: l => if kp x s then apt x l else (s.1, s.2.1, s.2.2, 0)
theorem apt_all {x : Pr} : ∀ {l : List Sd}, (∀ s ∈ l, kp x s) → apt x l = (0, 0, 0, 4)
  | [], _ => rfl
  | s :: l, h => by rw [apt, if_pos (h s (.head _))]; exact apt_all fun t ht => h t (.tail _ ht)
end Go.Lt.P2

namespace Go.Lt.P2
open Go Go.Lt Go.Proofs
/-! ### the whole points of a box -/
def ints (lo hi : Int) : List Int := (List.range (hi + 1 - lo).toNat).map fun n : Nat => lo + (n : Int)
theorem ints_nil {lo hi : Int} (h : hi < lo) : ints lo hi = [] := by
  unfold ints
  rw [show (hi + 1 - lo).toNat = 0 by omega]; rfl
theorem ints_snoc {lo hi : Int} (h : lo ≤ hi) : ints lo hi = ints lo (hi - 1) ++ [hi] := by
  unfold ints
  rw [show (hi + 1 - lo).toNat = (hi - 1 + 1 - lo).toNat + 1 by omega, List.range_succ, List.map_append]
  simp; omega
theorem mem_ints {lo hi x : Int} : x ∈ ints lo hi ↔ lo ≤ x ∧ x ≤ hi := by
  unfold ints
  rw [List.mem_map]
  constructor
  · rintro ⟨n, hn, rfl⟩
    rw [List.mem_range] at hn
    omega
  · intro h
    exact ⟨(x - lo).toNat, List.mem_range.2 (by omega), by omega⟩
theorem ints_len {lo hi : Int} : (ints lo hi).length = (hi + 1 - lo).toNat := by unfold ints; simp
theorem ints_lt (lo hi : Int) : (ints lo hi).Pairwise (· < ·) := by
  unfold ints
  rw [List.pairwise_map]
  exact List.pairwise_lt_range.imp fun h => by omega
def row (l : List Sd) (lo hi x : Int) : List Pr := ((ints lo hi).filter fun y => decide (∀ s ∈ l, kp (x, y) s)).map fun y => (x, y)
def grid (l : List Sd) (lo hi : Pr) : List Pr := (ints lo.1 hi.1).flatMap (row l lo.2 hi.2)
theorem row_len (l : List Sd) (lo hi x : Int) : (row l lo hi x).length ≤ (hi + 1 - lo).toNat := by
  unfold row
  rw [List.length_map, ← ints_len]
  exact List.length_filter_le _ _
theorem row_snoc {l : List Sd} {lo hi x : Int} (h : lo ≤ hi) : row l lo hi x = row l lo (hi - 1) x ++ if ∀ s ∈ l, kp (x, hi) s then [(x, hi)] else [] := by
  unfold row
  rw [ints_snoc h, List.filter_append, List.map_append]
  congr 1
  by_cases hk : ∀ s ∈ l, kp (x, hi) s
  · rw [if_pos hk, List.filter_cons, if_pos (by exact decide_eq_true hk)]; rfl
  · rw [if_neg hk, List.filter_cons, if_neg (by rw [decide_eq_false hk]; simp)]; rfl
theorem flat_len {α β : Type} {f : α → List β} {k : Nat} : ∀ {l : List α}, (∀ x ∈ l, (f x).length ≤ k) → (l.flatMap f).length ≤ l.length * k
  | [], _ => by simp
  | x :: l, h => by
    rw [List.flatMap_cons, List.length_append, List.length_cons, Nat.add_mul, Nat.one_mul]
    have a := h x (.head _)
    have b := flat_len (l := l) fun y hy => h y (.tail _ hy)
    omega
theorem grid_len (l : List Sd) (lo hi : Pr) : (grid l lo hi).length ≤ (hi.1 + 1 - lo.1).toNat * (hi.2 + 1 - lo.2).toNat := by
  unfold grid
  rw [← ints_len]
  exact flat_len fun x _ => row_len l _ _ x
theorem mem_grid {l : List Sd} {lo hi p : Pr} : p ∈ grid l lo hi ↔ ((lo.1 ≤ p.1 ∧ p.1 ≤ hi.1) ∧ lo.2 ≤ p.2 ∧ p.2 ≤ hi.2) ∧ ∀ s ∈ l, kp p s := by
  unfold grid row
  rw [List.mem_flatMap]
  constructor
  · rintro ⟨x, hx, h⟩
    obtain ⟨y, hy, rfl⟩ := List.mem_map.1 h
    obtain ⟨hy, hk⟩ := List.mem_filter.1 hy
    exact ⟨⟨mem_ints.1 hx, mem_ints.1 hy⟩, of_decide_eq_true hk⟩
  · rintro ⟨⟨hx, hy⟩, hk⟩
    exact ⟨p.1, mem_ints.2 hx, List.mem_map.2 ⟨p.2, List.mem_filter.2 ⟨mem_ints.2 hy, decide_eq_true hk⟩, rfl⟩⟩
/-- points in order -/
def plt (p q : Pr) : Prop := p.1 < q.1 ∨ (p.1 = q.1 ∧ p.2 < q.2)
theorem row_plt (l : List Sd) (lo hi x : Int) : (row l lo hi x).Pairwise plt := by
  unfold row
  rw [List.pairwise_map]
  exact ((ints_lt lo hi).filter _).imp fun h => .inr ⟨rfl, h⟩
theorem row_fst {l : List Sd} {lo hi x : Int} {p : Pr} (h : p ∈ row l lo hi x) : p.1 = x := by
  unfold row at h
  obtain ⟨y, _, rfl⟩ := List.mem_map.1 h
  rfl
theorem grid_plt (l : List Sd) (lo hi : Pr) : (grid l lo hi).Pairwise plt := by
  unfold grid
  have key : ∀ {xs : List Int}, xs.Pairwise (· < ·) → (xs.flatMap (row l lo.2 hi.2)).Pairwise plt := fun {xs} h => by
    induction xs with
    | nil => exact .nil
    | cons x xs ih =>
      rw [List.pairwise_cons] at h
      rw [List.flatMap_cons, List.pairwise_append]
      refine ⟨row_plt _ _ _ _, ih h.2, fun p hp q hq => ?_⟩
      obtain ⟨x', hx', hq⟩ := List.mem_flatMap.1 hq
      left
      rw [row_fst hp, row_fst hq]
      exact h.1 x' hx'
  exact key (ints_lt _ _)
end Go.Lt.P2

namespace Go.Lt.P2
open Go Go.Lt Go.Proofs
def cmI (x y : Int) : Int := if x < y then -1 else if y < x then 1 else 0
def cmP (p q : Pr) : Int := if cmI p.1 q.1 ≠ 0 then cmI p.1 q.1 else cmI p.2 q.2
theorem cmP_lt (p q : Pr) : cmP p q < 0 ↔ plt p q := by
  unfold cmP cmI plt
  by_cases a : p.1 < q.1
  · rw [if_pos a, if_pos (by decide)]; omega
  · rw [if_neg a]
    by_cases b : q.1 < p.1
    · rw [if_pos b, if_pos (by decide)]; omega
    · rw [if_neg b, if_neg (by decide)]
      by_cases c : p.2 < q.2
      · rw [if_pos c]; omega
      · rw [if_neg c]
        by_cases d : q.2 < p.2
        · rw [if_pos d]; omega
        · rw [if_neg d]; omega
theorem cmP_refl (p : Pr) : cmP p p = 0 := by
  have : ∀ x, cmI x x = 0 := fun x => by unfold cmI; rw [if_neg (by omega), if_neg (by omega)]
  unfold cmP; rw [this, this]; rfl
theorem r84_spec (x y : Int) : ∃ X, r84 x y H0 = some (cmI x y, X) := by
  obtain ⟨r, X, e, h⟩ := r84_q x y
  exact ⟨X, by rw [e, h]; rfl⟩
theorem r45_two {H : Hp} {b c : Nat} {x y u w : Int} (hb : H.get b = some (.cells [.int .i64 x, .int .i64 y] false)) (hc : H.get c = some (.cells [.int .i64 u, .int .i64 w] false)) :
    r45 ⟨false, b, 0, 2, 2, 0⟩ ⟨false, c, 0, 2, 2, 0⟩ H = some (cmP (x, y) (u, w), H) := by
  have e0 : H.ldI .i64 b (0 + (0 : Int).toNat * 1) = some x := ldI_get hb rfl
  have e1 : H.ldI .i64 b (0 + (1 : Int).toNat * 1) = some y := ldI_get hb rfl
  have f0 : H.ldI .i64 c (0 + (0 : Int).toNat * 1) = some u := ldI_get hc rfl
  have f1 : H.ldI .i64 c (0 + (1 : Int).toNat * 1) = some w := ldI_get hc rfl
  have s1 : w64 ((0 : Int) + 1) = 1 := by decide +kernel
  have s2 : w64 ((1 : Int) + 1) = 2 := by decide +kernel
  obtain ⟨X1, g1⟩ := r84_spec x u
  obtain ⟨X2, g2⟩ := r84_spec y w
  unfold r45
  rw [show FUEL = 18446744073709551613 + 1 + 1 + 1 from rfl, r45_l0]
  simp only [e0, f0, Option.bind_some, g1, s1]
  rw [if_pos (by simp), ck, if_pos (by simp), if_neg (by simp), ck, if_pos (by simp)]
  unfold cmP
  by_cases h : cmI x u ≠ 0
  · rw [if_pos h, if_pos h]
  · rw [if_neg h, if_neg h, r45_l0]
    simp only [e1, f1, Option.bind_some, g2, s2]
    rw [if_pos (by simp), ck, if_pos (by simp), if_neg (by simp), ck, if_pos (by simp)]
    by_cases h2 : cmI y w ≠ 0
    · rw [if_pos h2]
    · rw [if_neg h2, r45_l0, if_neg (by simp), if_neg (by simp)]
      simp only [ne_eq, Classical.not_not] at h2
      rw [h2]
theorem mid {i j : Nat} (h : i + j < 9223372036854775808) : w64 (shrOf .u64 (IntKind.wrap .u64 (w64 ((i : Int) + (j : Int)))) 1) = (((i + j) / 2 : Nat) : Int) := by
  have e1 : w64 ((i : Int) + (j : Int)) = ((i + j : Nat) : Int) := by rw [w64_id (by omega) (by omega)]; push_cast; rfl
  have e2 : IntKind.wrap .u64 ((i + j : Nat) : Int) = ((i + j : Nat) : Int) := by
    unfold IntKind.wrap
    simp [IntKind.signed, IntKind.bits]
    omega
  rw [e1, e2]
  have e3 : shrOf .u64 ((i + j : Nat) : Int) 1 = (((i + j) / 2 : Nat) : Int) := by
    unfold shrOf
    show ((i + j : Nat) : Int).fdiv (2 ^ min 1 64) = _
    rw [show (2 : Int) ^ min 1 64 = 2 from rfl, Int.fdiv_eq_ediv_of_nonneg _ (by decide)]
    omega
  rw [e3, w64_id (by omega) (by omega)]
/-- a function that compares two points -/
def SaysC (a : App) (F : AV) : Prop := ∀ (H : Hp) (p q : Pr), Ok (callv a F [.agg [.int .i64 p.1, .int .i64 p.2], .agg [.int .i64 q.1, .int .i64 q.2]] H) fun r H' => Gr H H' ∧ r = .int .i64 (cmP p q)
/-- BinarySearchFunc finds what is there -/
theorem r43_gen {a : App} {F : AV} (hF : SaysC a F) {H : Hp} {v : Sl} {P : List Pr} {x : Pr} (hv : SL H v P) (hb : P.length ≤ 100000000) (hs : P.Pairwise plt) (hx : x ∈ P) : Ok (r43 a v x.1 x.2 F H) fun r H' => Gr H H' ∧ r.2 = true := by
  unfold r43
  have hlen := hv.len
  refine Ok.box (.nil H) fun A gA c => ?_
  have irr : ∀ z : Pr, ¬ plt z z := fun z hz => by unfold plt at hz; omega
  have tr : ∀ {a b c : Pr}, plt a b → plt b c → plt a c := fun {a b c} p q => by unfold plt at *; omega
  obtain ⟨j, hj, ej⟩ := List.mem_iff_getElem.1 hx
  have lt : ∀ {i j : Nat} (hi : i < P.length) (hj : j < P.length), i < j → plt P[i] P[j] := fun {i j} hi hj h => List.pairwise_iff_getElem.1 hs i j hi hj h
  rw [hlen]
  refine Ok.loop (L := fun K (s : Int × Int) H2 => r43_l0 a K v F H.n P.length s.1 s.2 H2) (fun m s H' => Cx H H' [(H.n, [.int .i64 x.1, .int .i64 x.2])] ∧ ∃ lo hi : Nat, s.1 = lo ∧ s.2 = hi ∧ lo ≤ j ∧ j ≤ hi ∧ hi ≤ P.length ∧ m = hi - lo) ?_ FUEL P.length (0, (P.length : Int)) A (by unfold FUEL; omega) ⟨c, 0, P.length, rfl, rfl, by omega, by omega, by omega, by omega⟩
  rintro K m ⟨s1, s2⟩ H1 ⟨c, lo, hi, rfl, rfl, h1, h2, h3, rfl⟩ ih
  try dsimp only at *
  rw [r43_l0]
  have hg := hv.gr c.g
  by_cases h : lo < hi
  · rw [mid (by omega)]
    have hm : (lo + hi) / 2 < P.length := by omega
    refine Ok.pos (by omega) (Ok.ck (by omega) (Ok.ld (hg.ldI (i := (lo + hi) / 2) (j := 0) hm rfl) (Ok.ld (hg.ldI (i := (lo + hi) / 2) (j := 1) hm rfl) (Ok.cld c (.head _) rfl (Ok.cld c (.head _) rfl (Ok.bind (hF H1 P[(lo + hi) / 2] x) fun r E ⟨gE, hr⟩ => ?_))))))
    subst hr
    have c := c.gr gE
    refine Ok.ld rfl (Ok.ite (fun hc => ?_) fun hc => ?_)
    · have hp := (cmP_lt _ _).1 hc
      have : (lo + hi) / 2 < j := Classical.byContradiction fun q => by
        rcases Nat.lt_or_ge j ((lo + hi) / 2) with h4 | h4
        · have := lt hj hm h4; rw [ej] at this; exact irr _ (tr this hp)
        · have h5 : (lo + hi) / 2 = j := by omega
          have h6 : P[(lo + hi) / 2] = P[j] := by congr 1
          rw [h6, ej] at hp; exact irr _ hp
      rw [w64_succ (by omega)]
      exact ih (hi - ((lo + hi) / 2 + 1)) (_, _) E (by omega) ⟨c, (lo + hi) / 2 + 1, hi, rfl, rfl, by omega, h2, h3, rfl⟩
    · have hp : ¬ plt P[(lo + hi) / 2] x := fun q => hc ((cmP_lt _ _).2 q)
      have : j ≤ (lo + hi) / 2 := Classical.byContradiction fun q => hp (by rw [← ej]; exact lt hm hj (by omega))
      exact ih ((lo + hi) / 2 - lo) (_, _) E (by omega) ⟨c, lo, (lo + hi) / 2, rfl, rfl, h1, this, by omega, rfl⟩
  · have e : lo = j := by omega
    subst e
    refine Ok.neg (by omega) (Ok.pos (by omega) (Ok.ck (by omega) (Ok.ld (hg.ldI (i := lo) (j := 0) hj rfl) (Ok.ld (hg.ldI (i := lo) (j := 1) hj rfl) (Ok.cld c (.head _) rfl (Ok.cld c (.head _) rfl (Ok.bind (hF H1 P[lo] x) fun r E ⟨gE, hr⟩ => ?_)))))))
    subst hr
    refine Ok.ld rfl (Ok.ret ⟨c.g.trans gE, ?_⟩)
    rw [ej, cmP_refl]
    rfl
end Go.Lt.P2

namespace Go.Lt.P2
open Go Go.Lt Go.Proofs
/-! ### chains -/
def lft (a b c : Pr) : Int := (b.1 - a.1) * (c.2 - b.2) - (b.2 - a.2) * (c.1 - b.1)
theorem lft_eq (a b c : Pr) : (b.1 - a.1) * (c.2 - a.2) - (b.2 - a.2) * (c.1 - a.1) = lft a b c := by unfold lft; grind
def near3 (p : Pr) : Prop := (-1000 ≤ p.1 ∧ p.1 ≤ 1000) ∧ -1000 ≤ p.2 ∧ p.2 ≤ 1000
/-- what is left of a stack, the last one first -/
def pp (x : Pr) : List Pr → List Pr
  | b :: a :: r => if lft a b x ≤ 0 then pp x (a :: r) else b :: a :: r
  | s => s
def stk (l : List Pr) : List Pr := l.foldl (fun st x => x :: pp x st) []
def chn (l : List Pr) : List Pr := (stk l).reverse
theorem stk_snoc (l : List Pr) (x : Pr) : stk (l ++ [x]) = x :: pp x (stk l) := by unfold stk; rw [List.foldl_append]; rfl
theorem pp_sub (x : Pr) : ∀ (s : List Pr), ∀ p ∈ pp x s, p ∈ s
  | [], _, h => h
  | [_], _, h => h
  | b :: a :: r, p, h => by
    rw [pp] at h
    split at h
    · exact .tail _ (pp_sub x (a :: r) p h)
    · exact h
theorem pp_len (x : Pr) : ∀ (s : List Pr), (pp x s).length ≤ s.length
  | [] => Nat.le_refl _
  | [_] => Nat.le_refl _
  | b :: a :: r => by
    rw [pp]
    split
    · have := pp_len x (a :: r); simp only [List.length_cons] at *; omega
    · exact Nat.le_refl _
theorem pp_last (x d : Pr) : ∀ (s : List Pr), (pp x s).getLastD d = s.getLastD d
  | [] => rfl
  | [_] => rfl
  | b :: a :: r => by
    rw [pp]
    split
    · rw [pp_last x d (a :: r)]; simp
    · rfl
theorem pp_ne (x : Pr) : ∀ {s : List Pr}, s ≠ [] → pp x s ≠ []
  | [], h => absurd rfl h
  | [_], h => h
  | b :: a :: r, _ => by
    rw [pp]
    split
    · exact pp_ne x (by simp)
    · simp
theorem stk_sub : ∀ (l : List Pr), ∀ p ∈ stk l, p ∈ l := by
  have key : ∀ n (l : List Pr), l.length = n → ∀ p ∈ stk l, p ∈ l := by
    intro n
    induction n with
    | zero => intro l hl p hp; rw [List.length_eq_zero_iff.1 hl] at hp; exact absurd hp (by simp [stk])
    | succ n ih =>
      intro l hl p hp
      have hne : l ≠ [] := by rintro rfl; simp at hl
      rw [← List.dropLast_concat_getLast hne, stk_snoc] at hp
      rcases List.mem_cons.1 hp with rfl | hp
      · exact List.getLast_mem hne
      · exact List.dropLast_subset l (ih _ (by simp [hl]) p (pp_sub _ _ p hp))
  exact fun l => key _ l rfl
theorem stk_len : ∀ (l : List Pr), (stk l).length ≤ l.length := by
  have key : ∀ n (l : List Pr), l.length = n → (stk l).length ≤ l.length := by
    intro n
    induction n with
    | zero => intro l hl; rw [List.length_eq_zero_iff.1 hl]; simp [stk]
    | succ n ih =>
      intro l hl
      have hne : l ≠ [] := by rintro rfl; simp at hl
      have h1 := ih l.dropLast (by simp [hl])
      rw [← List.dropLast_concat_getLast hne, stk_snoc]
      have h2 := pp_len (l.getLast hne) (stk l.dropLast)
      simp only [List.length_cons, List.length_append, List.length_singleton]
      omega
  exact fun l => key _ l rfl
def hul (l : List Pr) : List Pr := (chn l).dropLast ++ (chn l.reverse).dropLast
theorem But.grB {T : Type} [El T] {H0 H H' : Hp} {v : Sl} {l : List T} (h : But v H H') (b : Buf H0.n H v l) (g : Gr H0 H) : Gr H0 H' :=
  ⟨Nat.le_trans g.1 h.1, fun x hx => by rw [h.2 x (Nat.lt_of_lt_of_le hx g.1) fun hn => by have := (b.lt hn).2; omega]; exact g.2 x hx⟩
/-- the two last ones of a stack -/
theorem rd2 {H : Hp} {v : Sl} {pre r : List Pr} {a b : Pr} {n : Nat} (h : SL H v (pre ++ (b :: a :: r).reverse)) (hn : n = v.len) :
    (H.ldI .i64 v.b (v.o + (n - 2) * 2) = some a.1 ∧ H.ldI .i64 v.b (v.o + (n - 2) * 2 + 1) = some a.2) ∧ H.ldI .i64 v.b (v.o + (n - 1) * 2) = some b.1 ∧ H.ldI .i64 v.b (v.o + (n - 1) * 2 + 1) = some b.2 := by
  have hl := h.len
  have e : pre ++ (b :: a :: r).reverse = (pre ++ r.reverse) ++ [a, b] := by simp
  rw [e] at h hl
  have hlen : ((pre ++ r.reverse) ++ [a, b]).length = (pre ++ r.reverse).length + 2 := by rw [List.length_append]; rfl
  have i1 : n - 2 < ((pre ++ r.reverse) ++ [a, b]).length := by omega
  have i2 : n - 1 < ((pre ++ r.reverse) ++ [a, b]).length := by omega
  have e1 : ((pre ++ r.reverse) ++ [a, b])[n - 2] = a := by
    have hd : n - 2 - (pre ++ r.reverse).length = 0 := by omega
    rw [List.getElem_append_right (by omega)]; simp only [hd]; rfl
  have e2 : ((pre ++ r.reverse) ++ [a, b])[n - 1] = b := by
    have hd : n - 1 - (pre ++ r.reverse).length = 1 := by omega
    rw [List.getElem_append_right (by omega)]; simp only [hd]; rfl
  exact ⟨⟨h.ldI (i := n - 2) (j := 0) i1 (by rw [e1]; rfl), h.ldI (i := n - 2) (j := 1) i1 (by rw [e1]; rfl)⟩, h.ldI (i := n - 1) (j := 0) i2 (by rw [e2]; rfl), h.ldI (i := n - 1) (j := 1) i2 (by rw [e2]; rfl)⟩
/-- append behind a slice without room -/
theorem SL.app0 {T : Type} [El T] {H : Hp} {v : Sl} {l x : List T} (h : SL H v l) (hc : v.cap = v.len) (ho : v.opn = 0) {es k : Nat} {cs : List AV} (hes : es = El.sz T) (hcs : cs = encs x) (hk : k = x.length) (hb : l.length + x.length ≤ 4294967296) : Ok (H.app es v cs k) fun w H' => Gr H H' ∧ SL H' w (l ++ x) := by
  subst hes; subst hcs; subst hk
  have hlen := h.len
  unfold Hp.app
  rw [if_pos (by omega)]
  by_cases h0 : x = []
  · subst h0
    rw [if_pos (by simp; omega), List.append_nil]
    refine Ok.ite (fun hn => Ok.ret ⟨.refl _, h⟩) fun hn => ?_
    simp only [encs, List.flatMap_nil, Hp.sts, Option.map_some]
    have : (⟨false, v.b, v.o, v.len + ([] : List T).length, v.cap, v.opn⟩ : Sl) = v := by
      cases v; simp at hn ⊢; exact hn
    rw [this]
    exact Ok.ret ⟨.refl _, h⟩
  · have hp := List.length_pos_iff.2 h0
    rw [if_neg (by omega), h.lds]
    simp only [Option.bind_some]
    rw [if_pos ho]
    refine Ok.ret ⟨.push _ _, .of_get (ro := false) ?_ rfl (by rw [List.length_append]; dsimp only; omega) (Nat.le_refl _) (.inr rfl) rfl⟩
    rw [encs_append]
    exact Hp.get_push_new _ _
end Go.Lt.P2

namespace Go.Lt.P2
open Go Go.Lt Go.Proofs
/-! ### greatest values -/
def isMxQ (f : Pq → Rat) (l : List Pq) (m : Rat) : Prop := (∃ p ∈ l, f p = m) ∧ ∀ p ∈ l, f p ≤ m
theorem isMxQ.uniq {f : Pq → Rat} {l : List Pq} {a b : Rat} (h : isMxQ f l a) (k : isMxQ f l b) : a = b := by
  obtain ⟨⟨p, hp, e⟩, h2⟩ := h
  obtain ⟨⟨q, hq, e'⟩, k2⟩ := k
  have := h2 q hq; have := k2 p hp; grind
def isMxI (f : Pr → Int) (l : List Pr) (m : Int) : Prop := (∃ p ∈ l, f p = m) ∧ ∀ p ∈ l, f p ≤ m
theorem isMxI.uniq {f : Pr → Int} {l : List Pr} {a b : Int} (h : isMxI f l a) (k : isMxI f l b) : a = b := by
  obtain ⟨⟨p, hp, e⟩, h2⟩ := h
  obtain ⟨⟨q, hq, e'⟩, k2⟩ := k
  have := h2 q hq; have := k2 p hp; omega
def near9 (a b : Int) : Prop := (-9 ≤ a ∧ a ≤ 9) ∧ -9 ≤ b ∧ b ≤ 9
instance (a b : Int) : Decidable (near9 a b) := by unfold near9; infer_instance
theorem cmp_gt {p q : Rat} : (0 < cmpq p q) ↔ q < p := by
  unfold cmpq
  by_cases h : p < q
  · rw [if_pos h]; constructor
    · intro k; exact absurd k (by decide)
    · intro k; grind
  · rw [if_neg h]
    by_cases k : q < p
    · rw [if_pos k]; simp [k]
    · rw [if_neg k]; simp [k]
/-- a slice with something in it lies in the heap -/
theorem SL.blt {T : Type} [El T] {H : Hp} {v : Sl} {l : List T} (h : SL H v l) (hne : l ≠ []) : v.b < H.n := by
  have hl := List.length_pos_iff.2 hne
  have hlen := h.len
  have hz := El.pos (T := T)
  have h2 : 0 < v.len * El.sz T := Nat.mul_pos (by omega) hz
  have hd := h.lds
  obtain ⟨n, hn⟩ : ∃ n, v.len * El.sz T = n + 1 := ⟨v.len * El.sz T - 1, by omega⟩
  rw [hn] at hd
  unfold Hp.lds at hd
  cases hld : H.ld v.b v.o with
  | none => rw [hld] at hd; simp at hd
  | some x =>
    unfold Hp.ld at hld
    cases hg : H.get v.b with
    | none => rw [hg] at hld; simp at hld
    | some k => exact Hp.get_lt hg
end Go.Lt.P2

namespace Go.Lt.P2
open Go Go.Lt Go.Proofs
def flp (p : Pq) : Pr := (p.1.floor, p.2.floor)
def bup (st : Bst) (c : Cn) : Bst := ((up1 (up0 st (flp c.1)) (flp c.1)).1, (up1 (up0 st (flp c.1)) (flp c.1)).2.1, true)
def bxs (q : List Cn) : Bst := q.foldl bup ((0, 0), (0, 0), false)
theorem rnd0 {k n : Nat} {H : Hp} {st : Bst} {x : Cn} (c : Cb H H (bxE n st .ready)) (hx : qb 320 32 x.1.1 ∧ qb 320 32 x.1.2) : Ok (callv (app (k + 1)) (.yld (n + 4)) (argC x) H) fun r H' => r = .bool true ∧ Cb H H' (bxE n (bup st x) .ready) := by
  show Ok (ydisp (app k) (n + 4) (argC x) H) _
  unfold ydisp
  have hl : H.get (n + 4) = _ := c.e (n + 4, .loop .ready none 0 59 [(2, .ptr n 0), (3, .ptr (n + 1) 0), (4, .ptr (n + 2) 0)]) (by unfold bxE; simp)
  rw [hl]
  refine Ok.bind (P := fun r H' => r = none ∧ Cb H H' (bxE n (bup st x) .busy)) ?_ ?_
  · unfold r101q0
    refine Ok.kalo c fun A gA c => Ok.kbeg c 5 rfl fun B nB _ c => ?_
    have gA1 := gA.1
    refine Ok.kld c (.head _) rfl (Ok.kld c (.head _) rfl (Ok.own (r68_q hx.1 (by decide) (by decide)) fun X => ?_))
    refine Ok.kld c (.head _) rfl (Ok.kld c (.head _) rfl (Ok.own (r68_q hx.2 (by decide) (by decide)) fun X => ?_))
    refine Ok.kalo c fun C _ c => ?_
    have hF : FUEL = (FUEL - 3) + 3 := by unfold FUEL; omega
    rw [hF]
    have c : Cb H C ((B.n, cel [.int .i64 (flp x.1).1, .int .i64 (flp x.1).2]) :: (H.n, _) :: bxE n st .busy) := c
    refine it0 c fun D nD c => it1 c fun E nE c => ?_
    rw [r101q0_l0]
    refine Ok.neg (by decide) (Ok.kst1 c 4 rfl (by show _ < 1; decide) fun F nF _ c => Ok.ret ⟨rfl, ?_⟩)
    have c : Cb H F ((B.n, cel [.int .i64 (flp x.1).1, .int .i64 (flp x.1).2]) :: (H.n, _) :: bxE n (bup st x) .busy) := c
    exact (c.tl rfl (by show H.n ≤ B.n; omega)).tl rfl (Nat.le_refl _)
  · rintro r H' ⟨rfl, c⟩
    exact Ok.knext c 4 rfl fun A _ _ c => ⟨rfl, c⟩
/-- box's rounds -/
def bxI (B : Hp) (P : Nat → Prop) (q : List Cn) (H : Hp) : Prop := Gr B H ∧ (∀ p ∈ bxE B.n (bxs q) .ready, H.get p.1 = some p.2) ∧ ∀ b, P b → b < B.n ∨ B.n + 5 ≤ b
theorem bxE_nd (n : Nat) (st : Bst) (ls : LoopState) : (bxE n st ls).Pairwise fun p q => p.1 ≠ q.1 := by unfold bxE; simp
theorem bxE_key {n : Nat} {st : Bst} {ls : LoopState} {p : Nat × Blk} (h : p ∈ bxE n st ls) : n ≤ p.1 ∧ p.1 < n + 5 := by
  unfold bxE at h
  simp only [List.mem_cons, List.not_mem_nil, or_false] at h
  rcases h with rfl | rfl | rfl | rfl | rfl <;> dsimp only <;> omega
theorem bxY {k : Nat} {l : List Sd} (hs : ∀ s ∈ l, sideP s) (B : Hp) : Yd (app (k + 1)) (.yld (B.n + 4)) argC (cs l) B (bxI B) (fun _ _ => False) where
  grow := fun {P P' q H H'} h g hP => ⟨h.1.trans g, fun p hp => by rw [g.2 _ (Hp.get_lt (h.2.1 p hp))]; exact h.2.1 p hp, fun b hb => by
    rcases hP b hb with h1 | h1
    · exact h.2.2 b h1
    · have : B.n + 4 < H.n := Hp.get_lt (h.2.1 (B.n + 4, .loop .ready none 0 59 [(2, .ptr B.n 0), (3, .ptr (B.n + 1) 0), (4, .ptr (B.n + 2) 0)]) (by unfold bxE; simp))
      omega⟩
  base := fun h => h.1
  step := fun {P q H x} h hx => by
    have hm := cs_mem (c := x) (hx.subset (by simp))
    have c : Cb H H (bxE B.n (bxs q) .ready) := .start h.2.1 (bxE_nd _ _ _)
    refine Ok.mono (rnd0 (k := k) c (by rw [hm.2.2.2.1]; exact meet_qb (hs _ hm.1) (hs _ hm.2.1) hm.2.2.1)) fun r H' ⟨hr, c'⟩ => ⟨c'.n, .inl ⟨hr, ⟨⟨Nat.le_trans h.1.1 c'.n, fun b hb => ?_⟩, ?_, h.2.2⟩, fun b hb hP => ?_⟩⟩
    · rw [c'.g b (Nat.lt_of_lt_of_le hb h.1.1) fun p hp => by have := bxE_key hp; omega]
      exact h.1.2 b hb
    · have : bxs (q ++ [x]) = bup (bxs q) x := by unfold bxs; rw [List.foldl_append]; rfl
      rw [this]
      exact c'.e
    · exact c'.g b hb fun p hp => by have := bxE_key hp; have := h.2.2 b hP; omega
/-- box -/
theorem r101_ok {k : Nat} {H : Hp} {v : Sl} {l : List Sd} (hv : SL H v l) (hb : l.length ≤ 1000) (hs : ∀ s ∈ l, sideP s) : Ok (r101 (appA (k + 2)) v H) fun r H' => Gr H H' ∧ r = ((bxs (cs l)).1.1, (bxs (cs l)).1.2, (bxs (cs l)).2.1.1, (bxs (cs l)).2.1.2, (bxs (cs l)).2.2) := by
  unfold r101
  refine Ok.lt ?_
  have c0 : Cb H H [] := .start (fun _ h => by cases h) .nil
  have c := (((c0.push (cel [.int .i64 0, .int .i64 0])).push (cel [.int .i64 0, .int .i64 0])).push (cel [.bool false])).push .dfr
  have c := c.push (.loop .ready none 0 59 [(2, .ptr H.n 0), (3, .ptr (H.n + 1) 0), (4, .ptr (H.n + 2) 0)])
  simp only [Hp.n_push] at c ⊢
  generalize ((((H.push (cel [.int .i64 0, .int .i64 0])).push (cel [.int .i64 0, .int .i64 0])).push (cel [.bool false])).push .dfr).push (.loop .ready none 0 59 [(2, .ptr H.n 0), (3, .ptr (H.n + 1) 0), (4, .ptr (H.n + 2) 0)]) = A at *
  have gA : Gr H A := ⟨c.n, fun b hb => c.g b hb fun p hp => by simp only [List.mem_cons, List.not_mem_nil, or_false] at hp; rcases hp with rfl | rfl | rfl | rfl | rfl <;> dsimp only <;> omega⟩
  have hI : bxI H (fun _ => False) [] A := ⟨gA, fun p hp => c.e p (by
    unfold bxE bxs at hp
    simp only [List.mem_cons, List.not_mem_nil, or_false, List.foldl_nil] at hp ⊢
    rcases hp with rfl | rfl | rfl | rfl | rfl <;> simp), fun _ h => h.elim⟩
  refine Ok.bind (P := fun _ H' => bxI H (fun _ => False) (cs l) H') ?_ fun r D hD => ?_
  · show Ok ((r66 (app (k + 1)) v (.yld (H.n + 4)) A).map fun p => (AV.tup [], p.2)) _
    have h1 : Ok (r66 (app (k + 1)) v (.yld (H.n + 4)) A) fun _ H' => bxI H (fun _ => False) (cs l) H' := by
      refine Ok.mono (r66_ok (a95 k) (bxY hs H) hv hb hs hI) fun _ H' h => ?_
      rcases h with h | ⟨_, _, h⟩
      · exact h
      · exact h.elim
    obtain ⟨r, H', e, h⟩ := h1
    rw [e]
    exact Ok.ret h
  · obtain ⟨g, hE, _⟩ := hD
    generalize bxs (cs l) = st at *
    have c : Cb D D (bxE H.n st .ready) := .start hE (bxE_nd _ _ _)
    refine Ok.kend c 4 rfl (.inl rfl) fun E nE _ c => Ok.pos rfl ?_
    refine Ok.kld c (.head _) rfl (Ok.kld c (.head _) rfl (Ok.kld c (.tail _ (.head _)) rfl (Ok.kld c (.tail _ (.head _)) rfl (Ok.kldB c (.tail _ (.tail _ (.head _))) rfl ?_))))
    refine Ok.kst c 0 rfl rfl fun F nF _ c => ?_
    have c1 := c
    refine Ok.kst c 1 rfl rfl fun G nG _ c => ?_
    have c2 := c
    refine Ok.kst1 c 2 rfl (by show _ < 1; decide) fun I nI _ c => ?_
    refine Ok.kck c1 (.tail _ (.head _)) rfl (Ok.kck c1 (.tail _ (.head _)) rfl (Ok.kckB c1 (.tail _ (.tail _ (.head _))) rfl (Ok.kck c2 (.tail _ (.head _)) rfl (Ok.kck c2 (.tail _ (.head _)) rfl (Ok.kckB c2 (.tail _ (.tail _ (.head _))) rfl ?_)))))
    refine Ok.kld c (.head _) rfl (Ok.kld c (.head _) rfl (Ok.kld c (.tail _ (.head _)) rfl (Ok.kld c (.tail _ (.head _)) rfl (Ok.kldB c (.tail _ (.tail _ (.head _))) rfl ?_))))
    refine Ok.kdfr c (.tail _ (.tail _ (.tail _ (.head _)))) (Ok.ret ⟨⟨?_, fun b hb => ?_⟩, rfl⟩)
    · have := (c.kill 3 rfl).n
      exact Nat.le_trans g.1 this
    · have c := c.kill 3 rfl
      have hb' : b < D.n := Nat.lt_of_lt_of_le hb g.1
      rw [c.g b hb' fun p hp => ?_]
      · exact g.2 b hb
      · simp only [bxE, List.set, List.mem_cons, List.not_mem_nil, or_false] at hp
        rcases hp with rfl | rfl | rfl | rfl | rfl <;> dsimp only <;> omega
end Go.Lt.P2
