/- PLAIN LAWS OF WHAT IS COMPUTED, for the statement 'CutsInside'. Nothing is asked of the input. -/
import Derived.Test.YteefkljbmjjncaaG7A
import Derived.Test.YteefkljbmjjncaaLB
set_option linter.unusedVariables false
set_option linter.unusedSimpArgs false
namespace Go.Lt.P2
open Go Go.Lt Go.Proofs
abbrev Pr := Int × Int
abbrev Sd := Int × Int × Int
theorem mul_bd {x y A B : Int} (h1 : -A ≤ x) (h2 : x ≤ A) (h3 : -B ≤ y) (h4 : y ≤ B) : -(A * B) ≤ x * y ∧ x * y ≤ A * B := by
  have p1 : 0 ≤ (A - x) * (B - y) := Int.mul_nonneg (by omega) (by omega)
  have p2 : 0 ≤ (A + x) * (B + y) := Int.mul_nonneg (by omega) (by omega)
  have p3 : 0 ≤ (A - x) * (B + y) := Int.mul_nonneg (by omega) (by omega)
  have p4 : 0 ≤ (A + x) * (B - y) := Int.mul_nonneg (by omega) (by omega)
  constructor <;> grind
theorem gcd_step (a b : Nat) : Nat.gcd b (a % b) = Nat.gcd a b := by
  rw [Nat.gcd_comm a b, Nat.gcd_rec b a, Nat.gcd_comm]
theorem w64_abs {a : Int} (ha : a.natAbs < 9223372036854775808) : (if a < w64 (0 - a) then w64 (0 - a) else a) = (a.natAbs : Int) := by
  rw [w64_id (by omega) (by omega)]
  split <;> omega
/-- a side -/
def sideP (s : Sd) : Prop := (-4 ≤ s.1 ∧ s.1 ≤ 4) ∧ (-4 ≤ s.2.1 ∧ s.2.1 ≤ 4) ∧ ¬ (s.1 = 0 ∧ s.2.1 = 0) ∧ (-40 ≤ s.2.2 ∧ s.2.2 ≤ 40)
instance (s : Sd) : Decidable (sideP s) := by unfold sideP; infer_instance
theorem sts3 (H : Hp) (x y z a b c : AV) : ∃ D, (H.push (.cells [a, b, c] false)).sts H.n 0 [x, y, z] = some D ∧ D.get H.n = some (.cells [x, y, z] false) ∧ Gr H D ∧ D.n = H.n + 1 := by
  obtain ⟨D, h1, h2, h3, h4⟩ := sts_blk [x, y, z] 0 (H.push (.cells [a, b, c] false)) [a, b, c] (Hp.get_push_new _ _) (by simp)
  refine ⟨D, h1, h2, ⟨by rw [h3]; simp, fun q hq => ?_⟩, by rw [h3]; simp⟩
  rw [h4 q (by omega), Hp.get_push_old _ _ hq]
end Go.Lt.P2

namespace Go.Lt.P2
open Go Go.Lt Go.Proofs
theorem gcdI {H : Hp} : ∀ (K : Nat) (a b : Int), b.natAbs < K → a.natAbs < 9223372036854775808 → b.natAbs < 9223372036854775808 → r94_l0 K a b H = some ((Nat.gcd a.natAbs b.natAbs : Int), H) := by
  intro K
  induction K with
  | zero => intro a b h; omega
  | succ K ih =>
    intro a b h ha hb
    rw [r94_l0]
    by_cases h0 : b = 0
    · subst h0
      rw [if_neg (by simp), w64Abs ha]
      simp
    · have hm := Nat.mod_lt a.natAbs (show 0 < b.natAbs by omega)
      have e := Int.natAbs_tmod a b
      rw [if_pos h0, ck, if_pos h0, ih b (Int.tmod a b) (by omega) hb (by omega), e, gcd_step]
/-- frac -/
theorem r100_q {a b : Int} (ha : a.natAbs < 9223372036854775807) (hb : b ≠ 0) (hb2 : b.natAbs < 9223372036854775807) (H : Hp) : Ok (r100 a b H) fun r _ => r = fq (dv a b) := by
  have key : ∀ {a b : Int} {A : Hp} {E : List (Nat × List AV)}, a.natAbs < 9223372036854775808 → 0 < b → b < 9223372036854775808 → Cx H A ((H.n, [.int .i64 0, .int .i64 0]) :: E) → Ok (r100_j0 a b H.n A) fun r _ => r = fq (dv a b) := fun {a b A E} ha hb hb2 c => by
    have hg : 0 < Nat.gcd a.natAbs b.natAbs := Nat.gcd_pos_of_pos_right _ (by omega)
    unfold r100_j0
    refine Ok.own (b := (Nat.gcd a.natAbs b.natAbs : Int)) ⟨_, _, gcdI FUEL a b (by unfold FUEL; omega) ha (by omega), rfl⟩ fun X => ?_
    dsimp only
    rw [tdivSmall ha, tdivSmall (by omega)]
    refine Ok.ck (by omega) (Ok.ck (by omega) (Ok.cst c 0 rfl rfl fun D _ _ c => ?_))
    refine Ok.cld c (.head _) rfl (Ok.cld c (.head _) rfl (Ok.ret ?_))
    rw [fq_gcdv hb]
  unfold r100
  refine Ok.box (.nil H) fun A _ c => Ok.ite (fun h => ?_) fun h => ?_
  · rw [w64_id (by omega) (by omega), w64_id (by omega) (by omega)]
    have e : dv a b = dv (0 - a) (0 - b) := by rw [Int.zero_sub, Int.zero_sub, dv_neg]
    rw [e]
    exact key (by omega) (by omega) (by omega) c
  · exact key (by omega) (by omega) (by omega) c
theorem r100_int {a : Int} (ha : a.natAbs < 9223372036854775807) (H : Hp) : Ok (r100 a 1 H) fun r _ => r = fq (a : Rat) := by
  have := r100_q (a := a) (b := 1) ha (by decide) (by decide) H
  rw [dv_int] at this
  exact this
/-- compare -/
theorem r84_q (a b : Int) : Ok (r84 a b H0) fun r _ => r = if a < b then -1 else if b < a then 1 else 0 := by
  unfold r84 r107
  refine Ok.own (b := false) (Ok.ret (by simp)) fun X => Ok.own (b := false) (Ok.ret (by simp)) fun Y => Ok.neg (by simp) (Ok.neg (by simp) ?_)
  refine Ok.ite (fun c => Ok.ret (by rw [if_pos c])) fun c => Ok.ite (fun d => Ok.ret (by rw [if_neg c, if_pos d])) fun d => Ok.ret (by rw [if_neg c, if_neg d])
theorem r89_q {N D N' D' : Int} {p q : Rat} (hp : qb N D p) (hq : qb N' D' q) (h1 : N * D' < 9223372036854775808) (h2 : N' * D < 9223372036854775808) : Ok (r89 (fq p).1 (fq p).2 (fq q).1 (fq q).2 H0) fun r _ => r = cmpq p q := by
  obtain ⟨a1, a2, a3⟩ := hp
  obtain ⟨k1, k2, k3⟩ := hq
  have ap := fq_pos p
  have kp := fq_pos q
  have b1 := mulBd (A := N) (B := D') (x := (fq p).1) (y := (fq q).2) a1 a2 (by omega) k3
  have b3 := mulBd (A := N') (B := D) (x := (fq q).1) (y := (fq p).2) k1 k2 (by omega) a3
  unfold r89
  refine Ok.lt (Ok.ld rfl (Ok.ld rfl (Ok.ld rfl (Ok.ld rfl ?_))))
  rw [w64_id (by omega) (by omega), w64_id (by omega) (by omega)]
  refine Ok.own (r84_q _ _) fun X => Ok.ret ?_
  dsimp only
  unfold cmpq
  simp only [fq_lt]
/-- plus, times -/
theorem r98_q {p q : Rat} {N D N' D' : Int} (hp : qb N D p) (hq : qb N' D' q) (h1 : N * D' < 1000000000000000000) (h2 : N' * D < 1000000000000000000) (h3 : D * D' < 1000000000000000000) : Ok (r98 (fq p).1 (fq p).2 (fq q).1 (fq q).2 H0) fun r _ => r = fq (p + q) := by
  have e := fq_add p q
  obtain ⟨a1, a2, a3⟩ := hp
  obtain ⟨k1, k2, k3⟩ := hq
  have ap := fq_pos p
  have kp := fq_pos q
  have b1 := mulBd (A := N) (B := D') (x := (fq p).1) (y := (fq q).2) a1 a2 (by omega) k3
  have b2 := mulBd (A := N') (B := D) (x := (fq q).1) (y := (fq p).2) k1 k2 (by omega) a3
  have b3 := mulBd (A := D) (B := D') (x := (fq p).2) (y := (fq q).2) (by omega) a3 (by omega) k3
  have b4 := Int.mul_pos ap kp
  unfold r98
  refine Ok.box3 (.nil H0) fun A _ c => Ok.cld c (.tail _ (.tail _ (.head _))) rfl (Ok.cld c (.tail _ (.head _)) rfl (Ok.cld c (.tail _ (.head _)) rfl (Ok.cld c (.tail _ (.tail _ (.head _))) rfl (Ok.cld c (.tail _ (.tail _ (.head _))) rfl (Ok.cld c (.tail _ (.head _)) rfl ?_)))))
  rw [w64_id (n := (fq p).1 * (fq q).2) (by omega) (by omega), w64_id (n := (fq q).1 * (fq p).2) (by omega) (by omega), w64_id (n := (fq p).2 * (fq q).2) (by omega) (by omega), w64_id (by omega) (by omega)]
  refine Ok.own (r100_q (by omega) (by omega) (by omega) H0) fun X => ?_
  rw [e]
  exact Ok.cst c 0 rfl rfl fun B _ _ c => Ok.cld c (.head _) rfl (Ok.cld c (.head _) rfl (Ok.ret rfl))
theorem r99_q {q : Rat} {k K N D : Int} (hk : -K ≤ k ∧ k ≤ K) (hq : qb N D q) (h1 : K * N < 1000000000000000000) (h2 : D < 1000000000000000000) : Ok (r99 k (fq q).1 (fq q).2 H0) fun r _ => r = fq ((k : Rat) * q) := by
  obtain ⟨k1, k2, k3⟩ := hq
  have kp := fq_pos q
  have b1 := mulBd (A := K) (B := N) (x := k) (y := (fq q).1) hk.1 hk.2 k1 k2
  have e : dv (k * (fq q).1) (fq q).2 = (k : Rat) * q := by
    have := dv_mul (a := k) (b := 1) (c := (fq q).1) (d := (fq q).2) (by decide) kp
    rw [Int.one_mul, dv_fq, dv_int] at this
    exact this
  unfold r99
  refine Ok.box2 (.nil H0) fun A _ c => Ok.cld c (.tail _ (.head _)) rfl (Ok.cld c (.tail _ (.head _)) rfl ?_)
  rw [w64_id (by omega) (by omega)]
  refine Ok.own (r100_q (by omega) (by omega) (by omega) H0) fun X => ?_
  rw [e]
  exact Ok.cst c 0 rfl rfl fun B _ _ c => Ok.cld c (.head _) rfl (Ok.cld c (.head _) rfl (Ok.ret rfl))
/-- points of the plane -/
abbrev Pq := Rat × Rat
def pt (p : Pq) : Int × Int × Int × Int := ((fq p.1).1, (fq p.1).2, (fq p.2).1, (fq p.2).2)
def pc4 (p : Pq) : List AV := [.int .i64 (fq p.1).1, .int .i64 (fq p.1).2, .int .i64 (fq p.2).1, .int .i64 (fq p.2).2]
def sc (s : Sd) : List AV := [.int .i64 s.1, .int .i64 s.2.1, .int .i64 s.2.2]
def qp (p : Pq) : Prop := qb 10000 100 p.1 ∧ qb 10000 100 p.2
def atq (a b : Int) (p : Pq) : Rat := (a : Rat) * p.1 + (b : Rat) * p.2
def lqs (s : Sd) (p : Pq) : Prop := atq s.1 s.2.1 p ≤ (s.2.2 : Rat)
instance (s : Sd) (p : Pq) : Decidable (lqs s p) := by unfold lqs; infer_instance
def inP (l : List Sd) (p : Pq) : Prop := ∀ s ∈ l, lqs s p
instance (l : List Sd) (p : Pq) : Decidable (inP l p) := by unfold inP; infer_instance
theorem atq_qb {a b : Int} {p : Pq} (ha : -24 ≤ a ∧ a ≤ 24) (hb : -24 ≤ b ∧ b ≤ 24) (hp : qp p) : qb 48000000 10000 (atq a b p) := by
  have h1 := (qb_int (a := a) (N := 24) (D := 1) (by omega) (by omega) (by omega)).mul hp.1
  have h2 := (qb_int (a := b) (N := 24) (D := 1) (by omega) (by omega) (by omega)).mul hp.2
  exact (h1.add h2).mono (by decide) (by decide)
/-- at -/
theorem r69_q {a b c : Int} {p : Pq} (ha : -24 ≤ a ∧ a ≤ 24) (hb : -24 ≤ b ∧ b ≤ 24) (hp : qp p) : Ok (r69 a b c (fq p.1).1 (fq p.1).2 (fq p.2).1 (fq p.2).2 H0) fun r _ => r = fq (atq a b p) := by
  have h1 := (qb_int (a := a) (N := 24) (D := 1) (by omega) (by omega) (by omega)).mul hp.1
  have h2 := (qb_int (a := b) (N := 24) (D := 1) (by omega) (by omega) (by omega)).mul hp.2
  unfold r69
  refine Ok.box3 (.nil H0) fun A _ c => Ok.cld c (.tail _ (.tail _ (.head _))) rfl (Ok.cld c (.tail _ (.head _)) rfl (Ok.cld c (.tail _ (.head _)) rfl (Ok.own (r99_q (K := 24) (by omega) hp.1 (by decide) (by decide)) fun X => ?_)))
  refine Ok.cld c (.tail _ (.tail _ (.head _))) rfl (Ok.cld c (.tail _ (.head _)) rfl (Ok.cld c (.tail _ (.head _)) rfl (Ok.own (r99_q (K := 24) (by omega) hp.2 (by decide) (by decide)) fun X => ?_)))
  refine Ok.own (r98_q h1 h2 (by decide) (by decide) (by decide)) fun X => ?_
  exact Ok.cst c 0 rfl rfl fun B _ _ c => Ok.cld c (.head _) rfl (Ok.cld c (.head _) rfl (Ok.ret rfl))
/-- keeps -/
theorem r70_q {a b c : Int} {p : Pq} (ha : -24 ≤ a ∧ a ≤ 24) (hb : -24 ≤ b ∧ b ≤ 24) (hc : -100000000 ≤ c ∧ c ≤ 100000000) (hp : qp p) : Ok (r70 a b c (fq p.1).1 (fq p.1).2 (fq p.2).1 (fq p.2).2 H0) fun r _ => r = decide (lqs (a, b, c) p) := by
  unfold r70
  refine Ok.box2 (.nil H0) fun A _ cx => Ok.cld cx (.tail _ (.head _)) rfl (Ok.cld cx (.tail _ (.head _)) rfl (Ok.cld cx (.tail _ (.head _)) rfl (Ok.cld cx (.head _) rfl (Ok.cld cx (.head _) rfl (Ok.cld cx (.head _) rfl (Ok.cld cx (.head _) rfl (Ok.own (r69_q ha hb hp) fun X => ?_)))))))
  refine Ok.cld cx (.tail _ (.head _)) rfl (Ok.own (r100_int (by omega) H0) fun X => Ok.own (r89_q (atq_qb ha hb hp) (qb_int (a := c) (N := 100000000) (D := 1) (by omega) (by omega) (by omega)) (by decide) (by decide)) fun X => Ok.ret ?_)
  exact decide_eq_decide.2 cmp_le
end Go.Lt.P2

namespace Go.Lt.P2
open Go Go.Lt Go.Proofs
def crI (s t : Sd) : Int := s.1 * t.2.1 - s.2.1 * t.1
def meetq (s t : Sd) : Pq := (dv (s.2.2 * t.2.1 - t.2.2 * s.2.1) (crI s t), dv (s.1 * t.2.2 - t.1 * s.2.2) (crI s t))
theorem r97_ok {a b c d : Int} (ha : -1000000000 ≤ a ∧ a ≤ 1000000000) (hb : -1000000000 ≤ b ∧ b ≤ 1000000000) (hc : -1000000000 ≤ c ∧ c ≤ 1000000000) (hd : -1000000000 ≤ d ∧ d ≤ 1000000000) : Ok (r97 a b c d H0) fun r _ => r = a * d - b * c := by
  have b1 := mul_bd (A := 1000000000) (B := 1000000000) (x := a) (y := d) (by omega) (by omega) (by omega) (by omega)
  have b2 := mul_bd (A := 1000000000) (B := 1000000000) (x := b) (y := c) (by omega) (by omega) (by omega) (by omega)
  unfold r97
  rw [w64_id (n := a * d) (by omega) (by omega), w64_id (n := b * c) (by omega) (by omega), w64_id (by omega) (by omega)]
  exact Ok.ret rfl
theorem meet_bd {s t : Sd} (hs : sideP s) (ht : sideP t) : (-32 ≤ crI s t ∧ crI s t ≤ 32) ∧ (-160 ≤ s.2.2 * t.2.1 ∧ s.2.2 * t.2.1 ≤ 160) ∧ (-160 ≤ t.2.2 * s.2.1 ∧ t.2.2 * s.2.1 ≤ 160) ∧ (-160 ≤ s.1 * t.2.2 ∧ s.1 * t.2.2 ≤ 160) ∧ (-160 ≤ t.1 * s.2.2 ∧ t.1 * s.2.2 ≤ 160) := by
  unfold sideP at hs ht
  have b1 := mul_bd (A := 4) (B := 4) (x := s.1) (y := t.2.1) (by omega) (by omega) (by omega) (by omega)
  have b2 := mul_bd (A := 4) (B := 4) (x := s.2.1) (y := t.1) (by omega) (by omega) (by omega) (by omega)
  have b3 := mul_bd (A := 40) (B := 4) (x := s.2.2) (y := t.2.1) (by omega) (by omega) (by omega) (by omega)
  have b4 := mul_bd (A := 40) (B := 4) (x := t.2.2) (y := s.2.1) (by omega) (by omega) (by omega) (by omega)
  have b5 := mul_bd (A := 4) (B := 40) (x := s.1) (y := t.2.2) (by omega) (by omega) (by omega) (by omega)
  have b6 := mul_bd (A := 4) (B := 40) (x := t.1) (y := s.2.2) (by omega) (by omega) (by omega) (by omega)
  unfold crI
  omega
theorem qb_dvn {a b N D : Int} (hb : b ≠ 0) (h : -N ≤ a) (h2 : a ≤ N) (hD : -D ≤ b) (hD2 : b ≤ D) : qb N D (dv a b) := by
  by_cases h0 : 0 < b
  · exact qb_dv h0 h h2 hD2
  · rw [← dv_neg]
    exact qb_dv (by omega) (by omega) (by omega) (by omega)
theorem meet_qb {s t : Sd} (hs : sideP s) (ht : sideP t) (h : crI s t ≠ 0) : qb 320 32 (meetq s t).1 ∧ qb 320 32 (meetq s t).2 := by
  have b := meet_bd hs ht
  exact ⟨qb_dvn h (by omega) (by omega) (by omega) (by omega), qb_dvn h (by omega) (by omega) (by omega) (by omega)⟩
theorem meet_qp {s t : Sd} (hs : sideP s) (ht : sideP t) (h : crI s t ≠ 0) : qp (meetq s t) :=
  have b := meet_qb hs ht h
  ⟨b.1.mono (by decide) (by decide), b.2.mono (by decide) (by decide)⟩
theorem meet_on {s t : Sd} (h : crI s t ≠ 0) : atq s.1 s.2.1 (meetq s t) = (s.2.2 : Rat) ∧ atq t.1 t.2.1 (meetq s t) = (t.2.2 : Rat) := by
  have h0 := cast_ne h
  unfold meetq atq dv
  have e : ((crI s t : Int) : Rat) = (s.1 : Rat) * t.2.1 - (s.2.1 : Rat) * t.1 := by unfold crI; push_cast; rfl
  rw [e] at h0 ⊢
  push_cast
  constructor <;> grind
theorem crI_sym (s t : Sd) : crI t s = -crI s t := by unfold crI; grind
theorem meet_sym (s t : Sd) : meetq t s = meetq s t := by
  unfold meetq
  rw [crI_sym]
  rw [← dv_neg (s.2.2 * t.2.1 - t.2.2 * s.2.1), ← dv_neg (s.1 * t.2.2 - t.1 * s.2.2)]
  congr 2 <;> grind
/-- meet -/
theorem r96_ok {s t : Sd} (hs : sideP s) (ht : sideP t) : Ok (r96 s.1 s.2.1 s.2.2 t.1 t.2.1 t.2.2 H0) fun r _ => r = if crI s t = 0 then (0, 0, 0, 0, false) else ((fq (meetq s t).1).1, (fq (meetq s t).1).2, (fq (meetq s t).2).1, (fq (meetq s t).2).2, true) := by
  have b := meet_bd hs ht
  have hs' := hs
  have ht' := ht
  unfold sideP at hs' ht'
  unfold r96
  refine Ok.box3 (.nil H0) fun A _ c => ?_
  refine Ok.cld c (.tail _ (.tail _ (.head _))) rfl (Ok.cld c (.tail _ (.tail _ (.head _))) rfl (Ok.cld c (.tail _ (.head _)) rfl (Ok.cld c (.tail _ (.head _)) rfl (Ok.own (r97_ok (by omega) (by omega) (by omega) (by omega)) fun X => ?_))))
  show Ok (if crI s t = 0 then _ else _) _
  refine Ok.ite (fun h => ?_) fun h => ?_
  · simp only [if_pos h]
    refine Ok.cst c 0 rfl rfl fun B _ _ c => ?_
    exact Ok.cld c (.head _) rfl (Ok.cld c (.head _) rfl (Ok.cld c (.head _) rfl (Ok.cld c (.head _) rfl (Ok.ret rfl))))
  · simp only [if_neg h]
    refine Ok.cld c (.tail _ (.tail _ (.head _))) rfl (Ok.cld c (.tail _ (.head _)) rfl (Ok.cld c (.tail _ (.head _)) rfl (Ok.cld c (.tail _ (.tail _ (.head _))) rfl ?_)))
    rw [w64_id (n := s.2.2 * _) (by omega) (by omega), w64_id (n := t.2.2 * _) (by omega) (by omega), w64_id (by omega) (by omega)]
    refine Ok.own (r100_q (by omega) h (by show (crI s t).natAbs < _; omega) H0) fun X => ?_
    refine Ok.cld c (.tail _ (.tail _ (.head _))) rfl (Ok.cld c (.tail _ (.head _)) rfl (Ok.cld c (.tail _ (.head _)) rfl (Ok.cld c (.tail _ (.tail _ (.head _))) rfl ?_)))
    rw [w64_id (n := s.1 * _) (by omega) (by omega), w64_id (n := t.1 * _) (by omega) (by omega), w64_id (by omega) (by omega)]
    refine Ok.own (r100_q (by omega) h (by show (crI s t).natAbs < _; omega) H0) fun X => ?_
    refine Ok.cst c 0 rfl rfl fun B _ _ c => ?_
    exact Ok.cld c (.head _) rfl (Ok.cld c (.head _) rfl (Ok.cld c (.head _) rfl (Ok.cld c (.head _) rfl (Ok.ret rfl))))
end Go.Lt.P2

namespace Go.Lt.P2
open Go Go.Lt Go.Proofs
theorem awakeH0 : ((r21 (app 20) H0).map (·.1)) = some true := by decide +kernel
/-- awake is known -/
noncomputable def appA (k : Nat) : App := ⟨fun f xs H => match f, xs with
  | 21, [] => some (.bool true, H)
  | f, xs => app k f xs H, (app k).yld⟩
theorem appASim (k : Nat) : AppSim Try.prog (appA k) := by
  refine ⟨fun f xs H v H1 h => ?_, (appSim k).2⟩
  unfold appA at h
  simp only at h
  split at h
  · injection h with h
    injection h with h1 h2
    subst h1; subst h2
    obtain ⟨p, hp, he⟩ := Option.map_eq_some_iff.1 awakeH0
    have := sim21 (happ := appSim 20) hp
    rw [he] at this
    exact ⟨ok21, this.own rfl rfl H⟩
  · exact (appSim k).1 _ _ _ _ _ h
end Go.Lt.P2

namespace Go.Lt.P2
open Go Go.Lt Go.Proofs
/-- a side's direction leads out of the plate at both of its ends -/
def dirP (l : List Sd) (d : Pr) : Prop := ∃ t ∈ l, 0 < t.1 * d.1 + t.2.1 * d.2
instance (l : List Sd) (d : Pr) : Decidable (dirP l d) := by unfold dirP; infer_instance
def plateP (l : List Sd) : Prop := (3 ≤ l.length ∧ l.length ≤ 6) ∧ (∀ s ∈ l, sideP s) ∧ ∀ s ∈ l, dirP l (-s.2.1, s.1) ∧ dirP l (s.2.1, -s.1)
instance (l : List Sd) : Decidable (plateP l) := by unfold plateP; infer_instance
theorem forall_take {α : Type} {l : List α} {i : Nat} {P : α → Prop} (h : i < l.length) (h1 : ∀ x ∈ l.take i, P x) (h2 : P l[i]) : ∀ x ∈ l.take (i + 1), P x := by
  rw [List.take_succ_eq_append_getElem h]
  intro x hx
  rcases List.mem_append.1 hx with hx | hx
  · exact h1 x hx
  · rw [List.mem_singleton] at hx; subst hx; exact h2
/-- a function value that says something of each element, from a heap on -/
def Says {T : Type} [El T] (a : App) (fv : AV) (B : Hp) (arg : T → AV) (P : T → Prop) [DecidablePred P] (D : T → Prop) : Prop := ∀ H x, Gr B H → D x → Ok (callv a fv [arg x] H) fun r H' => Gr H H' ∧ r = .bool (decide (P x))
def argI (x : Int) : AV := .int .i64 x
def argP (x : Pr) : AV := .agg [.int .i64 x.1, .int .i64 x.2]
def argS (x : Sd) : AV := .agg [.int .i64 x.1, .int .i64 x.2.1, .int .i64 x.2.2]
section
variable {a : App} {fv : AV} {B : Hp}
theorem r105_ok {P : Int → Prop} [DecidablePred P] {D : Int → Prop} (hf : Says a fv B argI P D) {v : Sl} {l : List Int} (hv : SL B v l) (hb : l.length ≤ 1000000) (hD : ∀ x ∈ l, D x) : Ok (r105 a v fv B) fun r H' => Gr B H' ∧ r = decide (∃ x ∈ l, P x) := by
  unfold r105
  refine Ok.bind (P := fun r H' => Gr B H' ∧ (0 ≤ r ↔ ∃ x ∈ l, P x)) ?_ fun r H' h => Ok.ret ⟨h.1, decide_eq_decide.2 h.2⟩
  unfold r113
  have hlen := hv.len
  rw [hlen]
  refine Ok.loop (L := fun K (s : Int) H2 => r113_l0 a K v fv l.length s H2) (fun m s H' => Gr B H' ∧ ∃ i : Nat, s = i ∧ i + m = l.length ∧ ∀ x ∈ l.take i, ¬ P x) ?_ FUEL l.length 0 B (by unfold FUEL; omega) ⟨.refl _, 0, rfl, by omega, by simp⟩
  rintro K m s H1 ⟨g1, i, rfl, hm, ht⟩ ih
  try dsimp only at *
  rw [r113_l0]
  by_cases h : i < l.length
  · have hg := hv.gr g1
    refine Ok.pos (by omega) (Ok.ck (by omega) (Ok.ld (hg.ldI (i := i) (j := 0) h rfl) (Ok.bind (hf H1 l[i] g1 (hD _ (List.getElem_mem h))) fun r H2 ⟨g2, hr⟩ => ?_)))
    subst hr
    refine Ok.ld rfl (Ok.ite (fun c => Ok.ret ⟨g1.trans g2, ⟨fun _ => ⟨l[i], List.getElem_mem h, of_decide_eq_true c⟩, fun _ => by omega⟩⟩) fun c => ?_)
    rw [w64_succ (by omega)]
    exact ih (m - 1) _ H2 (by omega) ⟨g1.trans g2, i + 1, rfl, by omega, forall_take h ht (fun p => c (decide_eq_true p))⟩
  · rw [List.take_of_length_le (by omega)] at ht
    exact Ok.neg (by omega) (Ok.ret ⟨g1, ⟨fun q => by omega, fun ⟨x, hx, hp⟩ => absurd hp (ht x hx)⟩⟩)
theorem r92_ok {P : Sd → Prop} [DecidablePred P] {D : Sd → Prop} (hf : Says a fv B argS P D) {v : Sl} {l : List Sd} (hv : SL B v l) (hb : l.length ≤ 1000000) (hD : ∀ x ∈ l, D x) : Ok (r92 a v fv B) fun r H' => Gr B H' ∧ r = decide (∃ x ∈ l, P x) := by
  unfold r92
  refine Ok.bind (P := fun r H' => Gr B H' ∧ (0 ≤ r ↔ ∃ x ∈ l, P x)) ?_ fun r H' h => Ok.ret ⟨h.1, decide_eq_decide.2 h.2⟩
  unfold r111
  have hlen := hv.len
  rw [hlen]
  refine Ok.loop (L := fun K (s : Int) H2 => r111_l0 a K v fv l.length s H2) (fun m s H' => Gr B H' ∧ ∃ i : Nat, s = i ∧ i + m = l.length ∧ ∀ x ∈ l.take i, ¬ P x) ?_ FUEL l.length 0 B (by unfold FUEL; omega) ⟨.refl _, 0, rfl, by omega, by simp⟩
  rintro K m s H1 ⟨g1, i, rfl, hm, ht⟩ ih
  try dsimp only at *
  rw [r111_l0]
  by_cases h : i < l.length
  · have hg := hv.gr g1
    refine Ok.pos (by omega) (Ok.ck (by omega) (Ok.ld (hg.ldI (i := i) (j := 0) h rfl) (Ok.ld (hg.ldI (i := i) (j := 1) h rfl) (Ok.ld (hg.ldI (i := i) (j := 2) h rfl) (Ok.bind (hf H1 l[i] g1 (hD _ (List.getElem_mem h))) fun r H2 ⟨g2, hr⟩ => ?_)))))
    subst hr
    refine Ok.ld rfl (Ok.ite (fun c => Ok.ret ⟨g1.trans g2, ⟨fun _ => ⟨l[i], List.getElem_mem h, of_decide_eq_true c⟩, fun _ => by omega⟩⟩) fun c => ?_)
    rw [w64_succ (by omega)]
    exact ih (m - 1) _ H2 (by omega) ⟨g1.trans g2, i + 1, rfl, by omega, forall_take h ht (fun p => c (decide_eq_true p))⟩
  · rw [List.take_of_length_le (by omega)] at ht
    exact Ok.neg (by omega) (Ok.ret ⟨g1, ⟨fun q => by omega, fun ⟨x, hx, hp⟩ => absurd hp (ht x hx)⟩⟩)
end
/-- within -/
theorem r79_ok {k : Nat} {c : Int} (hc : 0 ≤ c ∧ c ≤ 1000) {B : Hp} {v : Sl} {l : List Int} (hv : SL B v l) (hb : l.length ≤ 1000000) : Ok (r79 (appA (k + 1)) c v B) fun r H' => Gr B H' ∧ r = !decide (∃ x ∈ l, x < -c ∨ c < x) := by
  unfold r79
  have gp := Gr.push B (.cells [.int .i64 c] false)
  have g0 : (B.push (.cells [.int .i64 c] false)).get B.n = some (.cells [.int .i64 c] false) := Hp.get_push_new _ _
  generalize B.push (.cells [.int .i64 c] false) = A at *
  refine Ok.lt ?_
  have hsay : Says (appA (k + 1)) (.fn 106 [] [.ptr B.n 0]) A argI (fun x => x < -c ∨ c < x) fun _ => True := fun H x g _ => by
    show Ok ((r106 x B.n H).map fun p => (AV.bool p.1, p.2)) _
    have h0 : H.get B.n = some (.cells [.int .i64 c] false) := by rw [g.2 _ (Hp.get_lt g0)]; exact g0
    have h1 : Ok (r106 x B.n H) fun r H' => H' = H ∧ r = decide (x < -c ∨ c < x) := by
      unfold r106
      refine Ok.ld (ldI_get h0 rfl) ?_
      rw [w64_id (by omega) (by omega)]
      refine Ok.ite (fun q => Ok.ret ⟨rfl, by symm; rw [decide_eq_true_iff]; omega⟩) fun q => Ok.ld (ldI_get h0 rfl) (Ok.ret ⟨rfl, decide_eq_decide.2 (by omega)⟩)
    obtain ⟨r, H', e, rfl, rfl⟩ := h1
    rw [e]
    exact Ok.ret ⟨.refl _, rfl⟩
  exact Ok.bind (r105_ok hsay (hv.gr gp) hb fun _ _ => trivial) fun r H' ⟨g, hr⟩ => Ok.ret ⟨gp.trans g, by rw [hr]⟩
theorem says93 (k : Nat) {B : Hp} {c : Nat} {d : Pr} (h0 : B.get c = some (.cells [.int .i64 d.1, .int .i64 d.2] false)) (hd : (-4 ≤ d.1 ∧ d.1 ≤ 4) ∧ -4 ≤ d.2 ∧ d.2 ≤ 4) : Says (appA (k + 1)) (.fn 93 [] [.ptr c 0]) B argS (fun t => 0 < t.1 * d.1 + t.2.1 * d.2) sideP := fun H x g hx => by
  show Ok ((r93 x.1 x.2.1 x.2.2 c H).map fun p => (AV.bool p.1, p.2)) _
  have h1 : Ok (r93 x.1 x.2.1 x.2.2 c H) fun r H' => Gr H H' ∧ r = decide (0 < x.1 * d.1 + x.2.1 * d.2) := by
    unfold r93
    have hc : H.get c = some (.cells [.int .i64 d.1, .int .i64 d.2] false) := by rw [g.2 _ (Hp.get_lt h0)]; exact h0
    have gp := Gr.push H (.cells [.int .i64 x.1, .int .i64 x.2.1, .int .i64 x.2.2] false)
    have g0 : (H.push (.cells [.int .i64 x.1, .int .i64 x.2.1, .int .i64 x.2.2] false)).get H.n = some (.cells [.int .i64 x.1, .int .i64 x.2.1, .int .i64 x.2.2] false) := Hp.get_push_new _ _
    have hc2 : (H.push (.cells [.int .i64 x.1, .int .i64 x.2.1, .int .i64 x.2.2] false)).get c = some (.cells [.int .i64 d.1, .int .i64 d.2] false) := by rw [gp.2 _ (Hp.get_lt hc)]; exact hc
    refine Ok.lt (Ok.ld (ldI_get g0 rfl) (Ok.ld (ldI_get hc2 rfl) (Ok.ld (ldI_get g0 rfl) (Ok.ld (ldI_get hc2 rfl) ?_))))
    unfold sideP at hx
    have b1 := mul_bd (A := 4) (B := 4) (x := x.1) (y := d.1) (by omega) (by omega) (by omega) (by omega)
    have b2 := mul_bd (A := 4) (B := 4) (x := x.2.1) (y := d.2) (by omega) (by omega) (by omega) (by omega)
    rw [w64_id (n := x.1 * d.1) (by omega) (by omega), w64_id (n := x.2.1 * d.2) (by omega) (by omega), w64_id (by omega) (by omega)]
    exact Ok.ret ⟨gp, rfl⟩
  obtain ⟨r, H', e, g2, rfl⟩ := h1
  rw [e]
  exact Ok.ret ⟨g2, rfl⟩
end Go.Lt.P2

namespace Go.Lt.P2
open Go Go.Lt Go.Proofs
/-- an App that knows what has calls -/
def A95 (a : App) : Prop := ∀ (s : Sd) (c : Nat) (H : Hp), callv a (.fn 95 [] [.ptr c 0]) [argS s] H = (r95 s.1 s.2.1 s.2.2 c H).map fun p => (.bool p.1, p.2)
theorem a95 (k : Nat) : A95 (app (k + 1)) := fun _ _ _ => rfl
theorem a95A (k : Nat) : A95 (appA (k + 1)) := fun _ _ _ => rfl
theorem says95 {a : App} (ha : A95 a) {B : Hp} {c : Nat} {p : Pq} (h0 : B.get c = some (.cells (pc4 p) false)) (hp : qp p) : Says a (.fn 95 [] [.ptr c 0]) B argS (fun t => ¬ lqs t p) sideP := fun H x g hx => by
  rw [ha]
  have h1 : Ok (r95 x.1 x.2.1 x.2.2 c H) fun r H' => Gr H H' ∧ r = decide (¬ lqs x p) := by
    have hc : H.get c = some (.cells (pc4 p) false) := by rw [g.2 _ (Hp.get_lt h0)]; exact h0
    unfold sideP at hx
    unfold r95
    refine Ok.box (.nil H) fun A gA cx => ?_
    have hc2 : A.get c = some (.cells (pc4 p) false) := by rw [gA.2 _ (Hp.get_lt hc)]; exact hc
    refine Ok.cld cx (.head _) rfl (Ok.cld cx (.head _) rfl (Ok.cld cx (.head _) rfl (Ok.ld (ldI_get hc2 rfl) (Ok.ld (ldI_get hc2 rfl) (Ok.ld (ldI_get hc2 rfl) (Ok.ld (ldI_get hc2 rfl) ?_))))))
    refine Ok.own (r70_q (by omega) (by omega) (by omega) hp) fun X => Ok.ret ⟨gA, ?_⟩
    dsimp only
    rw [decide_not]
  obtain ⟨r, H', e, g2, rfl⟩ := h1
  rw [e]
  exact Ok.ret ⟨g2, rfl⟩
/-- has -/
theorem r65_ok {a : App} (ha : A95 a) {H : Hp} {v : Sl} {l : List Sd} {p : Pq} (hv : SL H v l) (hb : l.length ≤ 1000) (hs : ∀ s ∈ l, sideP s) (hp : qp p) : Ok (r65 a v (fq p.1).1 (fq p.1).2 (fq p.2).1 (fq p.2).2 H) fun r H' => Gr H H' ∧ r = decide (inP l p) := by
  unfold r65
  refine Ok.box (.nil H) fun A gA c => ?_
  refine Ok.bind (r92_ok (says95 ha (p := p) (c.e _ (.head _)) hp) (hv.gr gA) (by omega) hs) fun r D ⟨gD, hr⟩ => Ok.ret ⟨gA.trans gD, ?_⟩
  rw [hr, ← decide_not]
  refine decide_eq_decide.2 ?_
  unfold inP
  constructor
  · intro h s hs'
    exact Classical.byContradiction fun q => h ⟨s, hs', q⟩
  · rintro h ⟨s, hs', q⟩
    exact q (h s hs')
end Go.Lt.P2

namespace Go.Lt.P2
open Go Go.Lt Go.Proofs
/-- what takes things one after the other: I holds while it goes on, St when it wants no more; P are blocks that it leaves alone -/
structure Yd {T : Type} (a : App) (yv : AV) (arg : T → List AV) (L : List T) (B : Hp) (I : (Nat → Prop) → List T → Hp → Prop) (St : List T → Hp → Prop) : Prop where
  grow : ∀ {P P' : Nat → Prop} {q : List T} {H H' : Hp}, I P q H → Gr H H' → (∀ b, P' b → P b ∨ (H.n ≤ b ∧ b < H'.n)) → I P' q H'
  base : ∀ {P : Nat → Prop} {q : List T} {H : Hp}, I P q H → Gr B H
  step : ∀ {P : Nat → Prop} {q : List T} {H : Hp} {x : T}, I P q H → q ++ [x] <+: L → Ok (callv a yv (arg x) H) fun r H' => H.n ≤ H'.n ∧ ((r = .bool true ∧ I P (q ++ [x]) H' ∧ ∀ b, b < H.n → P b → H'.get b = H.get b) ∨ (r = .bool false ∧ St (q ++ [x]) H'))
/-- corners, with the sides that meet there -/
abbrev Cn := Pq × Sd × Sd
def cn (l : List Sd) (s t : Sd) : Option Cn := if crI s t ≠ 0 ∧ inP l (meetq s t) then some (meetq s t, s, t) else none
def cno (l : List Sd) (i : Nat) : List Cn := (l.take i).filterMap (cn l (l[i]!))
def cs (l : List Sd) : List Cn := (List.range l.length).flatMap (cno l)
theorem range_succ_flatMap {α : Type} (f : Nat → List α) (n : Nat) : (List.range (n + 1)).flatMap f = (List.range n).flatMap f ++ f n := by
  rw [List.range_succ, List.flatMap_append, List.flatMap_singleton]
theorem cs_mem {l : List Sd} {c : Cn} (h : c ∈ cs l) : c.2.1 ∈ l ∧ c.2.2 ∈ l ∧ crI c.2.1 c.2.2 ≠ 0 ∧ c.1 = meetq c.2.1 c.2.2 ∧ inP l c.1 := by
  unfold cs at h
  obtain ⟨i, hi, h⟩ := List.mem_flatMap.1 h
  rw [List.mem_range] at hi
  unfold cno at h
  obtain ⟨t, ht, h⟩ := List.mem_filterMap.1 h
  unfold cn at h
  split at h
  · rename_i hc
    injection h with h
    subst h
    refine ⟨?_, List.mem_of_mem_take ht, hc.1, rfl, hc.2⟩
    dsimp only
    rw [getElem!_pos l i hi]
    exact List.getElem_mem hi
  · cases h
theorem mem_take_of {α : Type} {l : List α} {i j : Nat} (hj : j < l.length) (h : j < i) : l[j] ∈ l.take i :=
  List.mem_take_iff_getElem.2 ⟨j, by omega, rfl⟩
theorem mem_cs {l : List Sd} {s t : Sd} (hs : s ∈ l) (ht : t ∈ l) (h : crI s t ≠ 0) (hin : inP l (meetq s t)) : (meetq s t, s, t) ∈ cs l ∨ (meetq s t, t, s) ∈ cs l := by
  obtain ⟨i, hi, rfl⟩ := List.mem_iff_getElem.1 hs
  obtain ⟨j, hj, rfl⟩ := List.mem_iff_getElem.1 ht
  have key : ∀ {i j : Nat} (hi : i < l.length) (hj : j < l.length), j < i → crI l[i] l[j] ≠ 0 → inP l (meetq l[i] l[j]) → (meetq l[i] l[j], l[i], l[j]) ∈ cs l := fun {i j} hi hj hji hc hin => by
    unfold cs
    refine List.mem_flatMap.2 ⟨i, List.mem_range.2 hi, ?_⟩
    unfold cno
    refine List.mem_filterMap.2 ⟨l[j], mem_take_of hj hji, ?_⟩
    rw [getElem!_pos l i hi]
    unfold cn
    rw [if_pos ⟨hc, hin⟩]
  rcases Nat.lt_trichotomy j i with hji | hji | hji
  · exact .inl (key hi hj hji h hin)
  · subst hji
    exact absurd (by unfold crI; grind) h
  · right
    have := key hj hi hji (by rw [crI_sym]; omega) (by rw [meet_sym]; exact hin)
    rw [meet_sym] at this
    exact this
def argC (c : Cn) : List AV := [.agg [.int .i64 (fq c.1.1).1, .int .i64 (fq c.1.1).2, .int .i64 (fq c.1.2).1, .int .i64 (fq c.1.2).2, .int .i64 c.2.1.1, .int .i64 c.2.1.2.1, .int .i64 c.2.1.2.2, .int .i64 c.2.2.1, .int .i64 c.2.2.2.1, .int .i64 c.2.2.2.2]]
section
variable {a : App} {yv : AV} {B : Hp} {I : (Nat → Prop) → List Cn → Hp → Prop} {St : List Cn → Hp → Prop} {P : Nat → Prop} {v : Sl} {l : List Sd}
/-- one side with those before it -/
theorem r66_l1_ok (ha : A95 a) (Y : Yd a yv argC (cs l) B I St) (hv : SL B v l) (hb : l.length ≤ 1000) (hs : ∀ s ∈ l, sideP s) {i : Nat} (hi : i < l.length) {H : Hp} {c : Nat} {w : Sl} {ln : Int} {kt : Sl → AV → Sl → Int → Int → Hp → Option (Unit × Hp)} {q : List Cn} {Q : Unit → Hp → Prop}
    (hpq : q ++ cno l i <+: cs l) (hw : SL B w (l.take i)) (hI : I (fun b => P b ∨ b = c) q H) (hc : H.get c = some (.cells (sc l[i]) false)) (kS : ∀ q' H', q' <+: q ++ cno l i → St q' H' → Q () H') (kN : ∀ H', I P (q ++ cno l i) H' → Ok (kt v yv v ln ((i + 1 : Nat) : Int) H') Q) :
    Ok (r66_l1 a kt FUEL v yv c v ln i w i 0 H) Q := by
  have hlen := hw.len
  have hil : (l.take i).length = i := by rw [List.length_take]; omega
  refine Ok.loop (L := fun K (s : Int) H2 => r66_l1 a kt K v yv c v ln i w i s H2) (fun m s H' => I (fun b => P b ∨ b = c) (q ++ ((l.take i).take s.toNat).filterMap (cn l l[i])) H' ∧ H'.get c = some (.cells (sc l[i]) false) ∧ ∃ j : Nat, s = j ∧ j + m = i) ?_ FUEL i 0 H (by unfold FUEL; omega) ⟨by simpa using hI, hc, 0, rfl, by omega⟩
  rintro K m s H1 ⟨hI, hc, j, rfl, hm⟩ ih
  try dsimp only at *
  rw [r66_l1]
  rw [Int.toNat_natCast] at hI
  by_cases h : j < i
  · have hg := hw.gr (Y.base hI)
    have hj : j < (l.take i).length := by omega
    have et : (l.take i)[j] = l[j] := by rw [List.getElem_take]
    have hsl := hs _ (List.getElem_mem hi)
    have htl := hs _ (List.getElem_mem (show j < l.length by omega))
    have l0 := hg.ldI (i := j) (j := 0) (n := l[j].1) hj (by rw [et]; rfl)
    have l1 := hg.ldI (i := j) (j := 1) (n := l[j].2.1) hj (by rw [et]; rfl)
    have l2 := hg.ldI (i := j) (j := 2) (n := l[j].2.2) hj (by rw [et]; rfl)
    have cx : Cx H1 H1 [] := .nil H1
    refine Ok.pos (by omega) (Ok.ck (by omega) (Ok.ld l0 (Ok.ld l1 (Ok.ld l2 (Ok.alo cx fun D gD cx => ?_)))))
    have hcD : D.get c = some (.cells (sc l[i]) false) := by rw [cx.g.2 _ (Hp.get_lt hc)]; exact hc
    refine Ok.ld (ldI_get hcD rfl) (Ok.ld (ldI_get hcD rfl) (Ok.ld (ldI_get hcD rfl) (Ok.cld cx (.head _) rfl (Ok.cld cx (.head _) rfl (Ok.cld cx (.head _) rfl (Ok.own (r96_ok hsl htl) fun X => ?_))))))
    have eq1 : ((l.take i).take (j + 1)).filterMap (cn l l[i]) = ((l.take i).take j).filterMap (cn l l[i]) ++ (cn l l[i] l[j]).toList := by
      rw [List.take_succ_eq_append_getElem hj, List.filterMap_append, et]
      cases h : cn l l[i] l[j] <;> simp [h]
    -- no corner
    have skip : cn l l[i] l[j] = none → ∀ E, Gr H1 E → Ok (r66_j2 a (fun v1_ v2_ v3_ v4_ v5_ v6_ v7_ v8_ v9_ H_ => r66_l1 a kt K v1_ v2_ v3_ v4_ v5_ v6_ v7_ v8_ v9_ H_) v yv c v ln i w i j false E) Q := fun hno E gE => by
      unfold r66_j2
      refine Ok.neg (by simp) ?_
      rw [w64_succ (by omega)]
      refine ih (m - 1) _ E (by omega) ⟨?_, by rw [gE.2 _ (Hp.get_lt hc)]; exact hc, j + 1, rfl, by omega⟩
      rw [Int.toNat_natCast, eq1, hno]
      simpa using Y.grow hI gE fun b hb => .inl hb
    by_cases h0 : crI l[i] l[j] = 0
    · simp only [if_pos h0]
      refine Ok.alo cx fun E gE cx => Ok.neg (by simp) (skip ?_ E cx.g)
      unfold cn
      rw [if_neg (fun q => q.1 h0)]
    · simp only [if_neg h0]
      refine Ok.alo cx fun E gE cx => Ok.pos trivial ?_
      refine Ok.cld cx (.head _) rfl (Ok.cld cx (.head _) rfl (Ok.cld cx (.head _) rfl (Ok.cld cx (.head _) rfl ?_)))
      refine Ok.bind (r65_ok ha (p := meetq l[i] l[j]) (hv.gr ((Y.base hI).trans cx.g)) hb hs (meet_qp hsl htl h0)) fun r F ⟨gF, hr⟩ => ?_
      subst hr
      have cx := cx.gr gF
      by_cases hin : inP l (meetq l[i] l[j])
      · rw [decide_eq_true hin]
        have hcF : F.get c = some (.cells (sc l[i]) false) := by rw [cx.g.2 _ (Hp.get_lt hc)]; exact hc
        refine Ok.pos rfl ?_
        refine Ok.cld cx (.head _) rfl (Ok.cld cx (.head _) rfl (Ok.cld cx (.head _) rfl (Ok.cld cx (.head _) rfl (Ok.ld (ldI_get hcF rfl) (Ok.ld (ldI_get hcF rfl) (Ok.ld (ldI_get hcF rfl) (Ok.cld cx (.tail _ (.head _)) rfl (Ok.cld cx (.tail _ (.head _)) rfl (Ok.cld cx (.tail _ (.head _)) rfl ?_)))))))))
        have hcn : cn l l[i] l[j] = some (meetq l[i] l[j], l[i], l[j]) := by unfold cn; rw [if_pos ⟨h0, hin⟩]
        have hpx : (q ++ ((l.take i).take j).filterMap (cn l l[i])) ++ [(meetq l[i] l[j], l[i], l[j])] <+: q ++ cno l i := by
          rw [List.append_assoc]
          refine (List.prefix_append_right_inj q).2 ?_
          have : ((l.take i).take (j + 1)).filterMap (cn l l[i]) <+: (l.take i).filterMap (cn l l[i]) := by
            conv => rhs; rw [← List.take_append_drop (j + 1) (l.take i), List.filterMap_append]
            exact List.prefix_append _ _
          rw [eq1, hcn] at this
          unfold cno
          rw [getElem!_pos l i hi]
          exact this
        have hIF := Y.grow hI cx.g (P' := fun b => P b ∨ b = c) fun b hb => .inl hb
        refine Ok.bind (Y.step hIF (hpx.trans hpq)) fun r G ⟨nG, hG⟩ => ?_
        rw [hcn] at eq1
        rcases hG with ⟨rfl, hIG, kG⟩ | ⟨rfl, hSt⟩
        · refine Ok.ld rfl ?_
          unfold r66_j2
          refine Ok.neg (by simp) ?_
          rw [w64_succ (by omega)]
          refine ih (m - 1) _ G (by omega) ⟨?_, by rw [kG c (Hp.get_lt hcF) (.inr rfl)]; exact hcF, j + 1, rfl, by omega⟩
          rw [Int.toNat_natCast, eq1]
          rw [List.append_assoc] at hIG
          exact hIG
        · refine Ok.ld rfl ?_
          unfold r66_j2
          refine Ok.pos (by simp) (Ok.ret (kS _ _ ?_ hSt))
          exact hpx
      · rw [decide_eq_false hin]
        refine Ok.neg (by simp) (skip ?_ F cx.g)
        unfold cn
        rw [if_neg (fun q => hin q.2)]
  · refine Ok.neg (by omega) ?_
    rw [w64_succ (by omega)]
    refine kN _ ?_
    have : (l.take i).take j = l.take i := List.take_of_length_le (by omega)
    rw [this] at hI
    unfold cno
    rw [getElem!_pos l i hi]
    exact Y.grow hI (.refl _) fun b hb => .inl (.inl hb)
/-- corners -/
theorem r66_ok (ha : A95 a) (Y : Yd a yv argC (cs l) B I St) (hv : SL B v l) (hb : l.length ≤ 1000) (hs : ∀ s ∈ l, sideP s) {H : Hp} (hI : I P [] H) :
    Ok (r66 a v yv H) fun _ H' => I P (cs l) H' ∨ ∃ q, q <+: cs l ∧ St q H' := by
  unfold r66
  have hlen := hv.len
  rw [hlen]
  refine Ok.loop (L := fun K (s : Int) H2 => r66_l0 a K v yv v l.length s H2) (fun m s H' => ∃ i : Nat, s = i ∧ i + m = l.length ∧ I P ((List.range i).flatMap (cno l)) H') ?_ FUEL l.length 0 H (by unfold FUEL; omega) ⟨0, rfl, by omega, by simpa using hI⟩
  rintro K m s H1 ⟨i, rfl, hm, hI⟩ ih
  try dsimp only at *
  rw [r66_l0]
  by_cases h : i < l.length
  · have hg := hv.gr (Y.base hI)
    have cx : Cx H1 H1 [] := .nil H1
    have hcap := hv.cap
    have hopn := hv.opn
    have es : El.sz Sd = 3 := rfl
    rw [es] at hopn
    refine Ok.pos (by omega) (Ok.ck (by omega) (Ok.ld (hg.ldI (i := i) (j := 0) h rfl) (Ok.ld (hg.ldI (i := i) (j := 1) h rfl) (Ok.ld (hg.ldI (i := i) (j := 2) h rfl) (Ok.alo cx fun D gD cx => Ok.ck ⟨by omega, hopn⟩ ?_)))))
    have hcut := hv.cut (lo := 0) (hi := i) (by omega) (by omega)
    rw [List.drop_zero, Nat.sub_zero] at hcut
    have hil : (l.take i).length = i := by rw [List.length_take]; omega
    have hcl := hcut.len
    rw [hil] at hcl
    rw [Int.toNat_natCast]
    have e3 : (v.cut 3 (0 : Int).toNat i).len = i := hcl
    rw [e3]
    refine r66_l1_ok (P := P) (q := (List.range i).flatMap (cno l)) ha Y hv hb hs h ?_ hcut ?_ (cx.e _ (.head _)) (fun q' H' hp hS => .inr ⟨q', ?_, hS⟩) fun H' hI' => ?_
    · rw [← range_succ_flatMap]
      unfold cs
      have : l.length = (i + 1) + (l.length - (i + 1)) := by omega
      rw [this, List.range_add (n := i + 1), List.flatMap_append]
      exact List.prefix_append _ _
    · have hlt := cx.lt (.head _)
      exact Y.grow hI cx.g fun b hb' => hb'.elim .inl fun e => .inr (by dsimp only at hlt; omega)
    · refine hp.trans ?_
      rw [← range_succ_flatMap]
      unfold cs
      have : l.length = (i + 1) + (l.length - (i + 1)) := by omega
      rw [this, List.range_add (n := i + 1), List.flatMap_append]
      exact List.prefix_append _ _
    · refine ih (m - 1) _ H' (by omega) ⟨i + 1, rfl, by omega, ?_⟩
      rw [range_succ_flatMap]
      exact hI'
  · have : i = l.length := by omega
    subst this
    exact Ok.neg (by omega) (Ok.ret (.inl hI))
end
end Go.Lt.P2

namespace Go.Lt.P2
open Go Go.Lt Go.Proofs
/-! ### linear programs in the plane -/
/-- a side's direction times an arrow -/
def dt (t : Sd) (d : Pq) : Rat := (t.1 : Rat) * d.1 + (t.2.1 : Rat) * d.2
theorem ex_min {α : Type} (r : α → Rat) : ∀ (l : List α), l ≠ [] → ∃ t ∈ l, ∀ u ∈ l, r t ≤ r u
  | [], h => absurd rfl h
  | [t], _ => ⟨t, .head _, fun u hu => by rw [List.mem_singleton] at hu; subst hu; exact Rat.le_refl⟩
  | t :: t' :: l, _ => by
    obtain ⟨m, hm, h⟩ := ex_min r (t' :: l) (by simp)
    by_cases c : r t ≤ r m
    · refine ⟨t, .head _, fun u hu => ?_⟩
      rcases List.mem_cons.1 hu with rfl | hu
      · exact Rat.le_refl
      · have := h u hu; grind
    · refine ⟨m, .tail _ hm, fun u hu => ?_⟩
      rcases List.mem_cons.1 hu with rfl | hu
      · grind
      · exact h u hu
/-- a ray from within meets a side -/
theorem shoot_of {l : List Sd} (f : Sd → Rat) (g : Sd → Rat) (hf : ∀ t ∈ l, 0 ≤ f t) (hg : ∃ t ∈ l, 0 < g t) : ∃ s : Rat, 0 ≤ s ∧ (∀ t ∈ l, s * g t ≤ f t) ∧ ∃ t ∈ l, 0 < g t ∧ s * g t = f t := by
  have hne : l.filter (fun t => decide (0 < g t)) ≠ [] := by
    obtain ⟨t, ht, h⟩ := hg
    exact List.ne_nil_of_mem (List.mem_filter.2 ⟨ht, decide_eq_true h⟩)
  obtain ⟨t, ht, hmin⟩ := ex_min (fun t => f t / g t) _ hne
  obtain ⟨htl, htg⟩ := List.mem_filter.1 ht
  have htg := of_decide_eq_true htg
  have e : f t / g t * g t = f t := by grind
  have hs : 0 ≤ f t / g t := by
    refine Classical.byContradiction fun hc => ?_
    have : 0 < -(f t / g t) := by grind
    have := Rat.mul_pos this htg
    have := hf t htl
    grind
  refine ⟨f t / g t, hs, fun u hu => ?_, t, htl, htg, e⟩
  by_cases hu2 : 0 < g u
  · have h1 := hmin u (List.mem_filter.2 ⟨hu, decide_eq_true hu2⟩)
    have e2 : f u / g u * g u = f u := by grind
    have := Rat.mul_nonneg (show 0 ≤ f u / g u - f t / g t by grind) (show 0 ≤ g u by grind)
    grind
  · have := Rat.mul_nonneg hs (show 0 ≤ -(g u) by grind)
    have := hf u hu
    grind
theorem dirP_dt {l : List Sd} {x y : Int} (h : dirP l (x, y)) : ∃ t ∈ l, 0 < dt t ((x : Rat), (y : Rat)) := by
  obtain ⟨t, ht, h⟩ := h
  refine ⟨t, ht, ?_⟩
  have := castLt.2 h
  rw [Rat.intCast_add, Rat.intCast_mul, Rat.intCast_mul] at this
  exact this
/-- along a side, both ways, there is an end -/
theorem along {l : List Sd} (hp : plateP l) {t : Sd} (ht : t ∈ l) {k : Rat} (hk : k ≠ 0) : ∃ u ∈ l, 0 < dt u (k * -(t.2.1 : Rat), k * (t.1 : Rat)) := by
  obtain ⟨h1, h2⟩ := hp.2.2 t ht
  by_cases c : 0 < k
  · obtain ⟨u, hu, h⟩ := dirP_dt h1
    refine ⟨u, hu, ?_⟩
    have := Rat.mul_pos c h
    unfold dt at *
    rw [Rat.intCast_neg] at this
    grind
  · obtain ⟨u, hu, h⟩ := dirP_dt h2
    refine ⟨u, hu, ?_⟩
    have := Rat.mul_pos (show 0 < -k by grind) h
    unfold dt at *
    rw [Rat.intCast_neg] at this
    grind
/-- no direction without an end -/
theorem no_rec {l : List Sd} (hp : plateP l) {d : Pq} (hd : ¬ (d.1 = 0 ∧ d.2 = 0)) : ∃ t ∈ l, 0 < dt t d := by
  refine Classical.byContradiction fun hc => ?_
  have hle : ∀ t ∈ l, dt t d ≤ 0 := fun t ht => Classical.byContradiction fun q => hc ⟨t, ht, by grind⟩
  -- an arrow along a side that leads out nowhere cannot be
  have key : ∀ e : Pq, ¬ (e.1 = 0 ∧ e.2 = 0) → (∀ t ∈ l, dt t e ≤ 0) → (∃ t ∈ l, dt t e = 0) → False := fun e he hle ⟨t, ht, h0⟩ => by
    have hs := (hp.2.1 t ht).2.2.1
    have hn : (t.1 : Rat) * t.1 + (t.2.1 : Rat) * t.2.1 ≠ 0 := by
      have h3 : t.1 * t.1 + t.2.1 * t.2.1 ≠ 0 := by
        have sq : ∀ x : Int, 0 ≤ x * x := fun x => by
          rcases Int.le_total 0 x with h | h
          · exact Int.mul_nonneg h h
          · have := Int.mul_nonneg (show 0 ≤ -x by omega) (show 0 ≤ -x by omega)
            rw [Int.neg_mul_neg] at this; exact this
        have a := sq t.1
        have b := sq t.2.1
        intro hz
        have z1 : t.1 * t.1 = 0 := by omega
        have z2 : t.2.1 * t.2.1 = 0 := by omega
        exact hs ⟨by rcases Int.mul_eq_zero.1 z1 with h | h <;> exact h, by rcases Int.mul_eq_zero.1 z2 with h | h <;> exact h⟩
      have := cast_ne h3
      rw [Rat.intCast_add, Rat.intCast_mul, Rat.intCast_mul] at this
      exact this
    -- e is k times the arrow along t
    have hk : ∃ k : Rat, k ≠ 0 ∧ e.1 = k * -(t.2.1 : Rat) ∧ e.2 = k * (t.1 : Rat) := by
      unfold dt at h0
      refine ⟨((t.1 : Rat) * e.2 - (t.2.1 : Rat) * e.1) / ((t.1 : Rat) * t.1 + (t.2.1 : Rat) * t.2.1), ?_, ?_, ?_⟩
      · intro hz
        have hz' : (t.1 : Rat) * e.2 - (t.2.1 : Rat) * e.1 = 0 := by
          have : ((t.1 : Rat) * e.2 - (t.2.1 : Rat) * e.1) = ((t.1 : Rat) * e.2 - (t.2.1 : Rat) * e.1) / ((t.1 : Rat) * t.1 + (t.2.1 : Rat) * t.2.1) * ((t.1 : Rat) * t.1 + (t.2.1 : Rat) * t.2.1) := by grind
          rw [this, hz]; grind
        have a1 : ((t.1 : Rat) * t.1 + (t.2.1 : Rat) * t.2.1) * e.1 = 0 := by grind
        have a2 : ((t.1 : Rat) * t.1 + (t.2.1 : Rat) * t.2.1) * e.2 = 0 := by grind
        refine he ⟨?_, ?_⟩
        · rcases Rat.mul_eq_zero.1 a1 with h | h
          · exact absurd h hn
          · exact h
        · rcases Rat.mul_eq_zero.1 a2 with h | h
          · exact absurd h hn
          · exact h
      · grind
      · grind
    obtain ⟨k, hk0, e1, e2⟩ := hk
    obtain ⟨u, hu, h⟩ := along hp ht hk0
    have := hle u hu
    unfold dt at h this
    dsimp only at h
    rw [← e1, ← e2] at h
    grind
  by_cases hz : ∃ t ∈ l, dt t d = 0
  · exact key d hd hle hz
  · have hlt : ∀ t ∈ l, dt t d < 0 := fun t ht => by
      have := hle t ht
      have : dt t d ≠ 0 := fun q => hz ⟨t, ht, q⟩
      grind
    have hpos : 0 < l.length := by have := hp.1.1; omega
    have ht0 := List.getElem_mem hpos
    generalize l[0] = t0 at *
    obtain ⟨u0, hu0, h0⟩ := along hp ht0 (k := 1) (by decide)
    obtain ⟨s, hs, hall, u, hu, hgu, heq⟩ := shoot_of (l := l) (fun t => -(dt t d)) (fun t => dt t (1 * -(t0.2.1 : Rat), 1 * (t0.1 : Rat))) (fun t ht => by have := hlt t ht; grind) ⟨u0, hu0, h0⟩
    have hsum : ∀ t, dt t (d.1 + s * (1 * -(t0.2.1 : Rat)), d.2 + s * (1 * (t0.1 : Rat))) = dt t d + s * dt t (1 * -(t0.2.1 : Rat), 1 * (t0.1 : Rat)) := fun t => by unfold dt; grind
    refine key (d.1 + s * (1 * -(t0.2.1 : Rat)), d.2 + s * (1 * (t0.1 : Rat))) ?_ (fun t ht => ?_) ⟨u, hu, ?_⟩
    · rintro ⟨z1, z2⟩
      dsimp only at z1 z2
      have h1 := hlt t0 ht0
      have h2 : dt t0 d + s * dt t0 (1 * -(t0.2.1 : Rat), 1 * (t0.1 : Rat)) = 0 := by
        rw [← hsum]; unfold dt; dsimp only; rw [z1, z2]; grind
      have h3 : dt t0 (1 * -(t0.2.1 : Rat), 1 * (t0.1 : Rat)) = 0 := by unfold dt; grind
      rw [h3] at h2
      grind
    · rw [hsum]
      have := hall t ht
      grind
    · rw [hsum]
      grind
/-- a ray from a point of the plate -/
theorem shoot {l : List Sd} (hp : plateP l) {p d : Pq} (hin : inP l p) (hd : ¬ (d.1 = 0 ∧ d.2 = 0)) : ∃ s : Rat, 0 ≤ s ∧ inP l (p.1 + s * d.1, p.2 + s * d.2) ∧ ∃ t ∈ l, 0 < dt t d ∧ dt t (p.1 + s * d.1, p.2 + s * d.2) = (t.2.2 : Rat) := by
  obtain ⟨s, hs, hall, t, ht, hg, he⟩ := shoot_of (l := l) (fun t => (t.2.2 : Rat) - dt t p) (fun t => dt t d) (fun t ht => by have := hin t ht; unfold lqs atq at this; unfold dt; grind) (no_rec hp hd)
  have hsum : ∀ t, dt t (p.1 + s * d.1, p.2 + s * d.2) = dt t p + s * dt t d := fun t => by unfold dt; grind
  refine ⟨s, hs, fun u hu => ?_, t, ht, hg, ?_⟩
  · have := hall u hu
    have h2 := hsum u
    unfold lqs
    show dt u (p.1 + s * d.1, p.2 + s * d.2) ≤ _
    grind
  · rw [hsum]; grind
/-- a corner says at least as much as any point -/
theorem lp {l : List Sd} (hp : plateP l) {p : Pq} (hin : inP l p) (a b : Int) : ∃ c ∈ cs l, atq a b p ≤ atq a b c.1 := by
  -- to a side
  have h1 : ∃ q : Pq, inP l q ∧ atq a b p ≤ atq a b q ∧ ∃ t ∈ l, dt t q = (t.2.2 : Rat) := by
    by_cases hw : a = 0 ∧ b = 0
    · obtain ⟨s, _, hq, t, ht, _, he⟩ := shoot hp hin (d := (1, 0)) (by intro h; exact absurd h.1 (by decide))
      refine ⟨_, hq, ?_, t, ht, he⟩
      obtain ⟨rfl, rfl⟩ := hw
      unfold atq
      grind
    · have hd : ¬ (((a : Rat), (b : Rat)).1 = 0 ∧ ((a : Rat), (b : Rat)).2 = 0) := by
        rintro ⟨h1, h2⟩
        have h1 : (a : Rat) = 0 := h1
        have h2 : (b : Rat) = 0 := h2
        exact hw ⟨by exact_mod_cast h1, by exact_mod_cast h2⟩
      obtain ⟨s, hs, hq, t, ht, _, he⟩ := shoot hp hin hd
      refine ⟨_, hq, ?_, t, ht, he⟩
      have sq : ∀ x : Rat, 0 ≤ x * x := fun x => by
        by_cases h : 0 ≤ x
        · exact Rat.mul_nonneg h h
        · have := Rat.mul_nonneg (show 0 ≤ -x by grind) (show 0 ≤ -x by grind); grind
      have k1 := Rat.mul_nonneg hs (sq (a : Rat))
      have k2 := Rat.mul_nonneg hs (sq (b : Rat))
      unfold atq
      dsimp only
      grind
  obtain ⟨q, hq, hpq, t, ht, he⟩ := h1
  have hs := (hp.2.1 t ht).2.2.1
  -- along it
  have h2 : ∃ k : Rat, k ≠ 0 ∧ 0 ≤ k * (-(t.2.1 : Rat) * a + (t.1 : Rat) * b) := by
    by_cases h : 0 ≤ -(t.2.1 : Rat) * a + (t.1 : Rat) * b
    · exact ⟨1, by decide, by grind⟩
    · exact ⟨-1, by decide, by grind⟩
  obtain ⟨k, hk, hk2⟩ := h2
  have hd : ¬ ((k * -(t.2.1 : Rat), k * (t.1 : Rat)).1 = 0 ∧ (k * -(t.2.1 : Rat), k * (t.1 : Rat)).2 = 0) := by
    rintro ⟨h1, h2⟩
    dsimp only at h1 h2
    refine hs ⟨?_, ?_⟩
    · rcases Rat.mul_eq_zero.1 h2 with h | h
      · exact absurd h hk
      · exact_mod_cast h
    · rcases Rat.mul_eq_zero.1 h1 with h | h
      · exact absurd h hk
      · have : (t.2.1 : Rat) = 0 := by grind
        exact_mod_cast this
  obtain ⟨s, hs0, hr, u, hu, hgu, heu⟩ := shoot hp hq hd
  have hcr : crI t u ≠ 0 := fun h => by
    have e : ((crI t u : Int) : Rat) = (t.1 : Rat) * u.2.1 - (t.2.1 : Rat) * u.1 := by unfold crI; push_cast; rfl
    rw [h] at e
    unfold dt at hgu
    dsimp only at hgu
    have : (t.1 : Rat) * u.2.1 - (t.2.1 : Rat) * u.1 = 0 := by rw [← e]; rfl
    have : (u.1 : Rat) * (k * -(t.2.1 : Rat)) + (u.2.1 : Rat) * (k * (t.1 : Rat)) = k * ((t.1 : Rat) * u.2.1 - (t.2.1 : Rat) * u.1) := by grind
    grind
  have hte : dt t (q.1 + s * (k * -(t.2.1 : Rat), k * (t.1 : Rat)).1, q.2 + s * (k * -(t.2.1 : Rat), k * (t.1 : Rat)).2) = (t.2.2 : Rat) := by
    rw [← he]; unfold dt; dsimp only; grind
  have hval : atq a b q ≤ atq a b (q.1 + s * (k * -(t.2.1 : Rat), k * (t.1 : Rat)).1, q.2 + s * (k * -(t.2.1 : Rat), k * (t.1 : Rat)).2) := by
    have := Rat.mul_nonneg hs0 hk2
    unfold atq
    dsimp only
    grind
  generalize (q.1 + s * (k * -(t.2.1 : Rat), k * (t.1 : Rat)).1, q.2 + s * (k * -(t.2.1 : Rat), k * (t.1 : Rat)).2) = r at *
  have hm : r = meetq t u := by
    have m := meet_on hcr
    have h0 := cast_ne hcr
    have e : ((crI t u : Int) : Rat) = (t.1 : Rat) * u.2.1 - (t.2.1 : Rat) * u.1 := by unfold crI; push_cast; rfl
    rw [e] at h0
    unfold dt at hte heu
    unfold atq at m
    refine Prod.ext ?_ ?_
    · have : ((t.1 : Rat) * u.2.1 - (t.2.1 : Rat) * u.1) * (r.1 - (meetq t u).1) = 0 := by grind
      rcases Rat.mul_eq_zero.1 this with h | h
      · exact absurd h h0
      · grind
    · have : ((t.1 : Rat) * u.2.1 - (t.2.1 : Rat) * u.1) * (r.2 - (meetq t u).2) = 0 := by grind
      rcases Rat.mul_eq_zero.1 this with h | h
      · exact absurd h h0
      · grind
  rcases mem_cs ht hu hcr (by rw [← hm]; exact hr) with h | h
  · exact ⟨_, h, by dsimp only; rw [← hm]; grind⟩
  · exact ⟨_, h, by dsimp only; rw [← hm]; grind⟩
end Go.Lt.P2

namespace Go.Lt.P2
open Go Go.Lt Go.Proofs
/-! ### with more than twelve pairs of sides at corners, all corners are one -/
theorem sq_nn (x : Int) : 0 ≤ x * x := by
  rcases Int.le_total 0 x with h | h
  · exact Int.mul_nonneg h h
  · have := Int.mul_nonneg (show 0 ≤ -x by omega) (show 0 ≤ -x by omega)
    rw [Int.neg_mul_neg] at this; exact this
theorem sq_pos {x : Int} (h : x ≠ 0) : 0 < x * x := by
  have := sq_nn x
  have h2 : x * x ≠ 0 := fun e => h (by rcases Int.mul_eq_zero.1 e with h | h <;> exact h)
  omega
def on (s : Sd) (z : Pq) : Prop := atq s.1 s.2.1 z = (s.2.2 : Rat)
theorem crI_rat (s t : Sd) : ((crI s t : Int) : Rat) = (s.1 : Rat) * t.2.1 - (s.2.1 : Rat) * t.1 := by unfold crI; push_cast; rfl
theorem meet_uniq {s t : Sd} {z : Pq} (h : crI s t ≠ 0) (h1 : on s z) (h2 : on t z) : z = meetq s t := by
  have m := meet_on h
  have h0 := cast_ne h
  rw [crI_rat] at h0
  unfold on atq at *
  refine Prod.ext ?_ ?_
  · have : ((s.1 : Rat) * t.2.1 - (s.2.1 : Rat) * t.1) * (z.1 - (meetq s t).1) = 0 := by grind
    rcases Rat.mul_eq_zero.1 this with h | h
    · exact absurd h h0
    · grind
  · have : ((s.1 : Rat) * t.2.1 - (s.2.1 : Rat) * t.1) * (z.2 - (meetq s t).2) = 0 := by grind
    rcases Rat.mul_eq_zero.1 this with h | h
    · exact absurd h h0
    · grind
section
variable {l : List Sd}
def Ed (l : List Sd) (s t : Sd) : Prop := crI s t ≠ 0 ∧ inP l (meetq s t)
theorem Ed.sym {s t : Sd} (h : Ed l s t) : Ed l t s := ⟨by rw [crI_sym]; have := h.1; omega, by rw [meet_sym]; exact h.2⟩
/-- along a side -/
def al (s : Sd) (z : Pq) : Rat := (s.1 : Rat) * z.2 - (s.2.1 : Rat) * z.1
theorem al_inj {s : Sd} (hs : ¬ (s.1 = 0 ∧ s.2.1 = 0)) {z w : Pq} (h1 : on s z) (h2 : on s w) (h : al s z = al s w) : z = w := by
  unfold on al atq at *
  have hn : (s.1 : Rat) * s.1 + (s.2.1 : Rat) * s.2.1 ≠ 0 := by
    have h3 : 0 < s.1 * s.1 + s.2.1 * s.2.1 := by
      have a := sq_nn s.1
      have b := sq_nn s.2.1
      by_cases c : s.1 = 0
      · have d : s.2.1 ≠ 0 := fun d => hs ⟨c, d⟩
        have := sq_pos d
        omega
      · have := sq_pos c
        omega
    have := cast_ne (b := s.1 * s.1 + s.2.1 * s.2.1) (by omega)
    rw [Rat.intCast_add, Rat.intCast_mul, Rat.intCast_mul] at this
    exact this
  refine Prod.ext ?_ ?_
  · have : ((s.1 : Rat) * s.1 + (s.2.1 : Rat) * s.2.1) * (z.1 - w.1) = 0 := by grind
    rcases Rat.mul_eq_zero.1 this with h | h
    · exact absurd h hn
    · grind
  · have : ((s.1 : Rat) * s.1 + (s.2.1 : Rat) * s.2.1) * (z.2 - w.2) = 0 := by grind
    rcases Rat.mul_eq_zero.1 this with h | h
    · exact absurd h hn
    · grind
/-- what a side says grows or falls along another one -/
theorem al_step {s t : Sd} {z w : Pq} (h1 : on s z) (h2 : on s w) : ((s.1 : Rat) * s.1 + (s.2.1 : Rat) * s.2.1) * (atq t.1 t.2.1 z - atq t.1 t.2.1 w) = (crI s t : Rat) * (al s z - al s w) := by
  rw [crI_rat]
  unfold on al atq at *
  grind
/-- no corner on a side is between two other points of the plate on it -/
theorem no_mid {s t : Sd} (h : Ed l s t) (ht : t ∈ l) {p q : Pq} (hp : on s p) (hq : on s q) (ip : inP l p) (iq : inP l q) (h1 : al s p < al s (meetq s t)) (h2 : al s (meetq s t) < al s q) : False := by
  have m := meet_on h.1
  have a := al_step (t := t) hp m.1
  have b := al_step (t := t) hq m.1
  have kp := ip t ht
  have kq := iq t ht
  unfold lqs at kp kq
  have hn : 0 ≤ (s.1 : Rat) * s.1 + (s.2.1 : Rat) * s.2.1 := by
    have a := sq_nn s.1
    have b := sq_nn s.2.1
    have := castLe.2 (show (0 : Int) ≤ s.1 * s.1 + s.2.1 * s.2.1 by omega)
    rw [Rat.intCast_add, Rat.intCast_mul, Rat.intCast_mul] at this
    exact this
  have e1 := Rat.mul_nonneg hn (show 0 ≤ atq t.1 t.2.1 (meetq s t) - atq t.1 t.2.1 p by rw [m.2]; grind)
  have e2 := Rat.mul_nonneg hn (show 0 ≤ atq t.1 t.2.1 (meetq s t) - atq t.1 t.2.1 q by rw [m.2]; grind)
  have f1 : (crI s t : Rat) * (al s p - al s (meetq s t)) ≤ 0 := by grind
  have f2 : (crI s t : Rat) * (al s q - al s (meetq s t)) ≤ 0 := by grind
  by_cases hc : 0 < crI s t
  · have hc' : (0 : Rat) < (crI s t : Rat) := castLt.2 hc
    have := Rat.mul_pos hc' (show 0 < al s q - al s (meetq s t) by grind)
    grind
  · have hc' : (0 : Rat) < ((-crI s t : Int) : Rat) := castLt.2 (show (0 : Int) < -crI s t by have := h.1; omega)
    have := Rat.mul_pos hc' (show 0 < al s (meetq s t) - al s p by grind)
    rw [Rat.intCast_neg] at this
    grind
/-- of three corners on a side two are one -/
theorem two_of {s t u w : Sd} (hs : s ∈ l) (hp : ∀ s ∈ l, sideP s) (ht : t ∈ l) (hu : u ∈ l) (hw : w ∈ l) (h1 : Ed l s t) (h2 : Ed l s u) (h3 : Ed l s w) : meetq s t = meetq s u ∨ meetq s t = meetq s w ∨ meetq s u = meetq s w := by
  have hs0 : ¬ (s.1 = 0 ∧ s.2.1 = 0) := (hp s hs).2.2.1
  have m1 := (meet_on h1.1).1
  have m2 := (meet_on h2.1).1
  have m3 := (meet_on h3.1).1
  refine Classical.byContradiction fun hc => ?_
  have n1 : al s (meetq s t) ≠ al s (meetq s u) := fun e => hc (.inl (al_inj hs0 m1 m2 e))
  have n2 : al s (meetq s t) ≠ al s (meetq s w) := fun e => hc (.inr (.inl (al_inj hs0 m1 m3 e)))
  have n3 : al s (meetq s u) ≠ al s (meetq s w) := fun e => hc (.inr (.inr (al_inj hs0 m2 m3 e)))
  have k1 := fun p q hp hq ip iq => no_mid (p := p) (q := q) h1 ht hp hq ip iq
  have k2 := fun p q hp hq ip iq => no_mid (p := p) (q := q) h2 hu hp hq ip iq
  have k3 := fun p q hp hq ip iq => no_mid (p := p) (q := q) h3 hw hp hq ip iq
  have a1 := k1 _ _ m2 m3 h2.2 h3.2
  have a2 := k1 _ _ m3 m2 h3.2 h2.2
  have b1 := k2 _ _ m1 m3 h1.2 h3.2
  have b2 := k2 _ _ m3 m1 h3.2 h1.2
  have c1 := k3 _ _ m1 m2 h1.2 h2.2
  have c2 := k3 _ _ m2 m1 h2.2 h1.2
  clear k1 k2 k3
  generalize al s (meetq s t) = A at *
  generalize al s (meetq s u) = B at *
  generalize al s (meetq s w) = C at *
  grind
/-- two sides at one corner of a side, that meet a third side from another of its corners, go along -/
theorem no_two {u x x' y : Sd} (hp : ∀ s ∈ l, sideP s) (hu : u ∈ l) (hx : x ∈ l) (hx' : x' ∈ l) (hy : y ∈ l) (h1 : Ed l u x) (h2 : Ed l u x') (h3 : Ed l u y) (e : meetq u x = meetq u x') (ne : meetq u y ≠ meetq u x) (k1 : Ed l x y) (k2 : Ed l x' y) : ¬ Ed l x x' := by
  intro k
  have a1 := meet_on h1.1
  have a2 := meet_on h2.1
  have a3 := meet_on h3.1
  have b1 := meet_on k1.1
  have b2 := meet_on k2.1
  -- on y: the corner with u, with x, with x'
  have c1 : meetq y x ≠ meetq y u := fun q => by
    rw [meet_sym x y, meet_sym u y] at q
    exact ne (meet_uniq h1.1 a3.1 (by rw [← q]; exact b1.1))
  have c2 : meetq y x' ≠ meetq y u := fun q => by
    rw [meet_sym x' y, meet_sym u y] at q
    have := meet_uniq h2.1 a3.1 (by rw [← q]; exact b2.1)
    exact ne (by rw [this, e])
  rcases two_of hy hp hu hx hx' h3.sym k1.sym k2.sym with q | q | q
  · exact c1 q.symm
  · exact c2 q.symm
  · rw [meet_sym x y, meet_sym x' y] at q
    have d1 := meet_uniq k.1 b1.1 (by rw [q]; exact b2.1)
    have d2 := meet_uniq k.1 a1.2 (by rw [e]; exact a2.2)
    have d3 : meetq x y = meetq u x := by rw [d1, d2]
    have := meet_uniq h3.1 (by rw [← d3] at a1; exact a1.1) b1.2
    exact ne (by rw [← this, d3])
end
/-- of booleans alone -/
def T (s s' t a b c : Bool) : Bool := (s == s') && (s != t) && a && b && c
theorem bools : ∀ s2 s3 s4 s5 e12 e13 e14 e15 e23 e24 e25 e34 e35 e45 : Bool, 8 ≤ e12.toNat + e13.toNat + e14.toNat + e15.toNat + e23.toNat + e24.toNat + e25.toNat + e34.toNat + e35.toNat + e45.toNat → (T true s2 s3 e13 e23 e12 || T true s2 s4 e14 e24 e12 || T true s2 s5 e15 e25 e12 || T true s3 s2 e12 e23 e13 || T true s3 s4 e14 e34 e13 || T true s3 s5 e15 e35 e13 || T true s4 s2 e12 e24 e14 || T true s4 s3 e13 e34 e14 || T true s4 s5 e15 e45 e14 || T true s5 s2 e12 e25 e15 || T true s5 s3 e13 e35 e15 || T true s5 s4 e14 e45 e15 || T s2 s3 true e12 e13 e23 || T s2 s3 s4 e24 e34 e23 || T s2 s3 s5 e25 e35 e23 || T s2 s4 true e12 e14 e24 || T s2 s4 s3 e23 e34 e24 || T s2 s4 s5 e25 e45 e24 || T s2 s5 true e12 e15 e25 || T s2 s5 s3 e23 e35 e25 || T s2 s5 s4 e24 e45 e25 || T s3 s4 true e13 e14 e34 || T s3 s4 s2 e23 e24 e34 || T s3 s4 s5 e35 e45 e34 || T s3 s5 true e13 e15 e35 || T s3 s5 s2 e23 e25 e35 || T s3 s5 s4 e34 e45 e35 || T s4 s5 true e14 e15 e45 || T s4 s5 s2 e24 e25 e45 || T s4 s5 s3 e34 e35 e45) = false → (s2 && s3 && s4 && s5) = true := by decide +kernel
/-- one side meets all others -/
theorem bools6 : ∀ a1 a2 a3 a4 a5 b2 b3 b4 b5 c3 c4 c5 d4 d5 e5 : Bool, 13 ≤ a1.toNat + a2.toNat + a3.toNat + a4.toNat + a5.toNat + b2.toNat + b3.toNat + b4.toNat + b5.toNat + c3.toNat + c4.toNat + c5.toNat + d4.toNat + d5.toNat + e5.toNat →
    ((a1 && a2 && a3 && a4 && a5) || (a1 && b2 && b3 && b4 && b5) || (a2 && b2 && c3 && c4 && c5) || (a3 && b3 && c3 && d4 && d5) || (a4 && b4 && c4 && d4 && e5) || (a5 && b5 && c5 && d5 && e5)) = true := by decide +kernel
def ed (l : List Sd) (s t : Sd) : Bool := decide (crI s t ≠ 0 ∧ inP l (meetq s t))
theorem ed_iff {l : List Sd} {s t : Sd} : ed l s t = true ↔ Ed l s t := decide_eq_true_iff
theorem ed_symm (l : List Sd) (s t : Sd) : ed l s t = ed l t s := by
  refine Bool.eq_iff_iff.2 ?_
  rw [ed_iff, ed_iff]
  exact ⟨Ed.sym, Ed.sym⟩
section
variable {l : List Sd}
theorem colour (hp : ∀ s ∈ l, sideP s) {u x1 : Sd} (hu : u ∈ l) (h1 : x1 ∈ l) (E1 : Ed l u x1) {x x' y : Sd} (hx : x ∈ l) (hx' : x' ∈ l) (hy : y ∈ l) (ex : Ed l u x) (ex' : Ed l u x') (ey : Ed l u y) :
    T (decide (meetq u x = meetq u x1)) (decide (meetq u x' = meetq u x1)) (decide (meetq u y = meetq u x1)) (ed l x y) (ed l x' y) (ed l x x') = false := by
  refine Bool.eq_false_iff.2 fun h => ?_
  unfold T at h
  simp only [Bool.and_eq_true, beq_iff_eq, bne_iff_ne, ne_eq] at h
  obtain ⟨⟨⟨⟨a, b⟩, k1⟩, k2⟩, k3⟩ := h
  have hab : meetq u x = meetq u x' := by
    by_cases c : meetq u x = meetq u x1
    · have : meetq u x' = meetq u x1 := of_decide_eq_true (by rw [← a]; exact decide_eq_true c)
      rw [c, this]
    · have c' : ¬ meetq u x' = meetq u x1 := of_decide_eq_false (by rw [← a]; exact decide_eq_false c)
      rcases two_of hu hp hx hx' h1 ex ex' E1 with q | q | q
      · exact q
      · exact absurd q c
      · exact absurd q c'
  have hne : meetq u y ≠ meetq u x := fun q => b (by rw [q])
  exact no_two hp hu hx hx' hy ex ex' ey hab hne (ed_iff.1 k1) (ed_iff.1 k2) (ed_iff.1 k3)
theorem one_pt (hp : ∀ s ∈ l, sideP s) {u x1 x2 x3 x4 x5 : Sd} (hu : u ∈ l) (h1 : x1 ∈ l) (h2 : x2 ∈ l) (h3 : x3 ∈ l) (h4 : x4 ∈ l) (h5 : x5 ∈ l) (E1 : Ed l u x1) (E2 : Ed l u x2) (E3 : Ed l u x3) (E4 : Ed l u x4) (E5 : Ed l u x5)
    (hc : 8 ≤ (ed l x1 x2).toNat + (ed l x1 x3).toNat + (ed l x1 x4).toNat + (ed l x1 x5).toNat + (ed l x2 x3).toNat + (ed l x2 x4).toNat + (ed l x2 x5).toNat + (ed l x3 x4).toNat + (ed l x3 x5).toNat + (ed l x4 x5).toNat) : ∀ x ∈ [u, x1, x2, x3, x4, x5], on x (meetq u x1) := by
  have key := bools (decide (meetq u x2 = meetq u x1)) (decide (meetq u x3 = meetq u x1)) (decide (meetq u x4 = meetq u x1)) (decide (meetq u x5 = meetq u x1)) (ed l x1 x2) (ed l x1 x3) (ed l x1 x4) (ed l x1 x5) (ed l x2 x3) (ed l x2 x4) (ed l x2 x5) (ed l x3 x4) (ed l x3 x5) (ed l x4 x5) hc ?_
  · simp only [Bool.and_eq_true, decide_eq_true_iff] at key
    obtain ⟨⟨⟨k2, k3⟩, k4⟩, k5⟩ := key
    intro x hx
    simp only [List.mem_cons, List.not_mem_nil, or_false] at hx
    rcases hx with rfl | rfl | rfl | rfl | rfl | rfl
    · exact (meet_on E1.1).1
    · exact (meet_on E1.1).2
    · rw [← k2]; exact (meet_on E2.1).2
    · rw [← k3]; exact (meet_on E3.1).2
    · rw [← k4]; exact (meet_on E4.1).2
    · rw [← k5]; exact (meet_on E5.1).2
  · have z : true = decide (meetq u x1 = meetq u x1) := (decide_eq_true rfl).symm
    have t123 : T true (decide (meetq u x2 = meetq u x1)) (decide (meetq u x3 = meetq u x1)) (ed l x1 x3) (ed l x2 x3) (ed l x1 x2) = false := by
      have f := colour hp hu h1 E1 h1 h2 h3 E1 E2 E3
      rw [← z] at f
      exact f
    have t124 : T true (decide (meetq u x2 = meetq u x1)) (decide (meetq u x4 = meetq u x1)) (ed l x1 x4) (ed l x2 x4) (ed l x1 x2) = false := by
      have f := colour hp hu h1 E1 h1 h2 h4 E1 E2 E4
      rw [← z] at f
      exact f
    have t125 : T true (decide (meetq u x2 = meetq u x1)) (decide (meetq u x5 = meetq u x1)) (ed l x1 x5) (ed l x2 x5) (ed l x1 x2) = false := by
      have f := colour hp hu h1 E1 h1 h2 h5 E1 E2 E5
      rw [← z] at f
      exact f
    have t132 : T true (decide (meetq u x3 = meetq u x1)) (decide (meetq u x2 = meetq u x1)) (ed l x1 x2) (ed l x2 x3) (ed l x1 x3) = false := by
      have f := colour hp hu h1 E1 h1 h3 h2 E1 E3 E2
      rw [← z, ed_symm l x3 x2] at f
      exact f
    have t134 : T true (decide (meetq u x3 = meetq u x1)) (decide (meetq u x4 = meetq u x1)) (ed l x1 x4) (ed l x3 x4) (ed l x1 x3) = false := by
      have f := colour hp hu h1 E1 h1 h3 h4 E1 E3 E4
      rw [← z] at f
      exact f
    have t135 : T true (decide (meetq u x3 = meetq u x1)) (decide (meetq u x5 = meetq u x1)) (ed l x1 x5) (ed l x3 x5) (ed l x1 x3) = false := by
      have f := colour hp hu h1 E1 h1 h3 h5 E1 E3 E5
      rw [← z] at f
      exact f
    have t142 : T true (decide (meetq u x4 = meetq u x1)) (decide (meetq u x2 = meetq u x1)) (ed l x1 x2) (ed l x2 x4) (ed l x1 x4) = false := by
      have f := colour hp hu h1 E1 h1 h4 h2 E1 E4 E2
      rw [← z, ed_symm l x4 x2] at f
      exact f
    have t143 : T true (decide (meetq u x4 = meetq u x1)) (decide (meetq u x3 = meetq u x1)) (ed l x1 x3) (ed l x3 x4) (ed l x1 x4) = false := by
      have f := colour hp hu h1 E1 h1 h4 h3 E1 E4 E3
      rw [← z, ed_symm l x4 x3] at f
      exact f
    have t145 : T true (decide (meetq u x4 = meetq u x1)) (decide (meetq u x5 = meetq u x1)) (ed l x1 x5) (ed l x4 x5) (ed l x1 x4) = false := by
      have f := colour hp hu h1 E1 h1 h4 h5 E1 E4 E5
      rw [← z] at f
      exact f
    have t152 : T true (decide (meetq u x5 = meetq u x1)) (decide (meetq u x2 = meetq u x1)) (ed l x1 x2) (ed l x2 x5) (ed l x1 x5) = false := by
      have f := colour hp hu h1 E1 h1 h5 h2 E1 E5 E2
      rw [← z, ed_symm l x5 x2] at f
      exact f
    have t153 : T true (decide (meetq u x5 = meetq u x1)) (decide (meetq u x3 = meetq u x1)) (ed l x1 x3) (ed l x3 x5) (ed l x1 x5) = false := by
      have f := colour hp hu h1 E1 h1 h5 h3 E1 E5 E3
      rw [← z, ed_symm l x5 x3] at f
      exact f
    have t154 : T true (decide (meetq u x5 = meetq u x1)) (decide (meetq u x4 = meetq u x1)) (ed l x1 x4) (ed l x4 x5) (ed l x1 x5) = false := by
      have f := colour hp hu h1 E1 h1 h5 h4 E1 E5 E4
      rw [← z, ed_symm l x5 x4] at f
      exact f
    have t231 : T (decide (meetq u x2 = meetq u x1)) (decide (meetq u x3 = meetq u x1)) true (ed l x1 x2) (ed l x1 x3) (ed l x2 x3) = false := by
      have f := colour hp hu h1 E1 h2 h3 h1 E2 E3 E1
      rw [← z, ed_symm l x2 x1, ed_symm l x3 x1] at f
      exact f
    have t234 : T (decide (meetq u x2 = meetq u x1)) (decide (meetq u x3 = meetq u x1)) (decide (meetq u x4 = meetq u x1)) (ed l x2 x4) (ed l x3 x4) (ed l x2 x3) = false := by
      have f := colour hp hu h1 E1 h2 h3 h4 E2 E3 E4
      exact f
    have t235 : T (decide (meetq u x2 = meetq u x1)) (decide (meetq u x3 = meetq u x1)) (decide (meetq u x5 = meetq u x1)) (ed l x2 x5) (ed l x3 x5) (ed l x2 x3) = false := by
      have f := colour hp hu h1 E1 h2 h3 h5 E2 E3 E5
      exact f
    have t241 : T (decide (meetq u x2 = meetq u x1)) (decide (meetq u x4 = meetq u x1)) true (ed l x1 x2) (ed l x1 x4) (ed l x2 x4) = false := by
      have f := colour hp hu h1 E1 h2 h4 h1 E2 E4 E1
      rw [← z, ed_symm l x2 x1, ed_symm l x4 x1] at f
      exact f
    have t243 : T (decide (meetq u x2 = meetq u x1)) (decide (meetq u x4 = meetq u x1)) (decide (meetq u x3 = meetq u x1)) (ed l x2 x3) (ed l x3 x4) (ed l x2 x4) = false := by
      have f := colour hp hu h1 E1 h2 h4 h3 E2 E4 E3
      rw [ed_symm l x4 x3] at f
      exact f
    have t245 : T (decide (meetq u x2 = meetq u x1)) (decide (meetq u x4 = meetq u x1)) (decide (meetq u x5 = meetq u x1)) (ed l x2 x5) (ed l x4 x5) (ed l x2 x4) = false := by
      have f := colour hp hu h1 E1 h2 h4 h5 E2 E4 E5
      exact f
    have t251 : T (decide (meetq u x2 = meetq u x1)) (decide (meetq u x5 = meetq u x1)) true (ed l x1 x2) (ed l x1 x5) (ed l x2 x5) = false := by
      have f := colour hp hu h1 E1 h2 h5 h1 E2 E5 E1
      rw [← z, ed_symm l x2 x1, ed_symm l x5 x1] at f
      exact f
    have t253 : T (decide (meetq u x2 = meetq u x1)) (decide (meetq u x5 = meetq u x1)) (decide (meetq u x3 = meetq u x1)) (ed l x2 x3) (ed l x3 x5) (ed l x2 x5) = false := by
      have f := colour hp hu h1 E1 h2 h5 h3 E2 E5 E3
      rw [ed_symm l x5 x3] at f
      exact f
    have t254 : T (decide (meetq u x2 = meetq u x1)) (decide (meetq u x5 = meetq u x1)) (decide (meetq u x4 = meetq u x1)) (ed l x2 x4) (ed l x4 x5) (ed l x2 x5) = false := by
      have f := colour hp hu h1 E1 h2 h5 h4 E2 E5 E4
      rw [ed_symm l x5 x4] at f
      exact f
    have t341 : T (decide (meetq u x3 = meetq u x1)) (decide (meetq u x4 = meetq u x1)) true (ed l x1 x3) (ed l x1 x4) (ed l x3 x4) = false := by
      have f := colour hp hu h1 E1 h3 h4 h1 E3 E4 E1
      rw [← z, ed_symm l x3 x1, ed_symm l x4 x1] at f
      exact f
    have t342 : T (decide (meetq u x3 = meetq u x1)) (decide (meetq u x4 = meetq u x1)) (decide (meetq u x2 = meetq u x1)) (ed l x2 x3) (ed l x2 x4) (ed l x3 x4) = false := by
      have f := colour hp hu h1 E1 h3 h4 h2 E3 E4 E2
      rw [ed_symm l x3 x2, ed_symm l x4 x2] at f
      exact f
    have t345 : T (decide (meetq u x3 = meetq u x1)) (decide (meetq u x4 = meetq u x1)) (decide (meetq u x5 = meetq u x1)) (ed l x3 x5) (ed l x4 x5) (ed l x3 x4) = false := by
      have f := colour hp hu h1 E1 h3 h4 h5 E3 E4 E5
      exact f
    have t351 : T (decide (meetq u x3 = meetq u x1)) (decide (meetq u x5 = meetq u x1)) true (ed l x1 x3) (ed l x1 x5) (ed l x3 x5) = false := by
      have f := colour hp hu h1 E1 h3 h5 h1 E3 E5 E1
      rw [← z, ed_symm l x3 x1, ed_symm l x5 x1] at f
      exact f
    have t352 : T (decide (meetq u x3 = meetq u x1)) (decide (meetq u x5 = meetq u x1)) (decide (meetq u x2 = meetq u x1)) (ed l x2 x3) (ed l x2 x5) (ed l x3 x5) = false := by
      have f := colour hp hu h1 E1 h3 h5 h2 E3 E5 E2
      rw [ed_symm l x3 x2, ed_symm l x5 x2] at f
      exact f
    have t354 : T (decide (meetq u x3 = meetq u x1)) (decide (meetq u x5 = meetq u x1)) (decide (meetq u x4 = meetq u x1)) (ed l x3 x4) (ed l x4 x5) (ed l x3 x5) = false := by
      have f := colour hp hu h1 E1 h3 h5 h4 E3 E5 E4
      rw [ed_symm l x5 x4] at f
      exact f
    have t451 : T (decide (meetq u x4 = meetq u x1)) (decide (meetq u x5 = meetq u x1)) true (ed l x1 x4) (ed l x1 x5) (ed l x4 x5) = false := by
      have f := colour hp hu h1 E1 h4 h5 h1 E4 E5 E1
      rw [← z, ed_symm l x4 x1, ed_symm l x5 x1] at f
      exact f
    have t452 : T (decide (meetq u x4 = meetq u x1)) (decide (meetq u x5 = meetq u x1)) (decide (meetq u x2 = meetq u x1)) (ed l x2 x4) (ed l x2 x5) (ed l x4 x5) = false := by
      have f := colour hp hu h1 E1 h4 h5 h2 E4 E5 E2
      rw [ed_symm l x4 x2, ed_symm l x5 x2] at f
      exact f
    have t453 : T (decide (meetq u x4 = meetq u x1)) (decide (meetq u x5 = meetq u x1)) (decide (meetq u x3 = meetq u x1)) (ed l x3 x4) (ed l x3 x5) (ed l x4 x5) = false := by
      have f := colour hp hu h1 E1 h4 h5 h3 E4 E5 E3
      rw [ed_symm l x4 x3, ed_symm l x5 x3] at f
      exact f
    rw [t123, t124, t125, t132, t134, t135, t142, t143, t145, t152, t153, t154, t231, t234, t235, t241, t243, t245, t251, t253, t254, t341, t342, t345, t351, t352, t354, t451, t452, t453]
    rfl
end
end Go.Lt.P2

namespace Go.Lt.P2
open Go Go.Lt Go.Proofs
/-- down -/
theorem r68_q {q : Rat} {N D : Int} (hq : qb N D q) (hN : N < 1000000000000000000) (hD : D < 1000000000000000000) : Ok (r68 (fq q).1 (fq q).2 H0) fun r _ => r = q.floor := by
  obtain ⟨h1, h2, h3⟩ := hq
  have hp := fq_pos q
  have e1 := Int.mul_tdiv_add_tmod (fq q).1 (fq q).2
  have e2 := Int.tmod_lt_of_pos (fq q).1 hp
  have e3 := Int.lt_tmod_of_pos (fq q).1 hp
  have hf : ∀ f : Int, f * (fq q).2 ≤ (fq q).1 → (fq q).1 < (f + 1) * (fq q).2 → f = q.floor := fun f h1 h2 => by
    have := (floor_iff (f := f) (n := (fq q).1) hp).2 ⟨h1, h2⟩
    rw [dv_fq] at this
    exact this
  have hm0 : 0 ≤ (fq q).1 → 0 ≤ Int.tmod (fq q).1 (fq q).2 := fun h => Int.tmod_nonneg _ h
  have hm1 : (fq q).1 < 0 → Int.tmod (fq q).1 (fq q).2 ≤ 0 := fun h => by
    have := Int.tmod_nonneg (a := -(fq q).1) (fq q).2 (by omega)
    rw [Int.neg_tmod] at this
    omega
  have hab : (Int.tdiv (fq q).1 (fq q).2).natAbs ≤ (fq q).1.natAbs := by
    rw [Int.natAbs_tdiv]; exact Nat.div_le_self _ _
  have hmul : (fq q).2 * Int.tdiv (fq q).1 (fq q).2 = Int.tdiv (fq q).1 (fq q).2 * (fq q).2 := Int.mul_comm _ _
  rw [hmul] at e1
  have e4 : (Int.tdiv (fq q).1 (fq q).2 + 1) * (fq q).2 = Int.tdiv (fq q).1 (fq q).2 * (fq q).2 + (fq q).2 := by rw [Int.add_mul, Int.one_mul]
  have e5 : (Int.tdiv (fq q).1 (fq q).2 - 1) * (fq q).2 = Int.tdiv (fq q).1 (fq q).2 * (fq q).2 - (fq q).2 := by rw [Int.sub_mul, Int.one_mul]
  have e6 : (Int.tdiv (fq q).1 (fq q).2 - 1 + 1) * (fq q).2 = Int.tdiv (fq q).1 (fq q).2 * (fq q).2 := by rw [Int.sub_add_cancel]
  unfold r68
  refine Ok.box (.nil H0) fun A _ c => Ok.cld c (.head _) rfl (Ok.cld c (.head _) rfl (Ok.ck (by omega) (Ok.cld c (.head _) rfl ?_)))
  have hw : w64 (Int.tdiv (fq q).1 (fq q).2) = Int.tdiv (fq q).1 (fq q).2 := w64_id (by omega) (by omega)
  rw [hw]
  generalize Int.tdiv (fq q).1 (fq q).2 = n at *
  generalize Int.tmod (fq q).1 (fq q).2 = m at *
  refine Ok.ite (fun hneg => Ok.cld c (.head _) rfl (Ok.cld c (.head _) rfl ?_)) fun hneg => ?_
  · have := hm1 hneg
    rw [w64_id (n := n * _) (by omega) (by omega)]
    unfold r68_j0
    refine Ok.ite (fun hc => Ok.ret ?_) fun hc => Ok.ret ?_
    · rw [w64_id (by omega) (by omega)]
      have hc' := of_decide_eq_true hc
      refine hf _ (by omega) (by omega)
    · have hc' : n * (fq q).2 = (fq q).1 := Classical.byContradiction fun q => hc (decide_eq_true q)
      exact hf _ (by omega) (by omega)
  · have := hm0 (by omega)
    unfold r68_j0
    exact Ok.neg (by simp) (Ok.ret (hf _ (by omega) (by omega)))
end Go.Lt.P2

namespace Go.Lt.P2
open Go Go.Lt Go.Proofs
/-- low, high, ok -/
abbrev Bst := Pr × Pr × Bool
def nlo (ok : Bool) (x l : Int) : Int := if ok = true ∧ ¬ x < l then l else x
def nhi (ok : Bool) (x h : Int) : Int := if ok = true ∧ ¬ h < x then h else x
def bxE (n : Nat) (st : Bst) (ls : LoopState) : List (Nat × Blk) := [(n, cel [.int .i64 st.1.1, .int .i64 st.1.2]), (n + 1, cel [.int .i64 st.2.1.1, .int .i64 st.2.1.2]), (n + 2, cel [.bool st.2.2]), (n + 3, .dfr), (n + 4, .loop ls none 0 59 [(2, .ptr n 0), (3, .ptr (n + 1) 0), (4, .ptr (n + 2) 0)])]
def up0 (st : Bst) (f : Pr) : Bst := ((nlo st.2.2 f.1 st.1.1, st.1.2), (nhi st.2.2 f.1 st.2.1.1, st.2.1.2), st.2.2)
def up1 (st : Bst) (f : Pr) : Bst := ((st.1.1, nlo st.2.2 f.2 st.1.2), (st.2.1.1, nhi st.2.2 f.2 st.2.1.2), st.2.2)
section
variable {α : Type} {a : App} {l n fb K : Nat} {H1 H : Hp} {st : Bst} {f : Pr} {y : Nat × Blk} {ls : LoopState} {Q : Option Code → Hp → Prop}
theorem it0 (c : Cb H1 H ((fb, cel [.int .i64 f.1, .int .i64 f.2]) :: y :: bxE n st ls)) (kk : ∀ A, A.n = H.n → Cb H1 A ((fb, cel [.int .i64 f.1, .int .i64 f.2]) :: y :: bxE n (up0 st f) ls) → Ok (r101q0_l0 a l K n (n + 1) (n + 2) fb 1 A) Q) : Ok (r101q0_l0 a l (K + 1) n (n + 1) (n + 2) fb 0 H) Q := by
  obtain ⟨⟨l0, l1⟩, ⟨h0, h1⟩, ok⟩ := st
  rw [r101q0_l0]
  refine Ok.pos (by decide) (Ok.kldB c (.tail _ (.tail _ (.tail _ (.tail _ (.head _))))) rfl ?_)
  have J1 : ∀ (b : Bool) (A : Hp) (l0' : Int), A.n = H.n → (b = true ↔ ¬ (ok = true ∧ ¬ h0 < f.1)) → l0' = nlo ok f.1 l0 → Cb H1 A ((fb, cel [.int .i64 f.1, .int .i64 f.2]) :: y :: bxE n ((l0', l1), (h0, h1), ok) ls) → Ok (r101q0_j1 a l (fun v1_ v2_ v3_ v4_ v5_ H_ => r101q0_l0 a l K v1_ v2_ v3_ v4_ v5_ H_) n (n + 1) (n + 2) fb 0 0 b A) Q := fun b A l0' nA hb hl c => by
    subst hl
    unfold r101q0_j1
    refine Ok.ite (fun hc => Ok.ck (by decide) (Ok.kld c (.head _) rfl (Ok.ck (by decide) (Ok.kst1 c 3 rfl (by show _ < 2; decide) fun D nD _ c => ?_)))) fun hc => ?_
    · have e : f.1 = nhi ok f.1 h0 := by unfold nhi; rw [if_neg (hb.1 hc)]
      refine kk D (by omega) ?_
      have c : Cb H1 D ((fb, cel [.int .i64 f.1, .int .i64 f.2]) :: y :: bxE n ((nlo ok f.1 l0, l1), (f.1, h1), ok) ls) := c
      rw [show up0 ((l0, l1), (h0, h1), ok) f = ((nlo ok f.1 l0, l1), (nhi ok f.1 h0, h1), ok) from rfl, ← e]
      exact c
    · have e : h0 = nhi ok f.1 h0 := by unfold nhi; rw [if_pos (Classical.byContradiction fun q => hc (hb.2 q))]
      refine kk A (by omega) ?_
      rw [show up0 ((l0, l1), (h0, h1), ok) f = ((nlo ok f.1 l0, l1), (nhi ok f.1 h0, h1), ok) from rfl, ← e]
      exact c
  have J2 : ∀ (A : Hp) (l0' : Int), A.n = H.n → l0' = nlo ok f.1 l0 → Cb H1 A ((fb, cel [.int .i64 f.1, .int .i64 f.2]) :: y :: bxE n ((l0', l1), (h0, h1), ok) ls) → Ok (r101q0_j2 a l (fun v1_ v2_ v3_ v4_ v5_ H_ => r101q0_l0 a l K v1_ v2_ v3_ v4_ v5_ H_) n (n + 1) (n + 2) fb 0 0 A) Q := fun A l0' nA hl c => by
    unfold r101q0_j2
    refine Ok.kldB c (.tail _ (.tail _ (.tail _ (.tail _ (.head _))))) rfl (Ok.ite (fun hok => Ok.ck (by decide) (Ok.kld c (.head _) rfl (Ok.ck (by decide) (Ok.kld c (.tail _ (.tail _ (.tail _ (.head _)))) rfl (J1 _ A l0' nA ?_ hl c))))) fun hok => J1 _ A l0' nA ?_ hl c)
    · dsimp only at hok
      rw [decide_eq_true_iff]
      constructor
      · intro h q; exact q.2 h
      · intro h; exact Classical.byContradiction fun q => h ⟨hok, q⟩
    · exact ⟨fun _ q => hok q.1, fun _ => rfl⟩
  have J3 : ∀ (b : Bool), (b = true ↔ ¬ (ok = true ∧ ¬ f.1 < l0)) → Ok (r101q0_j3 a l (fun v1_ v2_ v3_ v4_ v5_ H_ => r101q0_l0 a l K v1_ v2_ v3_ v4_ v5_ H_) n (n + 1) (n + 2) fb 0 0 b H) Q := fun b hb => by
    unfold r101q0_j3
    refine Ok.ite (fun hc => Ok.ck (by decide) (Ok.kld c (.head _) rfl (Ok.ck (by decide) (Ok.kst1 c 2 rfl (by show _ < 2; decide) fun D nD _ c => J2 D f.1 nD ?_ c)))) fun hc => J2 H l0 rfl ?_ c
    · unfold nlo; rw [if_neg (hb.1 hc)]
    · unfold nlo; rw [if_pos (Classical.byContradiction fun q => hc (hb.2 q))]
  refine Ok.ite (fun hok => Ok.ck (by decide) (Ok.kld c (.head _) rfl (Ok.ck (by decide) (Ok.kld c (.tail _ (.tail _ (.head _))) rfl (J3 _ ?_))))) fun hok => J3 _ ?_
  · dsimp only at hok
    rw [decide_eq_true_iff]
    constructor
    · intro h q; exact q.2 h
    · intro h; exact Classical.byContradiction fun q => h ⟨hok, q⟩
  · exact ⟨fun _ q => hok q.1, fun _ => rfl⟩
theorem it1 (c : Cb H1 H ((fb, cel [.int .i64 f.1, .int .i64 f.2]) :: y :: bxE n st ls)) (kk : ∀ A, A.n = H.n → Cb H1 A ((fb, cel [.int .i64 f.1, .int .i64 f.2]) :: y :: bxE n (up1 st f) ls) → Ok (r101q0_l0 a l K n (n + 1) (n + 2) fb 2 A) Q) : Ok (r101q0_l0 a l (K + 1) n (n + 1) (n + 2) fb 1 H) Q := by
  obtain ⟨⟨l0, l1⟩, ⟨h0, h1⟩, ok⟩ := st
  rw [r101q0_l0]
  refine Ok.pos (by decide) (Ok.kldB c (.tail _ (.tail _ (.tail _ (.tail _ (.head _))))) rfl ?_)
  have J1 : ∀ (b : Bool) (A : Hp) (l1' : Int), A.n = H.n → (b = true ↔ ¬ (ok = true ∧ ¬ h1 < f.2)) → l1' = nlo ok f.2 l1 → Cb H1 A ((fb, cel [.int .i64 f.1, .int .i64 f.2]) :: y :: bxE n ((l0, l1'), (h0, h1), ok) ls) → Ok (r101q0_j1 a l (fun v1_ v2_ v3_ v4_ v5_ H_ => r101q0_l0 a l K v1_ v2_ v3_ v4_ v5_ H_) n (n + 1) (n + 2) fb 1 1 b A) Q := fun b A l1' nA hb hl c => by
    subst hl
    unfold r101q0_j1
    refine Ok.ite (fun hc => Ok.ck (by decide) (Ok.kld c (.head _) rfl (Ok.ck (by decide) (Ok.kst1 c 3 rfl (by show _ < 2; decide) fun D nD _ c => ?_)))) fun hc => ?_
    · have e : f.2 = nhi ok f.2 h1 := by unfold nhi; rw [if_neg (hb.1 hc)]
      refine kk D (by omega) ?_
      have c : Cb H1 D ((fb, cel [.int .i64 f.1, .int .i64 f.2]) :: y :: bxE n ((l0, nlo ok f.2 l1), (h0, f.2), ok) ls) := c
      rw [show up1 ((l0, l1), (h0, h1), ok) f = ((l0, nlo ok f.2 l1), (h0, nhi ok f.2 h1), ok) from rfl, ← e]
      exact c
    · have e : h1 = nhi ok f.2 h1 := by unfold nhi; rw [if_pos (Classical.byContradiction fun q => hc (hb.2 q))]
      refine kk A (by omega) ?_
      rw [show up1 ((l0, l1), (h0, h1), ok) f = ((l0, nlo ok f.2 l1), (h0, nhi ok f.2 h1), ok) from rfl, ← e]
      exact c
  have J2 : ∀ (A : Hp) (l1' : Int), A.n = H.n → l1' = nlo ok f.2 l1 → Cb H1 A ((fb, cel [.int .i64 f.1, .int .i64 f.2]) :: y :: bxE n ((l0, l1'), (h0, h1), ok) ls) → Ok (r101q0_j2 a l (fun v1_ v2_ v3_ v4_ v5_ H_ => r101q0_l0 a l K v1_ v2_ v3_ v4_ v5_ H_) n (n + 1) (n + 2) fb 1 1 A) Q := fun A l1' nA hl c => by
    unfold r101q0_j2
    refine Ok.kldB c (.tail _ (.tail _ (.tail _ (.tail _ (.head _))))) rfl (Ok.ite (fun hok => Ok.ck (by decide) (Ok.kld c (.head _) rfl (Ok.ck (by decide) (Ok.kld c (.tail _ (.tail _ (.tail _ (.head _)))) rfl (J1 _ A l1' nA ?_ hl c))))) fun hok => J1 _ A l1' nA ?_ hl c)
    · dsimp only at hok
      rw [decide_eq_true_iff]
      constructor
      · intro h q; exact q.2 h
      · intro h; exact Classical.byContradiction fun q => h ⟨hok, q⟩
    · exact ⟨fun _ q => hok q.1, fun _ => rfl⟩
  have J3 : ∀ (b : Bool), (b = true ↔ ¬ (ok = true ∧ ¬ f.2 < l1)) → Ok (r101q0_j3 a l (fun v1_ v2_ v3_ v4_ v5_ H_ => r101q0_l0 a l K v1_ v2_ v3_ v4_ v5_ H_) n (n + 1) (n + 2) fb 1 1 b H) Q := fun b hb => by
    unfold r101q0_j3
    refine Ok.ite (fun hc => Ok.ck (by decide) (Ok.kld c (.head _) rfl (Ok.ck (by decide) (Ok.kst1 c 2 rfl (by show _ < 2; decide) fun D nD _ c => J2 D f.2 nD ?_ c)))) fun hc => J2 H l1 rfl ?_ c
    · unfold nlo; rw [if_neg (hb.1 hc)]
    · unfold nlo; rw [if_pos (Classical.byContradiction fun q => hc (hb.2 q))]
  refine Ok.ite (fun hok => Ok.ck (by decide) (Ok.kld c (.head _) rfl (Ok.ck (by decide) (Ok.kld c (.tail _ (.tail _ (.head _))) rfl (J3 _ ?_))))) fun hok => J3 _ ?_
  · dsimp only at hok
    rw [decide_eq_true_iff]
    constructor
    · intro h q; exact q.2 h
    · intro h; exact Classical.byContradiction fun q => h ⟨hok, q⟩
  · exact ⟨fun _ q => hok q.1, fun _ => rfl⟩
end
end Go.Lt.P2
