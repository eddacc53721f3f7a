/- PLAIN LAWS OF WHAT IS COMPUTED, for the statement 'CutsReached'. Nothing is asked of the input. -/
import Derived.Test.YteefkljbmjjncaaG12A
import Derived.Test.YteefkljbmjjncaaLB
set_option linter.unusedVariables false
set_option linter.unusedSimpArgs false
namespace Go.Lt.P2
open Go Go.Lt Go.Proofs
abbrev Pr := Int × Int
abbrev Sd := Int × Int × Int
theorem mul_bd {x y A B : Int} (h1 : -A ≤ x) (h2 : x ≤ A) (h3 : -B ≤ y) (h4 : y ≤ B) : -(A * B) ≤ x * y ∧ x * y ≤ A * B := by
  have p1 : 0 ≤ (A - x) * (B - y) := Int.mul_nonneg (by omega) (by omega)
  have p2 : 0 ≤ (A + x) * (B + y) := Int.mul_nonneg (by omega) (by omega)
  have p3 : 0 ≤ (A - x) * (B + y) := Int.mul_nonneg (by omega) (by omega)
  have p4 : 0 ≤ (A + x) * (B - y) := Int.mul_nonneg (by omega) (by omega)
  constructor <;> grind
theorem gcd_step (a b : Nat) : Nat.gcd b (a % b) = Nat.gcd a b := by
  rw [Nat.gcd_comm a b, Nat.gcd_rec b a, Nat.gcd_comm]
theorem w64_abs {a : Int} (ha : a.natAbs < 9223372036854775808) : (if a < w64 (0 - a) then w64 (0 - a) else a) = (a.natAbs : Int) := by
  rw [w64_id (by omega) (by omega)]
  split <;> omega
/-- a side -/
def sideP (s : Sd) : Prop := (-4 ≤ s.1 ∧ s.1 ≤ 4) ∧ (-4 ≤ s.2.1 ∧ s.2.1 ≤ 4) ∧ ¬ (s.1 = 0 ∧ s.2.1 = 0) ∧ (-40 ≤ s.2.2 ∧ s.2.2 ≤ 40)
instance (s : Sd) : Decidable (sideP s) := by unfold sideP; infer_instance
theorem sts3 (H : Hp) (x y z a b c : AV) : ∃ D, (H.push (.cells [a, b, c] false)).sts H.n 0 [x, y, z] = some D ∧ D.get H.n = some (.cells [x, y, z] false) ∧ Gr H D ∧ D.n = H.n + 1 := by
  obtain ⟨D, h1, h2, h3, h4⟩ := sts_blk [x, y, z] 0 (H.push (.cells [a, b, c] false)) [a, b, c] (Hp.get_push_new _ _) (by simp)
  refine ⟨D, h1, h2, ⟨by rw [h3]; simp, fun q hq => ?_⟩, by rw [h3]; simp⟩
  rw [h4 q (by omega), Hp.get_push_old _ _ hq]
end Go.Lt.P2

namespace Go.Lt.P2
open Go Go.Lt Go.Proofs
theorem gcdI {H : Hp} : ∀ (K : Nat) (a b : Int), b.natAbs < K → a.natAbs < 9223372036854775808 → b.natAbs < 9223372036854775808 → r94_l0 K a b H = some ((Nat.gcd a.natAbs b.natAbs : Int), H) := by
  intro K
  induction K with
  | zero => intro a b h; omega
  | succ K ih =>
    intro a b h ha hb
    rw [r94_l0]
    by_cases h0 : b = 0
    · subst h0
      rw [if_neg (by simp), w64Abs ha]
      simp
    · have hm := Nat.mod_lt a.natAbs (show 0 < b.natAbs by omega)
      have e := Int.natAbs_tmod a b
      rw [if_pos h0, ck, if_pos h0, ih b (Int.tmod a b) (by omega) hb (by omega), e, gcd_step]
/-- frac -/
theorem r100_q {a b : Int} (ha : a.natAbs < 9223372036854775807) (hb : b ≠ 0) (hb2 : b.natAbs < 9223372036854775807) (H : Hp) : Ok (r100 a b H) fun r _ => r = fq (dv a b) := by
  have key : ∀ {a b : Int} {A : Hp} {E : List (Nat × List AV)}, a.natAbs < 9223372036854775808 → 0 < b → b < 9223372036854775808 → Cx H A ((H.n, [.int .i64 0, .int .i64 0]) :: E) → Ok (r100_j0 a b H.n A) fun r _ => r = fq (dv a b) := fun {a b A E} ha hb hb2 c => by
    have hg : 0 < Nat.gcd a.natAbs b.natAbs := Nat.gcd_pos_of_pos_right _ (by omega)
    unfold r100_j0
    refine Ok.own (b := (Nat.gcd a.natAbs b.natAbs : Int)) ⟨_, _, gcdI FUEL a b (by unfold FUEL; omega) ha (by omega), rfl⟩ fun X => ?_
    dsimp only
    rw [tdivSmall ha, tdivSmall (by omega)]
    refine Ok.ck (by omega) (Ok.ck (by omega) (Ok.cst c 0 rfl rfl fun D _ _ c => ?_))
    refine Ok.cld c (.head _) rfl (Ok.cld c (.head _) rfl (Ok.ret ?_))
    rw [fq_gcdv hb]
  unfold r100
  refine Ok.box (.nil H) fun A _ c => Ok.ite (fun h => ?_) fun h => ?_
  · rw [w64_id (by omega) (by omega), w64_id (by omega) (by omega)]
    have e : dv a b = dv (0 - a) (0 - b) := by rw [Int.zero_sub, Int.zero_sub, dv_neg]
    rw [e]
    exact key (by omega) (by omega) (by omega) c
  · exact key (by omega) (by omega) (by omega) c
theorem r100_int {a : Int} (ha : a.natAbs < 9223372036854775807) (H : Hp) : Ok (r100 a 1 H) fun r _ => r = fq (a : Rat) := by
  have := r100_q (a := a) (b := 1) ha (by decide) (by decide) H
  rw [dv_int] at this
  exact this
/-- compare -/
theorem r84_q (a b : Int) : Ok (r84 a b H0) fun r _ => r = if a < b then -1 else if b < a then 1 else 0 := by
  unfold r84 r107
  refine Ok.own (b := false) (Ok.ret (by simp)) fun X => Ok.own (b := false) (Ok.ret (by simp)) fun Y => Ok.neg (by simp) (Ok.neg (by simp) ?_)
  refine Ok.ite (fun c => Ok.ret (by rw [if_pos c])) fun c => Ok.ite (fun d => Ok.ret (by rw [if_neg c, if_pos d])) fun d => Ok.ret (by rw [if_neg c, if_neg d])
theorem r89_q {N D N' D' : Int} {p q : Rat} (hp : qb N D p) (hq : qb N' D' q) (h1 : N * D' < 9223372036854775808) (h2 : N' * D < 9223372036854775808) : Ok (r89 (fq p).1 (fq p).2 (fq q).1 (fq q).2 H0) fun r _ => r = cmpq p q := by
  obtain ⟨a1, a2, a3⟩ := hp
  obtain ⟨k1, k2, k3⟩ := hq
  have ap := fq_pos p
  have kp := fq_pos q
  have b1 := mulBd (A := N) (B := D') (x := (fq p).1) (y := (fq q).2) a1 a2 (by omega) k3
  have b3 := mulBd (A := N') (B := D) (x := (fq q).1) (y := (fq p).2) k1 k2 (by omega) a3
  unfold r89
  refine Ok.lt (Ok.ld rfl (Ok.ld rfl (Ok.ld rfl (Ok.ld rfl ?_))))
  rw [w64_id (by omega) (by omega), w64_id (by omega) (by omega)]
  refine Ok.own (r84_q _ _) fun X => Ok.ret ?_
  dsimp only
  unfold cmpq
  simp only [fq_lt]
/-- plus, times -/
theorem r98_q {p q : Rat} {N D N' D' : Int} (hp : qb N D p) (hq : qb N' D' q) (h1 : N * D' < 1000000000000000000) (h2 : N' * D < 1000000000000000000) (h3 : D * D' < 1000000000000000000) : Ok (r98 (fq p).1 (fq p).2 (fq q).1 (fq q).2 H0) fun r _ => r = fq (p + q) := by
  have e := fq_add p q
  obtain ⟨a1, a2, a3⟩ := hp
  obtain ⟨k1, k2, k3⟩ := hq
  have ap := fq_pos p
  have kp := fq_pos q
  have b1 := mulBd (A := N) (B := D') (x := (fq p).1) (y := (fq q).2) a1 a2 (by omega) k3
  have b2 := mulBd (A := N') (B := D) (x := (fq q).1) (y := (fq p).2) k1 k2 (by omega) a3
  have b3 := mulBd (A := D) (B := D') (x := (fq p).2) (y := (fq q).2) (by omega) a3 (by omega) k3
  have b4 := Int.mul_pos ap kp
  unfold r98
  refine Ok.box3 (.nil H0) fun A _ c => Ok.cld c (.tail _ (.tail _ (.head _))) rfl (Ok.cld c (.tail _ (.head _)) rfl (Ok.cld c (.tail _ (.head _)) rfl (Ok.cld c (.tail _ (.tail _ (.head _))) rfl (Ok.cld c (.tail _ (.tail _ (.head _))) rfl (Ok.cld c (.tail _ (.head _)) rfl ?_)))))
  rw [w64_id (n := (fq p).1 * (fq q).2) (by omega) (by omega), w64_id (n := (fq q).1 * (fq p).2) (by omega) (by omega), w64_id (n := (fq p).2 * (fq q).2) (by omega) (by omega), w64_id (by omega) (by omega)]
  refine Ok.own (r100_q (by omega) (by omega) (by omega) H0) fun X => ?_
  rw [e]
  exact Ok.cst c 0 rfl rfl fun B _ _ c => Ok.cld c (.head _) rfl (Ok.cld c (.head _) rfl (Ok.ret rfl))
theorem r99_q {q : Rat} {k K N D : Int} (hk : -K ≤ k ∧ k ≤ K) (hq : qb N D q) (h1 : K * N < 1000000000000000000) (h2 : D < 1000000000000000000) : Ok (r99 k (fq q).1 (fq q).2 H0) fun r _ => r = fq ((k : Rat) * q) := by
  obtain ⟨k1, k2, k3⟩ := hq
  have kp := fq_pos q
  have b1 := mulBd (A := K) (B := N) (x := k) (y := (fq q).1) hk.1 hk.2 k1 k2
  have e : dv (k * (fq q).1) (fq q).2 = (k : Rat) * q := by
    have := dv_mul (a := k) (b := 1) (c := (fq q).1) (d := (fq q).2) (by decide) kp
    rw [Int.one_mul, dv_fq, dv_int] at this
    exact this
  unfold r99
  refine Ok.box2 (.nil H0) fun A _ c => Ok.cld c (.tail _ (.head _)) rfl (Ok.cld c (.tail _ (.head _)) rfl ?_)
  rw [w64_id (by omega) (by omega)]
  refine Ok.own (r100_q (by omega) (by omega) (by omega) H0) fun X => ?_
  rw [e]
  exact Ok.cst c 0 rfl rfl fun B _ _ c => Ok.cld c (.head _) rfl (Ok.cld c (.head _) rfl (Ok.ret rfl))
/-- points of the plane -/
abbrev Pq := Rat × Rat
def pt (p : Pq) : Int × Int × Int × Int := ((fq p.1).1, (fq p.1).2, (fq p.2).1, (fq p.2).2)
def pc4 (p : Pq) : List AV := [.int .i64 (fq p.1).1, .int .i64 (fq p.1).2, .int .i64 (fq p.2).1, .int .i64 (fq p.2).2]
def sc (s : Sd) : List AV := [.int .i64 s.1, .int .i64 s.2.1, .int .i64 s.2.2]
def qp (p : Pq) : Prop := qb 10000 100 p.1 ∧ qb 10000 100 p.2
def atq (a b : Int) (p : Pq) : Rat := (a : Rat) * p.1 + (b : Rat) * p.2
def lqs (s : Sd) (p : Pq) : Prop := atq s.1 s.2.1 p ≤ (s.2.2 : Rat)
instance (s : Sd) (p : Pq) : Decidable (lqs s p) := by unfold lqs; infer_instance
def inP (l : List Sd) (p : Pq) : Prop := ∀ s ∈ l, lqs s p
instance (l : List Sd) (p : Pq) : Decidable (inP l p) := by unfold inP; infer_instance
theorem atq_qb {a b : Int} {p : Pq} (ha : -24 ≤ a ∧ a ≤ 24) (hb : -24 ≤ b ∧ b ≤ 24) (hp : qp p) : qb 48000000 10000 (atq a b p) := by
  have h1 := (qb_int (a := a) (N := 24) (D := 1) (by omega) (by omega) (by omega)).mul hp.1
  have h2 := (qb_int (a := b) (N := 24) (D := 1) (by omega) (by omega) (by omega)).mul hp.2
  exact (h1.add h2).mono (by decide) (by decide)
/-- at -/
theorem r69_q {a b c : Int} {p : Pq} (ha : -24 ≤ a ∧ a ≤ 24) (hb : -24 ≤ b ∧ b ≤ 24) (hp : qp p) : Ok (r69 a b c (fq p.1).1 (fq p.1).2 (fq p.2).1 (fq p.2).2 H0) fun r _ => r = fq (atq a b p) := by
  have h1 := (qb_int (a := a) (N := 24) (D := 1) (by omega) (by omega) (by omega)).mul hp.1
  have h2 := (qb_int (a := b) (N := 24) (D := 1) (by omega) (by omega) (by omega)).mul hp.2
  unfold r69
  refine Ok.box3 (.nil H0) fun A _ c => Ok.cld c (.tail _ (.tail _ (.head _))) rfl (Ok.cld c (.tail _ (.head _)) rfl (Ok.cld c (.tail _ (.head _)) rfl (Ok.own (r99_q (K := 24) (by omega) hp.1 (by decide) (by decide)) fun X => ?_)))
  refine Ok.cld c (.tail _ (.tail _ (.head _))) rfl (Ok.cld c (.tail _ (.head _)) rfl (Ok.cld c (.tail _ (.head _)) rfl (Ok.own (r99_q (K := 24) (by omega) hp.2 (by decide) (by decide)) fun X => ?_)))
  refine Ok.own (r98_q h1 h2 (by decide) (by decide) (by decide)) fun X => ?_
  exact Ok.cst c 0 rfl rfl fun B _ _ c => Ok.cld c (.head _) rfl (Ok.cld c (.head _) rfl (Ok.ret rfl))
/-- keeps -/
theorem r70_q {a b c : Int} {p : Pq} (ha : -24 ≤ a ∧ a ≤ 24) (hb : -24 ≤ b ∧ b ≤ 24) (hc : -100000000 ≤ c ∧ c ≤ 100000000) (hp : qp p) : Ok (r70 a b c (fq p.1).1 (fq p.1).2 (fq p.2).1 (fq p.2).2 H0) fun r _ => r = decide (lqs (a, b, c) p) := by
  unfold r70
  refine Ok.box2 (.nil H0) fun A _ cx => Ok.cld cx (.tail _ (.head _)) rfl (Ok.cld cx (.tail _ (.head _)) rfl (Ok.cld cx (.tail _ (.head _)) rfl (Ok.cld cx (.head _) rfl (Ok.cld cx (.head _) rfl (Ok.cld cx (.head _) rfl (Ok.cld cx (.head _) rfl (Ok.own (r69_q ha hb hp) fun X => ?_)))))))
  refine Ok.cld cx (.tail _ (.head _)) rfl (Ok.own (r100_int (by omega) H0) fun X => Ok.own (r89_q (atq_qb ha hb hp) (qb_int (a := c) (N := 100000000) (D := 1) (by omega) (by omega) (by omega)) (by decide) (by decide)) fun X => Ok.ret ?_)
  exact decide_eq_decide.2 cmp_le
end Go.Lt.P2

namespace Go.Lt.P2
open Go Go.Lt Go.Proofs
/-! ### greatest values -/
def isMxQ (f : Pq → Rat) (l : List Pq) (m : Rat) : Prop := (∃ p ∈ l, f p = m) ∧ ∀ p ∈ l, f p ≤ m
theorem isMxQ.uniq {f : Pq → Rat} {l : List Pq} {a b : Rat} (h : isMxQ f l a) (k : isMxQ f l b) : a = b := by
  obtain ⟨⟨p, hp, e⟩, h2⟩ := h
  obtain ⟨⟨q, hq, e'⟩, k2⟩ := k
  have := h2 q hq; have := k2 p hp; grind
def isMxI (f : Pr → Int) (l : List Pr) (m : Int) : Prop := (∃ p ∈ l, f p = m) ∧ ∀ p ∈ l, f p ≤ m
theorem isMxI.uniq {f : Pr → Int} {l : List Pr} {a b : Int} (h : isMxI f l a) (k : isMxI f l b) : a = b := by
  obtain ⟨⟨p, hp, e⟩, h2⟩ := h
  obtain ⟨⟨q, hq, e'⟩, k2⟩ := k
  have := h2 q hq; have := k2 p hp; omega
def near9 (a b : Int) : Prop := (-9 ≤ a ∧ a ≤ 9) ∧ -9 ≤ b ∧ b ≤ 9
instance (a b : Int) : Decidable (near9 a b) := by unfold near9; infer_instance
theorem cmp_gt {p q : Rat} : (0 < cmpq p q) ↔ q < p := by
  unfold cmpq
  by_cases h : p < q
  · rw [if_pos h]; constructor
    · intro k; exact absurd k (by decide)
    · intro k; grind
  · rw [if_neg h]
    by_cases k : q < p
    · rw [if_pos k]; simp [k]
    · rw [if_neg k]; simp [k]
/-- a slice with something in it lies in the heap -/
theorem SL.blt {T : Type} [El T] {H : Hp} {v : Sl} {l : List T} (h : SL H v l) (hne : l ≠ []) : v.b < H.n := by
  have hl := List.length_pos_iff.2 hne
  have hlen := h.len
  have hz := El.pos (T := T)
  have h2 : 0 < v.len * El.sz T := Nat.mul_pos (by omega) hz
  have hd := h.lds
  obtain ⟨n, hn⟩ : ∃ n, v.len * El.sz T = n + 1 := ⟨v.len * El.sz T - 1, by omega⟩
  rw [hn] at hd
  unfold Hp.lds at hd
  cases hld : H.ld v.b v.o with
  | none => rw [hld] at hd; simp at hd
  | some x =>
    unfold Hp.ld at hld
    cases hg : H.get v.b with
    | none => rw [hg] at hld; simp at hld
    | some k => exact Hp.get_lt hg
end Go.Lt.P2

namespace Go.Lt.P2
open Go Go.Lt Go.Proofs
def crI (s t : Sd) : Int := s.1 * t.2.1 - s.2.1 * t.1
def meetq (s t : Sd) : Pq := (dv (s.2.2 * t.2.1 - t.2.2 * s.2.1) (crI s t), dv (s.1 * t.2.2 - t.1 * s.2.2) (crI s t))
theorem r97_ok {a b c d : Int} (ha : -1000000000 ≤ a ∧ a ≤ 1000000000) (hb : -1000000000 ≤ b ∧ b ≤ 1000000000) (hc : -1000000000 ≤ c ∧ c ≤ 1000000000) (hd : -1000000000 ≤ d ∧ d ≤ 1000000000) : Ok (r97 a b c d H0) fun r _ => r = a * d - b * c := by
  have b1 := mul_bd (A := 1000000000) (B := 1000000000) (x := a) (y := d) (by omega) (by omega) (by omega) (by omega)
  have b2 := mul_bd (A := 1000000000) (B := 1000000000) (x := b) (y := c) (by omega) (by omega) (by omega) (by omega)
  unfold r97
  rw [w64_id (n := a * d) (by omega) (by omega), w64_id (n := b * c) (by omega) (by omega), w64_id (by omega) (by omega)]
  exact Ok.ret rfl
theorem meet_bd {s t : Sd} (hs : sideP s) (ht : sideP t) : (-32 ≤ crI s t ∧ crI s t ≤ 32) ∧ (-160 ≤ s.2.2 * t.2.1 ∧ s.2.2 * t.2.1 ≤ 160) ∧ (-160 ≤ t.2.2 * s.2.1 ∧ t.2.2 * s.2.1 ≤ 160) ∧ (-160 ≤ s.1 * t.2.2 ∧ s.1 * t.2.2 ≤ 160) ∧ (-160 ≤ t.1 * s.2.2 ∧ t.1 * s.2.2 ≤ 160) := by
  unfold sideP at hs ht
  have b1 := mul_bd (A := 4) (B := 4) (x := s.1) (y := t.2.1) (by omega) (by omega) (by omega) (by omega)
  have b2 := mul_bd (A := 4) (B := 4) (x := s.2.1) (y := t.1) (by omega) (by omega) (by omega) (by omega)
  have b3 := mul_bd (A := 40) (B := 4) (x := s.2.2) (y := t.2.1) (by omega) (by omega) (by omega) (by omega)
  have b4 := mul_bd (A := 40) (B := 4) (x := t.2.2) (y := s.2.1) (by omega) (by omega) (by omega) (by omega)
  have b5 := mul_bd (A := 4) (B := 40) (x := s.1) (y := t.2.2) (by omega) (by omega) (by omega) (by omega)
  have b6 := mul_bd (A := 4) (B := 40) (x := t.1) (y := s.2.2) (by omega) (by omega) (by omega) (by omega)
  unfold crI
  omega
theorem qb_dvn {a b N D : Int} (hb : b ≠ 0) (h : -N ≤ a) (h2 : a ≤ N) (hD : -D ≤ b) (hD2 : b ≤ D) : qb N D (dv a b) := by
  by_cases h0 : 0 < b
  · exact qb_dv h0 h h2 hD2
  · rw [← dv_neg]
    exact qb_dv (by omega) (by omega) (by omega) (by omega)
theorem meet_qb {s t : Sd} (hs : sideP s) (ht : sideP t) (h : crI s t ≠ 0) : qb 320 32 (meetq s t).1 ∧ qb 320 32 (meetq s t).2 := by
  have b := meet_bd hs ht
  exact ⟨qb_dvn h (by omega) (by omega) (by omega) (by omega), qb_dvn h (by omega) (by omega) (by omega) (by omega)⟩
theorem meet_qp {s t : Sd} (hs : sideP s) (ht : sideP t) (h : crI s t ≠ 0) : qp (meetq s t) :=
  have b := meet_qb hs ht h
  ⟨b.1.mono (by decide) (by decide), b.2.mono (by decide) (by decide)⟩
theorem meet_on {s t : Sd} (h : crI s t ≠ 0) : atq s.1 s.2.1 (meetq s t) = (s.2.2 : Rat) ∧ atq t.1 t.2.1 (meetq s t) = (t.2.2 : Rat) := by
  have h0 := cast_ne h
  unfold meetq atq dv
  have e : ((crI s t : Int) : Rat) = (s.1 : Rat) * t.2.1 - (s.2.1 : Rat) * t.1 := by unfold crI; push_cast; rfl
  rw [e] at h0 ⊢
  push_cast
  constructor <;> grind
theorem crI_sym (s t : Sd) : crI t s = -crI s t := by unfold crI; grind
theorem meet_sym (s t : Sd) : meetq t s = meetq s t := by
  unfold meetq
  rw [crI_sym]
  rw [← dv_neg (s.2.2 * t.2.1 - t.2.2 * s.2.1), ← dv_neg (s.1 * t.2.2 - t.1 * s.2.2)]
  congr 2 <;> grind
/-- meet -/
theorem r96_ok {s t : Sd} (hs : sideP s) (ht : sideP t) : Ok (r96 s.1 s.2.1 s.2.2 t.1 t.2.1 t.2.2 H0) fun r _ => r = if crI s t = 0 then (0, 0, 0, 0, false) else ((fq (meetq s t).1).1, (fq (meetq s t).1).2, (fq (meetq s t).2).1, (fq (meetq s t).2).2, true) := by
  have b := meet_bd hs ht
  have hs' := hs
  have ht' := ht
  unfold sideP at hs' ht'
  unfold r96
  refine Ok.box3 (.nil H0) fun A _ c => ?_
  refine Ok.cld c (.tail _ (.tail _ (.head _))) rfl (Ok.cld c (.tail _ (.tail _ (.head _))) rfl (Ok.cld c (.tail _ (.head _)) rfl (Ok.cld c (.tail _ (.head _)) rfl (Ok.own (r97_ok (by omega) (by omega) (by omega) (by omega)) fun X => ?_))))
  show Ok (if crI s t = 0 then _ else _) _
  refine Ok.ite (fun h => ?_) fun h => ?_
  · simp only [if_pos h]
    refine Ok.cst c 0 rfl rfl fun B _ _ c => ?_
    exact Ok.cld c (.head _) rfl (Ok.cld c (.head _) rfl (Ok.cld c (.head _) rfl (Ok.cld c (.head _) rfl (Ok.ret rfl))))
  · simp only [if_neg h]
    refine Ok.cld c (.tail _ (.tail _ (.head _))) rfl (Ok.cld c (.tail _ (.head _)) rfl (Ok.cld c (.tail _ (.head _)) rfl (Ok.cld c (.tail _ (.tail _ (.head _))) rfl ?_)))
    rw [w64_id (n := s.2.2 * _) (by omega) (by omega), w64_id (n := t.2.2 * _) (by omega) (by omega), w64_id (by omega) (by omega)]
    refine Ok.own (r100_q (by omega) h (by show (crI s t).natAbs < _; omega) H0) fun X => ?_
    refine Ok.cld c (.tail _ (.tail _ (.head _))) rfl (Ok.cld c (.tail _ (.head _)) rfl (Ok.cld c (.tail _ (.head _)) rfl (Ok.cld c (.tail _ (.tail _ (.head _))) rfl ?_)))
    rw [w64_id (n := s.1 * _) (by omega) (by omega), w64_id (n := t.1 * _) (by omega) (by omega), w64_id (by omega) (by omega)]
    refine Ok.own (r100_q (by omega) h (by show (crI s t).natAbs < _; omega) H0) fun X => ?_
    refine Ok.cst c 0 rfl rfl fun B _ _ c => ?_
    exact Ok.cld c (.head _) rfl (Ok.cld c (.head _) rfl (Ok.cld c (.head _) rfl (Ok.cld c (.head _) rfl (Ok.ret rfl))))
end Go.Lt.P2

namespace Go.Lt.P2
open Go Go.Lt Go.Proofs
theorem awakeH0 : ((r21 (app 20) H0).map (·.1)) = some true := by decide +kernel
/-- awake is known -/
noncomputable def appA (k : Nat) : App := ⟨fun f xs H => match f, xs with
  | 21, [] => some (.bool true, H)
  | f, xs => app k f xs H, (app k).yld⟩
theorem appASim (k : Nat) : AppSim Try.prog (appA k) := by
  refine ⟨fun f xs H v H1 h => ?_, (appSim k).2⟩
  unfold appA at h
  simp only at h
  split at h
  · injection h with h
    injection h with h1 h2
    subst h1; subst h2
    obtain ⟨p, hp, he⟩ := Option.map_eq_some_iff.1 awakeH0
    have := sim21 (happ := appSim 20) hp
    rw [he] at this
    exact ⟨ok21, this.own rfl rfl H⟩
  · exact (appSim k).1 _ _ _ _ _ h
end Go.Lt.P2

namespace Go.Lt.P2
open Go Go.Lt Go.Proofs
/-- a side's direction leads out of the plate at both of its ends -/
def dirP (l : List Sd) (d : Pr) : Prop := ∃ t ∈ l, 0 < t.1 * d.1 + t.2.1 * d.2
instance (l : List Sd) (d : Pr) : Decidable (dirP l d) := by unfold dirP; infer_instance
def plateP (l : List Sd) : Prop := (3 ≤ l.length ∧ l.length ≤ 6) ∧ (∀ s ∈ l, sideP s) ∧ ∀ s ∈ l, dirP l (-s.2.1, s.1) ∧ dirP l (s.2.1, -s.1)
instance (l : List Sd) : Decidable (plateP l) := by unfold plateP; infer_instance
theorem forall_take {α : Type} {l : List α} {i : Nat} {P : α → Prop} (h : i < l.length) (h1 : ∀ x ∈ l.take i, P x) (h2 : P l[i]) : ∀ x ∈ l.take (i + 1), P x := by
  rw [List.take_succ_eq_append_getElem h]
  intro x hx
  rcases List.mem_append.1 hx with hx | hx
  · exact h1 x hx
  · rw [List.mem_singleton] at hx; subst hx; exact h2
/-- a function value that says something of each element, from a heap on -/
def Says {T : Type} [El T] (a : App) (fv : AV) (B : Hp) (arg : T → AV) (P : T → Prop) [DecidablePred P] (D : T → Prop) : Prop := ∀ H x, Gr B H → D x → Ok (callv a fv [arg x] H) fun r H' => Gr H H' ∧ r = .bool (decide (P x))
def argI (x : Int) : AV := .int .i64 x
def argP (x : Pr) : AV := .agg [.int .i64 x.1, .int .i64 x.2]
def argS (x : Sd) : AV := .agg [.int .i64 x.1, .int .i64 x.2.1, .int .i64 x.2.2]
section
variable {a : App} {fv : AV} {B : Hp}
theorem r105_ok {P : Int → Prop} [DecidablePred P] {D : Int → Prop} (hf : Says a fv B argI P D) {v : Sl} {l : List Int} (hv : SL B v l) (hb : l.length ≤ 1000000) (hD : ∀ x ∈ l, D x) : Ok (r105 a v fv B) fun r H' => Gr B H' ∧ r = decide (∃ x ∈ l, P x) := by
  unfold r105
  refine Ok.bind (P := fun r H' => Gr B H' ∧ (0 ≤ r ↔ ∃ x ∈ l, P x)) ?_ fun r H' h => Ok.ret ⟨h.1, decide_eq_decide.2 h.2⟩
  unfold r113
  have hlen := hv.len
  rw [hlen]
  refine Ok.loop (L := fun K (s : Int) H2 => r113_l0 a K v fv l.length s H2) (fun m s H' => Gr B H' ∧ ∃ i : Nat, s = i ∧ i + m = l.length ∧ ∀ x ∈ l.take i, ¬ P x) ?_ FUEL l.length 0 B (by unfold FUEL; omega) ⟨.refl _, 0, rfl, by omega, by simp⟩
  rintro K m s H1 ⟨g1, i, rfl, hm, ht⟩ ih
  try dsimp only at *
  rw [r113_l0]
  by_cases h : i < l.length
  · have hg := hv.gr g1
    refine Ok.pos (by omega) (Ok.ck (by omega) (Ok.ld (hg.ldI (i := i) (j := 0) h rfl) (Ok.bind (hf H1 l[i] g1 (hD _ (List.getElem_mem h))) fun r H2 ⟨g2, hr⟩ => ?_)))
    subst hr
    refine Ok.ld rfl (Ok.ite (fun c => Ok.ret ⟨g1.trans g2, ⟨fun _ => ⟨l[i], List.getElem_mem h, of_decide_eq_true c⟩, fun _ => by omega⟩⟩) fun c => ?_)
    rw [w64_succ (by omega)]
    exact ih (m - 1) _ H2 (by omega) ⟨g1.trans g2, i + 1, rfl, by omega, forall_take h ht (fun p => c (decide_eq_true p))⟩
  · rw [List.take_of_length_le (by omega)] at ht
    exact Ok.neg (by omega) (Ok.ret ⟨g1, ⟨fun q => by omega, fun ⟨x, hx, hp⟩ => absurd hp (ht x hx)⟩⟩)
theorem r92_ok {P : Sd → Prop} [DecidablePred P] {D : Sd → Prop} (hf : Says a fv B argS P D) {v : Sl} {l : List Sd} (hv : SL B v l) (hb : l.length ≤ 1000000) (hD : ∀ x ∈ l, D x) : Ok (r92 a v fv B) fun r H' => Gr B H' ∧ r = decide (∃ x ∈ l, P x) := by
  unfold r92
  refine Ok.bind (P := fun r H' => Gr B H' ∧ (0 ≤ r ↔ ∃ x ∈ l, P x)) ?_ fun r H' h => Ok.ret ⟨h.1, decide_eq_decide.2 h.2⟩
  unfold r111
  have hlen := hv.len
  rw [hlen]
  refine Ok.loop (L := fun K (s : Int) H2 => r111_l0 a K v fv l.length s H2) (fun m s H' => Gr B H' ∧ ∃ i : Nat, s = i ∧ i + m = l.length ∧ ∀ x ∈ l.take i, ¬ P x) ?_ FUEL l.length 0 B (by unfold FUEL; omega) ⟨.refl _, 0, rfl, by omega, by simp⟩
  rintro K m s H1 ⟨g1, i, rfl, hm, ht⟩ ih
  try dsimp only at *
  rw [r111_l0]
  by_cases h : i < l.length
  · have hg := hv.gr g1
    refine Ok.pos (by omega) (Ok.ck (by omega) (Ok.ld (hg.ldI (i := i) (j := 0) h rfl) (Ok.ld (hg.ldI (i := i) (j := 1) h rfl) (Ok.ld (hg.ldI (i := i) (j := 2) h rfl) (Ok.bind (hf H1 l[i] g1 (hD _ (List.getElem_mem h))) fun r H2 ⟨g2, hr⟩ => ?_)))))
    subst hr
    refine Ok.ld rfl (Ok.ite (fun c => Ok.ret ⟨g1.trans g2, ⟨fun _ => ⟨l[i], List.getElem_mem h, of_decide_eq_true c⟩, fun _ => by omega⟩⟩) fun c => ?_)
    rw [w64_succ (by omega)]
    exact ih (m - 1) _ H2 (by omega) ⟨g1.trans g2, i + 1, rfl, by omega, forall_take h ht (fun p => c (decide_eq_true p))⟩
  · rw [List.take_of_length_le (by omega)] at ht
    exact Ok.neg (by omega) (Ok.ret ⟨g1, ⟨fun q => by omega, fun ⟨x, hx, hp⟩ => absurd hp (ht x hx)⟩⟩)
end
/-- within -/
theorem r79_ok {k : Nat} {c : Int} (hc : 0 ≤ c ∧ c ≤ 1000) {B : Hp} {v : Sl} {l : List Int} (hv : SL B v l) (hb : l.length ≤ 1000000) : Ok (r79 (appA (k + 1)) c v B) fun r H' => Gr B H' ∧ r = !decide (∃ x ∈ l, x < -c ∨ c < x) := by
  unfold r79
  have gp := Gr.push B (.cells [.int .i64 c] false)
  have g0 : (B.push (.cells [.int .i64 c] false)).get B.n = some (.cells [.int .i64 c] false) := Hp.get_push_new _ _
  generalize B.push (.cells [.int .i64 c] false) = A at *
  refine Ok.lt ?_
  have hsay : Says (appA (k + 1)) (.fn 106 [] [.ptr B.n 0]) A argI (fun x => x < -c ∨ c < x) fun _ => True := fun H x g _ => by
    show Ok ((r106 x B.n H).map fun p => (AV.bool p.1, p.2)) _
    have h0 : H.get B.n = some (.cells [.int .i64 c] false) := by rw [g.2 _ (Hp.get_lt g0)]; exact g0
    have h1 : Ok (r106 x B.n H) fun r H' => H' = H ∧ r = decide (x < -c ∨ c < x) := by
      unfold r106
      refine Ok.ld (ldI_get h0 rfl) ?_
      rw [w64_id (by omega) (by omega)]
      refine Ok.ite (fun q => Ok.ret ⟨rfl, by symm; rw [decide_eq_true_iff]; omega⟩) fun q => Ok.ld (ldI_get h0 rfl) (Ok.ret ⟨rfl, decide_eq_decide.2 (by omega)⟩)
    obtain ⟨r, H', e, rfl, rfl⟩ := h1
    rw [e]
    exact Ok.ret ⟨.refl _, rfl⟩
  exact Ok.bind (r105_ok hsay (hv.gr gp) hb fun _ _ => trivial) fun r H' ⟨g, hr⟩ => Ok.ret ⟨gp.trans g, by rw [hr]⟩
theorem says93 (k : Nat) {B : Hp} {c : Nat} {d : Pr} (h0 : B.get c = some (.cells [.int .i64 d.1, .int .i64 d.2] false)) (hd : (-4 ≤ d.1 ∧ d.1 ≤ 4) ∧ -4 ≤ d.2 ∧ d.2 ≤ 4) : Says (appA (k + 1)) (.fn 93 [] [.ptr c 0]) B argS (fun t => 0 < t.1 * d.1 + t.2.1 * d.2) sideP := fun H x g hx => by
  show Ok ((r93 x.1 x.2.1 x.2.2 c H).map fun p => (AV.bool p.1, p.2)) _
  have h1 : Ok (r93 x.1 x.2.1 x.2.2 c H) fun r H' => Gr H H' ∧ r = decide (0 < x.1 * d.1 + x.2.1 * d.2) := by
    unfold r93
    have hc : H.get c = some (.cells [.int .i64 d.1, .int .i64 d.2] false) := by rw [g.2 _ (Hp.get_lt h0)]; exact h0
    have gp := Gr.push H (.cells [.int .i64 x.1, .int .i64 x.2.1, .int .i64 x.2.2] false)
    have g0 : (H.push (.cells [.int .i64 x.1, .int .i64 x.2.1, .int .i64 x.2.2] false)).get H.n = some (.cells [.int .i64 x.1, .int .i64 x.2.1, .int .i64 x.2.2] false) := Hp.get_push_new _ _
    have hc2 : (H.push (.cells [.int .i64 x.1, .int .i64 x.2.1, .int .i64 x.2.2] false)).get c = some (.cells [.int .i64 d.1, .int .i64 d.2] false) := by rw [gp.2 _ (Hp.get_lt hc)]; exact hc
    refine Ok.lt (Ok.ld (ldI_get g0 rfl) (Ok.ld (ldI_get hc2 rfl) (Ok.ld (ldI_get g0 rfl) (Ok.ld (ldI_get hc2 rfl) ?_))))
    unfold sideP at hx
    have b1 := mul_bd (A := 4) (B := 4) (x := x.1) (y := d.1) (by omega) (by omega) (by omega) (by omega)
    have b2 := mul_bd (A := 4) (B := 4) (x := x.2.1) (y := d.2) (by omega) (by omega) (by omega) (by omega)
    rw [w64_id (n := x.1 * d.1) (by omega) (by omega), w64_id (n := x.2.1 * d.2) (by omega) (by omega), w64_id (by omega) (by omega)]
    exact Ok.ret ⟨gp, rfl⟩
  obtain ⟨r, H', e, g2, rfl⟩ := h1
  rw [e]
  exact Ok.ret ⟨g2, rfl⟩
end Go.Lt.P2

namespace Go.Lt.P2
open Go Go.Lt Go.Proofs
/-- an App that knows what has calls -/
def A95 (a : App) : Prop := ∀ (s : Sd) (c : Nat) (H : Hp), callv a (.fn 95 [] [.ptr c 0]) [argS s] H = (r95 s.1 s.2.1 s.2.2 c H).map fun p => (.bool p.1, p.2)
theorem a95 (k : Nat) : A95 (app (k + 1)) := fun _ _ _ => rfl
theorem a95A (k : Nat) : A95 (appA (k + 1)) := fun _ _ _ => rfl
theorem says95 {a : App} (ha : A95 a) {B : Hp} {c : Nat} {p : Pq} (h0 : B.get c = some (.cells (pc4 p) false)) (hp : qp p) : Says a (.fn 95 [] [.ptr c 0]) B argS (fun t => ¬ lqs t p) sideP := fun H x g hx => by
  rw [ha]
  have h1 : Ok (r95 x.1 x.2.1 x.2.2 c H) fun r H' => Gr H H' ∧ r = decide (¬ lqs x p) := by
    have hc : H.get c = some (.cells (pc4 p) false) := by rw [g.2 _ (Hp.get_lt h0)]; exact h0
    unfold sideP at hx
    unfold r95
    refine Ok.box (.nil H) fun A gA cx => ?_
    have hc2 : A.get c = some (.cells (pc4 p) false) := by rw [gA.2 _ (Hp.get_lt hc)]; exact hc
    refine Ok.cld cx (.head _) rfl (Ok.cld cx (.head _) rfl (Ok.cld cx (.head _) rfl (Ok.ld (ldI_get hc2 rfl) (Ok.ld (ldI_get hc2 rfl) (Ok.ld (ldI_get hc2 rfl) (Ok.ld (ldI_get hc2 rfl) ?_))))))
    refine Ok.own (r70_q (by omega) (by omega) (by omega) hp) fun X => Ok.ret ⟨gA, ?_⟩
    dsimp only
    rw [decide_not]
  obtain ⟨r, H', e, g2, rfl⟩ := h1
  rw [e]
  exact Ok.ret ⟨g2, rfl⟩
/-- has -/
theorem r65_ok {a : App} (ha : A95 a) {H : Hp} {v : Sl} {l : List Sd} {p : Pq} (hv : SL H v l) (hb : l.length ≤ 1000) (hs : ∀ s ∈ l, sideP s) (hp : qp p) : Ok (r65 a v (fq p.1).1 (fq p.1).2 (fq p.2).1 (fq p.2).2 H) fun r H' => Gr H H' ∧ r = decide (inP l p) := by
  unfold r65
  refine Ok.box (.nil H) fun A gA c => ?_
  refine Ok.bind (r92_ok (says95 ha (p := p) (c.e _ (.head _)) hp) (hv.gr gA) (by omega) hs) fun r D ⟨gD, hr⟩ => Ok.ret ⟨gA.trans gD, ?_⟩
  rw [hr, ← decide_not]
  refine decide_eq_decide.2 ?_
  unfold inP
  constructor
  · intro h s hs'
    exact Classical.byContradiction fun q => h ⟨s, hs', q⟩
  · rintro h ⟨s, hs', q⟩
    exact q (h s hs')
end Go.Lt.P2

namespace Go.Lt.P2
open Go Go.Lt Go.Proofs
/-- what takes things one after the other: I holds while it goes on, St when it wants no more; P are blocks that it leaves alone -/
structure Yd {T : Type} (a : App) (yv : AV) (arg : T → List AV) (L : List T) (B : Hp) (I : (Nat → Prop) → List T → Hp → Prop) (St : List T → Hp → Prop) : Prop where
  grow : ∀ {P P' : Nat → Prop} {q : List T} {H H' : Hp}, I P q H → Gr H H' → (∀ b, P' b → P b ∨ (H.n ≤ b ∧ b < H'.n)) → I P' q H'
  base : ∀ {P : Nat → Prop} {q : List T} {H : Hp}, I P q H → Gr B H
  step : ∀ {P : Nat → Prop} {q : List T} {H : Hp} {x : T}, I P q H → q ++ [x] <+: L → Ok (callv a yv (arg x) H) fun r H' => H.n ≤ H'.n ∧ ((r = .bool true ∧ I P (q ++ [x]) H' ∧ ∀ b, b < H.n → P b → H'.get b = H.get b) ∨ (r = .bool false ∧ St (q ++ [x]) H'))
/-- corners, with the sides that meet there -/
abbrev Cn := Pq × Sd × Sd
def cn (l : List Sd) (s t : Sd) : Option Cn := if crI s t ≠ 0 ∧ inP l (meetq s t) then some (meetq s t, s, t) else none
def cno (l : List Sd) (i : Nat) : List Cn := (l.take i).filterMap (cn l (l[i]!))
def cs (l : List Sd) : List Cn := (List.range l.length).flatMap (cno l)
theorem range_succ_flatMap {α : Type} (f : Nat → List α) (n : Nat) : (List.range (n + 1)).flatMap f = (List.range n).flatMap f ++ f n := by
  rw [List.range_succ, List.flatMap_append, List.flatMap_singleton]
theorem cs_mem {l : List Sd} {c : Cn} (h : c ∈ cs l) : c.2.1 ∈ l ∧ c.2.2 ∈ l ∧ crI c.2.1 c.2.2 ≠ 0 ∧ c.1 = meetq c.2.1 c.2.2 ∧ inP l c.1 := by
  unfold cs at h
  obtain ⟨i, hi, h⟩ := List.mem_flatMap.1 h
  rw [List.mem_range] at hi
  unfold cno at h
  obtain ⟨t, ht, h⟩ := List.mem_filterMap.1 h
  unfold cn at h
  split at h
  · rename_i hc
    injection h with h
    subst h
    refine ⟨?_, List.mem_of_mem_take ht, hc.1, rfl, hc.2⟩
    dsimp only
    rw [getElem!_pos l i hi]
    exact List.getElem_mem hi
  · cases h
theorem mem_take_of {α : Type} {l : List α} {i j : Nat} (hj : j < l.length) (h : j < i) : l[j] ∈ l.take i :=
  List.mem_take_iff_getElem.2 ⟨j, by omega, rfl⟩
theorem mem_cs {l : List Sd} {s t : Sd} (hs : s ∈ l) (ht : t ∈ l) (h : crI s t ≠ 0) (hin : inP l (meetq s t)) : (meetq s t, s, t) ∈ cs l ∨ (meetq s t, t, s) ∈ cs l := by
  obtain ⟨i, hi, rfl⟩ := List.mem_iff_getElem.1 hs
  obtain ⟨j, hj, rfl⟩ := List.mem_iff_getElem.1 ht
  have key : ∀ {i j : Nat} (hi : i < l.length) (hj : j < l.length), j < i → crI l[i] l[j] ≠ 0 → inP l (meetq l[i] l[j]) → (meetq l[i] l[j], l[i], l[j]) ∈ cs l := fun {i j} hi hj hji hc hin => by
    unfold cs
    refine List.mem_flatMap.2 ⟨i, List.mem_range.2 hi, ?_⟩
    unfold cno
    refine List.mem_filterMap.2 ⟨l[j], mem_take_of hj hji, ?_⟩
    rw [getElem!_pos l i hi]
    unfold cn
    rw [if_pos ⟨hc, hin⟩]
  rcases Nat.lt_trichotomy j i with hji | hji | hji
  · exact .inl (key hi hj hji h hin)
  · subst hji
    exact absurd (by unfold crI; grind) h
  · right
    have := key hj hi hji (by rw [crI_sym]; omega) (by rw [meet_sym]; exact hin)
    rw [meet_sym] at this
    exact this
def argC (c : Cn) : List AV := [.agg [.int .i64 (fq c.1.1).1, .int .i64 (fq c.1.1).2, .int .i64 (fq c.1.2).1, .int .i64 (fq c.1.2).2, .int .i64 c.2.1.1, .int .i64 c.2.1.2.1, .int .i64 c.2.1.2.2, .int .i64 c.2.2.1, .int .i64 c.2.2.2.1, .int .i64 c.2.2.2.2]]
section
variable {a : App} {yv : AV} {B : Hp} {I : (Nat → Prop) → List Cn → Hp → Prop} {St : List Cn → Hp → Prop} {P : Nat → Prop} {v : Sl} {l : List Sd}
/-- one side with those before it -/
theorem r66_l1_ok (ha : A95 a) (Y : Yd a yv argC (cs l) B I St) (hv : SL B v l) (hb : l.length ≤ 1000) (hs : ∀ s ∈ l, sideP s) {i : Nat} (hi : i < l.length) {H : Hp} {c : Nat} {w : Sl} {ln : Int} {kt : Sl → AV → Sl → Int → Int → Hp → Option (Unit × Hp)} {q : List Cn} {Q : Unit → Hp → Prop}
    (hpq : q ++ cno l i <+: cs l) (hw : SL B w (l.take i)) (hI : I (fun b => P b ∨ b = c) q H) (hc : H.get c = some (.cells (sc l[i]) false)) (kS : ∀ q' H', q' <+: q ++ cno l i → St q' H' → Q () H') (kN : ∀ H', I P (q ++ cno l i) H' → Ok (kt v yv v ln ((i + 1 : Nat) : Int) H') Q) :
    Ok (r66_l1 a kt FUEL v yv c v ln i w i 0 H) Q := by
  have hlen := hw.len
  have hil : (l.take i).length = i := by rw [List.length_take]; omega
  refine Ok.loop (L := fun K (s : Int) H2 => r66_l1 a kt K v yv c v ln i w i s H2) (fun m s H' => I (fun b => P b ∨ b = c) (q ++ ((l.take i).take s.toNat).filterMap (cn l l[i])) H' ∧ H'.get c = some (.cells (sc l[i]) false) ∧ ∃ j : Nat, s = j ∧ j + m = i) ?_ FUEL i 0 H (by unfold FUEL; omega) ⟨by simpa using hI, hc, 0, rfl, by omega⟩
  rintro K m s H1 ⟨hI, hc, j, rfl, hm⟩ ih
  try dsimp only at *
  rw [r66_l1]
  rw [Int.toNat_natCast] at hI
  by_cases h : j < i
  · have hg := hw.gr (Y.base hI)
    have hj : j < (l.take i).length := by omega
    have et : (l.take i)[j] = l[j] := by rw [List.getElem_take]
    have hsl := hs _ (List.getElem_mem hi)
    have htl := hs _ (List.getElem_mem (show j < l.length by omega))
    have l0 := hg.ldI (i := j) (j := 0) (n := l[j].1) hj (by rw [et]; rfl)
    have l1 := hg.ldI (i := j) (j := 1) (n := l[j].2.1) hj (by rw [et]; rfl)
    have l2 := hg.ldI (i := j) (j := 2) (n := l[j].2.2) hj (by rw [et]; rfl)
    have cx : Cx H1 H1 [] := .nil H1
    refine Ok.pos (by omega) (Ok.ck (by omega) (Ok.ld l0 (Ok.ld l1 (Ok.ld l2 (Ok.alo cx fun D gD cx => ?_)))))
    have hcD : D.get c = some (.cells (sc l[i]) false) := by rw [cx.g.2 _ (Hp.get_lt hc)]; exact hc
    refine Ok.ld (ldI_get hcD rfl) (Ok.ld (ldI_get hcD rfl) (Ok.ld (ldI_get hcD rfl) (Ok.cld cx (.head _) rfl (Ok.cld cx (.head _) rfl (Ok.cld cx (.head _) rfl (Ok.own (r96_ok hsl htl) fun X => ?_))))))
    have eq1 : ((l.take i).take (j + 1)).filterMap (cn l l[i]) = ((l.take i).take j).filterMap (cn l l[i]) ++ (cn l l[i] l[j]).toList := by
      rw [List.take_succ_eq_append_getElem hj, List.filterMap_append, et]
      cases h : cn l l[i] l[j] <;> simp [h]
    -- no corner
    have skip : cn l l[i] l[j] = none → ∀ E, Gr H1 E → Ok (r66_j2 a (fun v1_ v2_ v3_ v4_ v5_ v6_ v7_ v8_ v9_ H_ => r66_l1 a kt K v1_ v2_ v3_ v4_ v5_ v6_ v7_ v8_ v9_ H_) v yv c v ln i w i j false E) Q := fun hno E gE => by
      unfold r66_j2
      refine Ok.neg (by simp) ?_
      rw [w64_succ (by omega)]
      refine ih (m - 1) _ E (by omega) ⟨?_, by rw [gE.2 _ (Hp.get_lt hc)]; exact hc, j + 1, rfl, by omega⟩
      rw [Int.toNat_natCast, eq1, hno]
      simpa using Y.grow hI gE fun b hb => .inl hb
    by_cases h0 : crI l[i] l[j] = 0
    · simp only [if_pos h0]
      refine Ok.alo cx fun E gE cx => Ok.neg (by simp) (skip ?_ E cx.g)
      unfold cn
      rw [if_neg (fun q => q.1 h0)]
    · simp only [if_neg h0]
      refine Ok.alo cx fun E gE cx => Ok.pos trivial ?_
      refine Ok.cld cx (.head _) rfl (Ok.cld cx (.head _) rfl (Ok.cld cx (.head _) rfl (Ok.cld cx (.head _) rfl ?_)))
      refine Ok.bind (r65_ok ha (p := meetq l[i] l[j]) (hv.gr ((Y.base hI).trans cx.g)) hb hs (meet_qp hsl htl h0)) fun r F ⟨gF, hr⟩ => ?_
      subst hr
      have cx := cx.gr gF
      by_cases hin : inP l (meetq l[i] l[j])
      · rw [decide_eq_true hin]
        have hcF : F.get c = some (.cells (sc l[i]) false) := by rw [cx.g.2 _ (Hp.get_lt hc)]; exact hc
        refine Ok.pos rfl ?_
        refine Ok.cld cx (.head _) rfl (Ok.cld cx (.head _) rfl (Ok.cld cx (.head _) rfl (Ok.cld cx (.head _) rfl (Ok.ld (ldI_get hcF rfl) (Ok.ld (ldI_get hcF rfl) (Ok.ld (ldI_get hcF rfl) (Ok.cld cx (.tail _ (.head _)) rfl (Ok.cld cx (.tail _ (.head _)) rfl (Ok.cld cx (.tail _ (.head _)) rfl ?_)))))))))
        have hcn : cn l l[i] l[j] = some (meetq l[i] l[j], l[i], l[j]) := by unfold cn; rw [if_pos ⟨h0, hin⟩]
        have hpx : (q ++ ((l.take i).take j).filterMap (cn l l[i])) ++ [(meetq l[i] l[j], l[i], l[j])] <+: q ++ cno l i := by
          rw [List.append_assoc]
          refine (List.prefix_append_right_inj q).2 ?_
          have : ((l.take i).take (j + 1)).filterMap (cn l l[i]) <+: (l.take i).filterMap (cn l l[i]) := by
            conv => rhs; rw [← List.take_append_drop (j + 1) (l.take i), List.filterMap_append]
            exact List.prefix_append _ _
          rw [eq1, hcn] at this
          unfold cno
          rw [getElem!_pos l i hi]
          exact this
        have hIF := Y.grow hI cx.g (P' := fun b => P b ∨ b = c) fun b hb => .inl hb
        refine Ok.bind (Y.step hIF (hpx.trans hpq)) fun r G ⟨nG, hG⟩ => ?_
        rw [hcn] at eq1
        rcases hG with ⟨rfl, hIG, kG⟩ | ⟨rfl, hSt⟩
        · refine Ok.ld rfl ?_
          unfold r66_j2
          refine Ok.neg (by simp) ?_
          rw [w64_succ (by omega)]
          refine ih (m - 1) _ G (by omega) ⟨?_, by rw [kG c (Hp.get_lt hcF) (.inr rfl)]; exact hcF, j + 1, rfl, by omega⟩
          rw [Int.toNat_natCast, eq1]
          rw [List.append_assoc] at hIG
          exact hIG
        · refine Ok.ld rfl ?_
          unfold r66_j2
          refine Ok.pos (by simp) (Ok.ret (kS _ _ ?_ hSt))
          exact hpx
      · rw [decide_eq_false hin]
        refine Ok.neg (by simp) (skip ?_ F cx.g)
        unfold cn
        rw [if_neg (fun q => hin q.2)]
  · refine Ok.neg (by omega) ?_
    rw [w64_succ (by omega)]
    refine kN _ ?_
    have : (l.take i).take j = l.take i := List.take_of_length_le (by omega)
    rw [this] at hI
    unfold cno
    rw [getElem!_pos l i hi]
    exact Y.grow hI (.refl _) fun b hb => .inl (.inl hb)
/-- corners -/
theorem r66_ok (ha : A95 a) (Y : Yd a yv argC (cs l) B I St) (hv : SL B v l) (hb : l.length ≤ 1000) (hs : ∀ s ∈ l, sideP s) {H : Hp} (hI : I P [] H) :
    Ok (r66 a v yv H) fun _ H' => I P (cs l) H' ∨ ∃ q, q <+: cs l ∧ St q H' := by
  unfold r66
  have hlen := hv.len
  rw [hlen]
  refine Ok.loop (L := fun K (s : Int) H2 => r66_l0 a K v yv v l.length s H2) (fun m s H' => ∃ i : Nat, s = i ∧ i + m = l.length ∧ I P ((List.range i).flatMap (cno l)) H') ?_ FUEL l.length 0 H (by unfold FUEL; omega) ⟨0, rfl, by omega, by simpa using hI⟩
  rintro K m s H1 ⟨i, rfl, hm, hI⟩ ih
  try dsimp only at *
  rw [r66_l0]
  by_cases h : i < l.length
  · have hg := hv.gr (Y.base hI)
    have cx : Cx H1 H1 [] := .nil H1
    have hcap := hv.cap
    have hopn := hv.opn
    have es : El.sz Sd = 3 := rfl
    rw [es] at hopn
    refine Ok.pos (by omega) (Ok.ck (by omega) (Ok.ld (hg.ldI (i := i) (j := 0) h rfl) (Ok.ld (hg.ldI (i := i) (j := 1) h rfl) (Ok.ld (hg.ldI (i := i) (j := 2) h rfl) (Ok.alo cx fun D gD cx => Ok.ck ⟨by omega, hopn⟩ ?_)))))
    have hcut := hv.cut (lo := 0) (hi := i) (by omega) (by omega)
    rw [List.drop_zero, Nat.sub_zero] at hcut
    have hil : (l.take i).length = i := by rw [List.length_take]; omega
    have hcl := hcut.len
    rw [hil] at hcl
    rw [Int.toNat_natCast]
    have e3 : (v.cut 3 (0 : Int).toNat i).len = i := hcl
    rw [e3]
    refine r66_l1_ok (P := P) (q := (List.range i).flatMap (cno l)) ha Y hv hb hs h ?_ hcut ?_ (cx.e _ (.head _)) (fun q' H' hp hS => .inr ⟨q', ?_, hS⟩) fun H' hI' => ?_
    · rw [← range_succ_flatMap]
      unfold cs
      have : l.length = (i + 1) + (l.length - (i + 1)) := by omega
      rw [this, List.range_add (n := i + 1), List.flatMap_append]
      exact List.prefix_append _ _
    · have hlt := cx.lt (.head _)
      exact Y.grow hI cx.g fun b hb' => hb'.elim .inl fun e => .inr (by dsimp only at hlt; omega)
    · refine hp.trans ?_
      rw [← range_succ_flatMap]
      unfold cs
      have : l.length = (i + 1) + (l.length - (i + 1)) := by omega
      rw [this, List.range_add (n := i + 1), List.flatMap_append]
      exact List.prefix_append _ _
    · refine ih (m - 1) _ H' (by omega) ⟨i + 1, rfl, by omega, ?_⟩
      rw [range_succ_flatMap]
      exact hI'
  · have : i = l.length := by omega
    subst this
    exact Ok.neg (by omega) (Ok.ret (.inl hI))
end
end Go.Lt.P2

namespace Go.Lt.P2
open Go Go.Lt Go.Proofs
/-! ### points in order -/
instance elPq : El Pq := ⟨4, pc4, fun _ => rfl, fun _ => rfl, by decide⟩
def ptlt (p q : Pq) : Prop := p.1 < q.1 ∨ (p.1 = q.1 ∧ p.2 < q.2)
instance (p q : Pq) : Decidable (ptlt p q) := by unfold ptlt; infer_instance
theorem ptlt_irr (p : Pq) : ¬ ptlt p p := by unfold ptlt; grind
theorem ptlt_trans {p q r : Pq} (h : ptlt p q) (k : ptlt q r) : ptlt p r := by unfold ptlt at *; grind
theorem ptlt_tri {p q : Pq} (h : ¬ ptlt p q) (k : p ≠ q) : ptlt q p := by
  unfold ptlt at *
  have : ¬ (p.1 = q.1 ∧ p.2 = q.2) := fun h => k (Prod.ext h.1 h.2)
  grind
def wth (p : Pq) : List Pq → List Pq
  | [] => [p]
  | q :: l => if ptlt q p then q :: wth p l else if q = p then q :: l else p :: q :: l
theorem mem_wth {p x : Pq} : ∀ {l : List Pq}, x ∈ wth p l ↔ x = p ∨ x ∈ l
  | [] => by simp [wth]
  | q :: l => by
    rw [wth]
    split
    · rw [List.mem_cons, mem_wth, List.mem_cons]; grind
    · split
      · rename_i h; subst h; simp only [List.mem_cons]; grind
      · simp only [List.mem_cons]
theorem wth_srt {p : Pq} : ∀ {l : List Pq}, l.Pairwise ptlt → (wth p l).Pairwise ptlt
  | [], _ => List.pairwise_singleton _ _
  | q :: l, h => by
    have h0 := h
    rw [List.pairwise_cons] at h
    rw [wth]
    split
    · rename_i h1
      refine List.pairwise_cons.2 ⟨fun x hx => ?_, wth_srt h.2⟩
      rcases mem_wth.1 hx with rfl | hx
      · exact h1
      · exact h.1 x hx
    · rename_i h1
      split
      · exact h0
      · rename_i h2
        have h3 := ptlt_tri h1 h2
        refine List.pairwise_cons.2 ⟨fun x hx => ?_, h0⟩
        rcases List.mem_cons.1 hx with rfl | hx
        · exact h3
        · exact ptlt_trans h3 (h.1 x hx)
theorem srt_uniq : ∀ {l l' : List Pq}, l.Pairwise ptlt → l'.Pairwise ptlt → (∀ x, x ∈ l ↔ x ∈ l') → l = l'
  | [], [], _, _, _ => rfl
  | [], y :: l', _, _, h => absurd ((h y).2 (.head _)) (by simp)
  | x :: l, [], _, _, h => absurd ((h x).1 (.head _)) (by simp)
  | x :: l, y :: l', h1, h2, h => by
    rw [List.pairwise_cons] at h1 h2
    have e : x = y := by
      rcases List.mem_cons.1 ((h x).1 (.head _)) with e | hx
      · exact e
      · rcases List.mem_cons.1 ((h y).2 (.head _)) with e | hy
        · exact e.symm
        · exact absurd (ptlt_trans (h1.1 y hy) (h2.1 x hx)) (ptlt_irr x)
    subst e
    congr 1
    refine srt_uniq h1.2 h2.2 fun z => ?_
    constructor <;> intro hz
    · rcases List.mem_cons.1 ((h z).1 (.tail _ hz)) with rfl | k
      · exact absurd (h1.1 z hz) (ptlt_irr z)
      · exact k
    · rcases List.mem_cons.1 ((h z).2 (.tail _ hz)) with rfl | k
      · exact absurd (h2.1 z hz) (ptlt_irr z)
      · exact k
end Go.Lt.P2

namespace Go.Lt.P2
open Go Go.Lt Go.Proofs
/-- Corners' rounds -/
structure ccI (B : Hp) (P : Nat → Prop) (q : List Cn) (w : Sl) (H : Hp) : Prop where
  g : Gr B H
  o : H.get B.n = some (.cells [.sl w] false)
  d : H.get (B.n + 1) = some .dfr
  l : H.get (B.n + 2) = some (.loop .ready none 1 21 [(4, .ptr B.n 0)])
  a : AccL (B.n + 3) H w (q.map (·.1))
  n : B.n + 3 ≤ H.n
  p : ∀ b, P b → b < H.n ∧ (b < B.n ∨ (B.n + 3 ≤ b ∧ (w.nil = false → b ≠ w.b)))
theorem low {T : Type} [El T] {n0 : Nat} {H : Hp} {w : Sl} {l : List T} (h : AccL n0 H w l) (hn : w.nil = false) : n0 ≤ w.b ∧ w.b < H.n := by
  rcases h with ⟨rfl, _⟩ | ⟨_, _, _, _, h5, h6, _⟩
  · simp [nilS] at hn
  · exact ⟨h5, Hp.get_lt h6⟩
theorem rnd1 {k : Nat} {B H : Hp} {P : Nat → Prop} {q : List Cn} {w : Sl} {x : Cn} (h : ccI B P q w H) (hb : q.length ≤ 1000000) :
    Ok (callv (app (k + 1)) (.yld (B.n + 2)) (argC x) H) fun r H' => H.n ≤ H'.n ∧ r = .bool true ∧ (∃ w', ccI B P (q ++ [x]) w' H') ∧ ∀ b, b < H.n → P b → H'.get b = H.get b := by
  show Ok (ydisp (app k) (B.n + 2) (argC x) H) _
  unfold ydisp
  rw [h.l]
  refine Ok.bind (P := fun r H' => r = none ∧ ∃ w', H.n ≤ H'.n ∧ Gr B H' ∧ H'.get B.n = some (.cells [.sl w'] false) ∧ H'.get (B.n + 1) = some .dfr ∧ H'.get (B.n + 2) = some (.loop .busy none 1 21 [(4, .ptr B.n 0)]) ∧ AccL (B.n + 3) H' w' ((q ++ [x]).map (·.1)) ∧ (∀ b, b < H.n → B.n + 3 ≤ b → (w.nil = false → b ≠ w.b) → H'.get b = H.get b) ∧ (w'.nil = false → (w.nil = false ∧ w'.b = w.b) ∨ H.n ≤ w'.b)) ?_ ?_
  · unfold r51q1
    have hn := h.n
    have c0 : Cx H H [] := .nil H
    refine Ok.alo c0 fun D gD cD => ?_
    have pD : D.get (B.n + 2) = some (.loop .ready none 1 21 [(4, .ptr B.n 0)]) := by rw [gD.2 _ (by omega)]; exact h.l
    have hbeg : D.lbegin (B.n + 2) = some (D.set (B.n + 2) (.loop .busy none 1 21 [(4, .ptr B.n 0)])) := by unfold Hp.lbegin; rw [pD]
    refine Ok.ld hbeg ?_
    have hx := cD.e _ (.head _)
    have nD := cD.lt (.head _)
    have gD1 := gD.1
    generalize hE : D.set (B.n + 2) (.loop .busy none 1 21 [(4, .ptr B.n 0)]) = E
    have oE : ∀ x, x ≠ B.n + 2 → E.get x = D.get x := fun x hx => by rw [← hE, Hp.get_set_other _ _ hx]
    have pE : E.get (B.n + 2) = some (.loop .busy none 1 21 [(4, .ptr B.n 0)]) := by rw [← hE, Hp.get_set_same _ _ (by omega)]
    have nE : E.n = D.n := by rw [← hE]; simp
    clear hE
    have sE : E.get B.n = some (.cells [.sl w] false) := by rw [oE _ (by omega), gD.2 _ (by omega)]; exact h.o
    have cE : E.get H.n = some (.cells [.int .i64 (fq x.1.1).1, .int .i64 (fq x.1.1).2, .int .i64 (fq x.1.2).1, .int .i64 (fq x.1.2).2, .int .i64 x.2.1.1, .int .i64 x.2.1.2.1, .int .i64 x.2.1.2.2, .int .i64 x.2.2.1, .int .i64 x.2.2.2.1, .int .i64 x.2.2.2.2] false) := by rw [oE _ (by omega)]; exact hx
    refine Ok.ld (ldSl_get sE rfl) (Ok.ld (ldI_get cE rfl) (Ok.ld (ldI_get cE rfl) (Ok.ld (ldI_get cE rfl) (Ok.ld (ldI_get cE rfl) ?_))))
    have aE : AccL (B.n + 3) E w (q.map (·.1)) := by
      refine Acc.keep (AccL.gr h.a gD) fun hn => ?_
      have := low h.a hn
      exact oE _ (by omega)
    have hlw := aE.len
    rw [List.length_map] at hlw
    obtain ⟨w', H', e1, a1, b1, c1, _, _, _⟩ := Acc.apN (k := 1) (xs := pc4 x.1) aE (by decide) rfl (by omega) (by omega)
    refine Ok.ld e1 ?_
    have kp : ∀ y, y < B.n + 3 → H'.get y = E.get y := fun y hy => b1.2 y (by omega) fun hn => by have := low h.a hn; omega
    have sF : H'.get B.n = some (.cells [.sl w] false) := by rw [kp _ (by omega)]; exact sE
    refine Ok.st sF (by simp) fun G eG hG => Ok.ret ⟨rfl, w', ?_, ⟨?_, fun b hb => ?_⟩, hG, ?_, ?_, ?_, fun b hb1 hb2 hb3 => ?_, fun hn' => ?_⟩
    · rw [eG]; have := b1.1; simp; omega
    · rw [eG]; have := b1.1; have := h.g.1; simp; omega
    · rw [eG, Hp.get_set_other _ _ (by omega), kp _ (by omega), oE _ (by omega), gD.2 _ (by omega)]; exact h.g.2 b hb
    · rw [eG, Hp.get_set_other _ _ (by omega), kp _ (by omega), oE _ (by omega), gD.2 _ (by omega)]; exact h.d
    · rw [eG, Hp.get_set_other _ _ (by omega), kp _ (by omega)]; exact pE
    · rw [List.map_append]
      unfold AccL
      rw [encs_append, show encs (List.map (·.1) [x]) = pc4 x.1 from encs_one _]
      refine Acc.keep a1 fun hn => ?_
      rw [eG, Hp.get_set_other]
      have : B.n + 3 ≤ w'.b := by
        rcases a1 with ⟨rfl, _⟩ | ⟨_, _, _, _, h5, _⟩
        · simp [nilS] at hn
        · exact h5
      omega
    · rw [eG, Hp.get_set_other _ _ (by omega), b1.2 b (by omega) hb3, oE _ (by omega), gD.2 _ hb1]
    · rcases c1 with rfl | c1
      · exact .inl ⟨hn', rfl⟩
      · exact .inr (by omega)
  · rintro r H' ⟨rfl, w', n1, h1, h2, h3, h4, h5, h6, h7⟩
    have hnx : H'.lnext (B.n + 2) 1 none = some (H'.set (B.n + 2) (.loop .ready none 1 21 [(4, .ptr B.n 0)])) := by
      unfold Hp.lnext; rw [h4]; simp
    dsimp only
    rw [hnx]
    have hl4 := Hp.get_lt h4
    have hn3 := h.n
    refine Ok.ret ⟨by simpa using n1, rfl, ⟨w', ⟨⟨by have := h1.1; simpa using this, fun b hb => ?_⟩, ?_, ?_, ?_, ?_, by simp; omega, fun b hb => ?_⟩⟩, fun b hb hP => ?_⟩
    · rw [Hp.get_set_other _ _ (by omega)]; exact h1.2 b hb
    · rw [Hp.get_set_other _ _ (by omega)]; exact h2
    · rw [Hp.get_set_other _ _ (by omega)]; exact h3
    · rw [Hp.get_set_same _ _ hl4]
    · refine Acc.keep h5 fun hn => ?_
      have := low h5 hn
      rw [Hp.get_set_other _ _ (by omega)]
    · have hp := h.p b hb
      refine ⟨by simp; omega, ?_⟩
      rcases hp.2 with k1 | ⟨k1, k2⟩
      · exact .inl k1
      · refine .inr ⟨k1, fun hn' => ?_⟩
        rcases h7 hn' with ⟨a, b'⟩ | a
        · rw [b']; exact k2 a
        · omega
    · have hp := h.p b hP
      rw [Hp.get_set_other _ _ (by omega)]
      rcases hp.2 with k1 | ⟨k1, k2⟩
      · rw [h1.2 b k1, h.g.2 b k1]
      · exact h6 b hb k1 k2
theorem ccY {k : Nat} {l : List Sd} (hl : (cs l).length ≤ 1000000) (B : Hp) : Yd (app (k + 1)) (.yld (B.n + 2)) argC (cs l) B (fun P q H => ∃ w, ccI B P q w H) (fun _ _ => False) where
  grow := fun {P P' q H H'} h g hP => by
    obtain ⟨w, h⟩ := h
    have hn := h.n
    refine ⟨w, h.g.trans g, by rw [g.2 _ (by omega)]; exact h.o, by rw [g.2 _ (by omega)]; exact h.d, by rw [g.2 _ (by omega)]; exact h.l, h.a.gr g, Nat.le_trans h.n g.1, fun b hb => ?_⟩
    rcases hP b hb with h1 | h1
    · have := h.p b h1
      exact ⟨Nat.lt_of_lt_of_le this.1 g.1, this.2⟩
    · refine ⟨h1.2, .inr ⟨by omega, fun hn => ?_⟩⟩
      have := low h.a hn
      omega
  base := fun ⟨_, h⟩ => h.g
  step := fun {P q H x} ⟨w, h⟩ hx => by
    have hq := hx.length_le
    rw [List.length_append] at hq
    refine Ok.mono (rnd1 (k := k) (x := x) h (by simp at hq; omega)) fun r H' ⟨h1, h2, h3, h4⟩ => ⟨h1, .inl ⟨h2, h3, h4⟩⟩
end Go.Lt.P2

namespace Go.Lt.P2
open Go Go.Lt Go.Proofs
def ltP (p q : Pq) : Bool := decide (ptlt p q)
def cmpQ (p q : Pq) : Int := if cmpq p.1 q.1 ≠ 0 then cmpq p.1 q.1 else cmpq p.2 q.2
theorem cmpQ_lt (p q : Pq) : cmpQ p q < 0 ↔ ltP p q = true := by
  unfold ltP
  rw [decide_eq_true_iff]
  unfold cmpQ cmpq ptlt
  by_cases a : p.1 < q.1
  · rw [if_pos a, if_pos (by decide)]; simp [a]
  · rw [if_neg a]
    by_cases b : q.1 < p.1
    · rw [if_pos b, if_pos (by decide)]
      constructor
      · intro h; exact absurd h (by decide)
      · rintro (h | h)
        · exact absurd h a
        · grind
    · rw [if_neg b, if_neg (by decide)]
      have e : p.1 = q.1 := by grind
      by_cases c : p.2 < q.2
      · rw [if_pos c]; simp [e, c]
      · rw [if_neg c]
        constructor
        · intro h
          split at h <;> exact absurd h (by decide)
        · rintro (h | h)
          · exact absurd h a
          · exact absurd h.2 c
def CmpSays (a : App) (fv : AV) : Prop := ∀ H (p q : Pq), qp p → qp q → Ok (callv a fv [.agg (pc4 p), .agg (pc4 q)] H) fun r H' => Gr H H' ∧ r = .int .i64 (cmpQ p q)
def at' (q : List Pq) (t : Nat) : Pq := q.getD t (0, 0)
theorem at_eq {q : List Pq} {t : Nat} (h : t < q.length) : q[t] = at' q t := by
  unfold at'
  rw [List.getD_eq_getElem?_getD, List.getElem?_eq_getElem h]; rfl
theorem at_set {q : List Pq} {j : Nat} (h : j < q.length) (x : Pq) (t : Nat) : at' (q.set j x) t = if t = j then x else at' q t := by
  unfold at'
  rw [List.getD_eq_getElem?_getD, List.getD_eq_getElem?_getD, List.getElem?_set]
  by_cases e : j = t
  · subst e; simp [h]
  · rw [if_neg e, if_neg (fun c => e c.symm)]
theorem ltP_asym {p q : Pq} (h : ltP p q = true) : ltP q p = false := by
  simp only [ltP, decide_eq_true_eq, decide_eq_false_iff_not] at *
  unfold ptlt at *
  grind
theorem ltP_ntr {p q r : Pq} (h : ltP q p = false) (k : ltP r q = false) : ltP r p = false := by
  simp only [ltP, decide_eq_false_iff_not] at *
  unfold ptlt at *
  grind
def so (q : List Pq) : Prop := ∀ t t', t < t' → t' < q.length → ltP (at' q t') (at' q t) = false
def sb (q : List Pq) (i j : Nat) : Prop := ∀ t t', t < t' → t' ≤ i → t' ≠ j → ltP (at' q t') (at' q t) = false
theorem sb_swap {q : List Pq} {i j : Nat} (hi : i < q.length) (hj : j + 1 ≤ i) (h : sb q i (j + 1)) (hl : ltP (at' q (j + 1)) (at' q j) = true) : sb ((q.set (j + 1) (at' q j)).set j (at' q (j + 1))) i j := by
  have e : ∀ t, at' ((q.set (j + 1) (at' q j)).set j (at' q (j + 1))) t = if t = j then at' q (j + 1) else if t = j + 1 then at' q j else at' q t := fun t => by
    rw [at_set (by simp; omega), at_set (by omega)]
  intro t t' h1 h2 h3
  rw [e, e, if_neg h3]
  by_cases c1 : t' = j + 1
  · subst c1
    rw [if_pos rfl]
    by_cases c2 : t = j
    · subst c2; rw [if_pos rfl]; exact ltP_asym hl
    · rw [if_neg c2, if_neg (by omega)]
      exact h t j (by omega) (by omega) (by omega)
  · rw [if_neg c1]
    by_cases c2 : t = j
    · subst c2; rw [if_pos rfl]; exact h (t + 1) t' (by omega) h2 c1
    · rw [if_neg c2]
      by_cases c3 : t = j + 1
      · subst c3; rw [if_pos rfl]; exact h j t' (by omega) h2 c1
      · rw [if_neg c3]; exact h t t' h1 h2 c1
theorem sb_stop {q : List Pq} {i j : Nat} (hj : j ≤ i) (h : sb q i j) (hs : 0 < j → ltP (at' q j) (at' q (j - 1)) = false) : ∀ t t', t < t' → t' ≤ i → ltP (at' q t') (at' q t) = false := by
  intro t t' h1 h2
  by_cases e : t' = j
  · subst e
    have := hs (by omega)
    by_cases e2 : t = t' - 1
    · subst e2; exact this
    · exact ltP_ntr (h t (t' - 1) (by omega) (by omega) (by omega)) this
  · exact h t t' h1 h2 e
section
variable {a : App} {fv : AV} {v : Sl} {Q : Unit → Hp → Prop}
theorem r114_l1_ok (hc : CmpSays a fv) {kt : Sl → Int → Int → AV → Int → Hp → Option (Unit × Hp)} {q : List Pq} (hqp : ∀ x ∈ q, qp x) (hb : q.length ≤ 1000000) {i : Nat} {n : Int} {H : Hp} (ho : Own H v q) (hi : i < q.length) (hs : sb q i i)
    (k : ∀ q' H', Own H' v q' → Only v.b H H' → q'.Perm q → (∀ t t', t < t' → t' ≤ i → ltP (at' q' t') (at' q' t) = false) → Ok (kt v 0 n fv ((i + 1 : Nat) : Int) H') Q) :
    Ok (r114_l1 a kt FUEL v 0 n fv i i H) Q := by
  refine Ok.loop (L := fun K (s : Int) H' => r114_l1 a kt K v 0 n fv i s H') (fun m s H' => ∃ j : Nat, s = j ∧ j ≤ i ∧ m = j ∧ ∃ q', Own H' v q' ∧ Only v.b H H' ∧ q'.Perm q ∧ sb q' i j) ?_ FUEL i i H (by unfold FUEL; omega) ⟨i, rfl, Nat.le_refl _, rfl, q, ho, .refl _ _, .refl _, hs⟩
  rintro K m s H1 ⟨j, rfl, hj, rfl, q', h1, g1, hp, hsb⟩ ih
  try dsimp only at *
  have hql := hp.length_eq
  have hvl := h1.len
  rw [r114_l1]
  have stop : (0 < m → ltP (at' q' m) (at' q' (m - 1)) = false) → ∀ kt1 H2, Own H2 v q' → Only v.b H H2 → Ok (r114_j2 a kt kt1 v 0 n fv i m false H2) Q := by
    intro h kt1 H2 o2 g2
    unfold r114_j2
    refine Ok.neg (by simp) ?_
    rw [w64_succ (by omega)]
    exact k q' H2 o2 g2 hp (sb_stop hj hsb h)
  by_cases h : 0 < m
  · obtain ⟨j, rfl⟩ : ∃ j, m = j + 1 := ⟨m - 1, by omega⟩
    have ej : w64 (((j + 1 : Nat) : Int) - 1) = (j : Int) := by rw [w64_id (by omega) (by omega)]; omega
    rw [ej]
    have hg := h1.sl
    refine Ok.pos (by omega) (Ok.ck (by omega) (Ok.ld (hg.ldI (i := j + 1) (j := 0) (by omega) rfl) (Ok.ld (hg.ldI (i := j + 1) (j := 1) (by omega) rfl) (Ok.ld (hg.ldI (i := j + 1) (j := 2) (by omega) rfl) (Ok.ld (hg.ldI (i := j + 1) (j := 3) (by omega) rfl) (Ok.ck (by omega) (Ok.ld (hg.ldI (i := j) (j := 0) (by omega) rfl) (Ok.ld (hg.ldI (i := j) (j := 1) (by omega) rfl) (Ok.ld (hg.ldI (i := j) (j := 2) (by omega) rfl) (Ok.ld (hg.ldI (i := j) (j := 3) (by omega) rfl) ?_))))))))))
    refine Ok.bind (hc H1 q'[j + 1] q'[j] (hqp _ (hp.mem_iff.1 (List.getElem_mem _))) (hqp _ (hp.mem_iff.1 (List.getElem_mem _)))) fun r H2 ⟨g2, hr⟩ => ?_
    subst hr
    refine Ok.ld rfl ?_
    have o2 := h1.gr g2
    have gg := g1.trans (Gr.only (b := v.b) g2)
    by_cases hl : cmpQ q'[j + 1] q'[j] < 0
    · rw [decide_eq_true hl]
      unfold r114_j2
      rw [ej]
      have hg2 := o2.sl
      refine Ok.pos rfl (Ok.ck (by omega) (Ok.ld (hg2.ldI (i := j) (j := 0) (by omega) rfl) (Ok.ld (hg2.ldI (i := j) (j := 1) (by omega) rfl) (Ok.ld (hg2.ldI (i := j) (j := 2) (by omega) rfl) (Ok.ld (hg2.ldI (i := j) (j := 3) (by omega) rfl) (Ok.ck (by omega) (Ok.ld (hg2.ldI (i := j + 1) (j := 0) (by omega) rfl) (Ok.ld (hg2.ldI (i := j + 1) (j := 1) (by omega) rfl) (Ok.ld (hg2.ldI (i := j + 1) (j := 2) (by omega) rfl) (Ok.ld (hg2.ldI (i := j + 1) (j := 3) (by omega) rfl) (Ok.ck (by omega) ?_)))))))))))
      refine o2.put (j := j + 1) (by omega) q'[j] rfl rfl fun H3 o3 g3 n3 => Ok.ck (by omega) (o3.put (j := j) (by simp; omega) q'[j + 1] rfl rfl fun H4 o4 g4 n4 => ?_)
      dsimp only
      refine ih j _ H4 (by omega) ⟨j, rfl, by omega, rfl, _, o4, gg.trans (g3.trans g4), (swap_perm (by omega)).trans hp, ?_⟩
      rw [at_eq (show j < q'.length by omega), at_eq (show j + 1 < q'.length by omega)]
      refine sb_swap (by omega) (by omega) hsb ?_
      rw [← at_eq (show j < q'.length by omega), ← at_eq (show j + 1 < q'.length by omega)]
      exact (cmpQ_lt _ _).1 hl
    · rw [decide_eq_false hl]
      refine stop (fun _ => ?_) _ H2 o2 gg
      rw [Nat.add_sub_cancel, ← at_eq (show j < q'.length by omega), ← at_eq (show j + 1 < q'.length by omega)]
      cases hb2 : ltP q'[j + 1] q'[j] with
      | false => rfl
      | true => exact absurd ((cmpQ_lt _ _).2 hb2) hl
  · exact Ok.neg (by omega) (stop (fun h' => absurd h' h) _ H1 h1 g1)
/-- slices.insertionSortCmpFunc -/
theorem r114_ok (hc : CmpSays a fv) {q : List Pq} (hqp : ∀ x ∈ q, qp x) (hb : q.length ≤ 1000000) {H : Hp} (ho : Own H v q) :
    Ok (r114 a v 0 q.length fv H) fun _ H' => ∃ q', Own H' v q' ∧ Only v.b H H' ∧ q'.Perm q ∧ so q' := by
  unfold r114
  rw [show w64 (0 + 1) = ((1 : Nat) : Int) by decide]
  refine Ok.loop (L := fun K (s : Int) H' => r114_l0 a K v 0 q.length fv s H') (fun m s H' => ∃ i : Nat, s = i ∧ 1 ≤ i ∧ q.length ≤ i + m ∧ ∃ q', Own H' v q' ∧ Only v.b H H' ∧ q'.Perm q ∧ ∀ t t', t < t' → t' < i → ltP (at' q' t') (at' q' t) = false) ?_ FUEL q.length _ H (by unfold FUEL; omega) ⟨1, rfl, Nat.le_refl _, by omega, q, ho, .refl _ _, .refl _, fun t t' h1 h2 => by omega⟩
  rintro K m s H1 ⟨i, rfl, hi1, hm, q', h1, g1, hp, hs⟩ ih
  try dsimp only at *
  have hql := hp.length_eq
  rw [r114_l0]
  by_cases h : i < q.length
  · refine Ok.pos (by omega) (r114_l1_ok hc (fun x hx => hqp x (hp.mem_iff.1 hx)) (by omega) h1 (by omega) (fun t t' a1 a2 a3 => hs t t' a1 (by omega)) fun q2 H2 o2 g2 p2 s2 => ?_)
    exact ih (m - 1) _ H2 (by omega) ⟨i + 1, rfl, by omega, by omega, q2, o2, g1.trans g2, p2.trans hp, fun t t' a1 a2 => s2 t t' a1 (by omega)⟩
  · exact Ok.neg (by omega) (Ok.ret ⟨q', h1, g1, hp, fun t t' a1 a2 => hs t t' a1 (by omega)⟩)
end
end Go.Lt.P2

namespace Go.Lt.P2
open Go Go.Lt Go.Proofs
theorem pc_beq2 {q p : Pq} : ((((fq q.1).1 == (fq p.1).1) && ((fq q.1).2 == (fq p.1).2)) && (((fq q.2).1 == (fq p.2).1) && ((fq q.2).2 == (fq p.2).2))) = decide (q = p) := by
  have e : ∀ {p q : Rat}, (((fq p).1 == (fq q).1) && ((fq p).2 == (fq q).2)) = decide (p = q) := fun {p q} => by
    refine Bool.eq_iff_iff.2 ?_
    simp only [Bool.and_eq_true, beq_iff_eq, decide_eq_true_iff]
    exact ⟨fun h => fq_inj (Prod.ext h.1 h.2), fun h => by rw [h]; exact ⟨rfl, rfl⟩⟩
  rw [e, e]
  refine Bool.eq_iff_iff.2 ?_
  simp only [Bool.and_eq_true, decide_eq_true_iff]
  exact ⟨fun h => Prod.ext h.1 h.2, fun h => by rw [h]; exact ⟨rfl, rfl⟩⟩
/-- a list without doubles, that says as much as the beginning of a sorted one -/
structure Dd (q : List Pq) (t : Nat) (r : List Pq) : Prop where
  srt : r.Pairwise ptlt
  mem : ∀ x, x ∈ r ↔ x ∈ q.take t
  top : ∀ x ∈ r, ∀ h : t - 1 < q.length, x = q[t - 1] ∨ ptlt x q[t - 1]
theorem Dd.same {q r : List Pq} {t : Nat} (h : Dd q t r) (h1 : 1 ≤ t) (ht : t < q.length) (e : q[t] = q[t - 1]) : Dd q (t + 1) r := by
  refine ⟨h.srt, fun x => ?_, fun x hx _ => ?_⟩
  · rw [h.mem, List.take_succ_eq_append_getElem ht, List.mem_append, List.mem_singleton]
    constructor
    · exact .inl
    · rintro (k | rfl)
      · exact k
      · rw [e]; exact List.mem_take_iff_getElem.2 ⟨t - 1, by omega, rfl⟩
  · have := h.top x hx (by omega)
    rw [← e] at this
    exact this
theorem Dd.push {q r : List Pq} {t : Nat} (h : Dd q t r) (hs : so q) (h1 : 1 ≤ t) (ht : t < q.length) (e : q[t] ≠ q[t - 1]) : Dd q (t + 1) (r ++ [q[t]]) := by
  have h2 := hs (t - 1) t (by omega) ht
  rw [← at_eq ht, ← at_eq (show t - 1 < q.length by omega)] at h2
  have h3 : ¬ ptlt q[t] q[t - 1] := of_decide_eq_false h2
  have h4 : ptlt q[t - 1] q[t] := ptlt_tri h3 e
  refine ⟨?_, fun x => ?_, fun x hx _ => ?_⟩
  · rw [List.pairwise_append]
    refine ⟨h.srt, List.pairwise_singleton _ _, fun x hx y hy => ?_⟩
    rw [List.mem_singleton] at hy
    subst hy
    rcases h.top x hx (by omega) with rfl | k
    · exact h4
    · exact ptlt_trans k h4
  · rw [List.mem_append, h.mem, List.take_succ_eq_append_getElem ht, List.mem_append]
  · rcases List.mem_append.1 hx with hx | hx
    · right
      show ptlt x q[t]
      rcases h.top x hx (by omega) with rfl | k
      · exact h4
      · exact ptlt_trans k h4
    · rw [List.mem_singleton] at hx
      exact .inl hx
/-- Compact -/
theorem r90_ok {H : Hp} {v : Sl} {q : List Pq} (ho : Own H v q) (hb : q.length ≤ 1000) (hs : so q) : Ok (r90 v H) fun w H' => (Only v.b H H' ∧ w.b = v.b) ∧ ∃ r, SL H' w r ∧ r.Pairwise ptlt ∧ ∀ x, x ∈ r ↔ x ∈ q := by
  unfold r90
  have hlen := ho.len
  refine Ok.ite (fun h2 => Ok.ret ⟨⟨.refl _ _, rfl⟩, q, ho.sl, ?_, fun _ => Iff.rfl⟩) fun h2 => ?_
  · match q, hlen, h2 with
    | [], _, _ => exact .nil
    | [x], _, _ => exact List.pairwise_singleton _ _
    | x :: y :: r, hlen, h2 => simp only [List.length_cons] at hlen; omega
  refine Ok.loop (L := fun K (s : Int) H2 => r90_l0 K v s H2) (fun m s H' => H' = H ∧ ∃ k : Nat, s = k ∧ 1 ≤ k ∧ k + m = q.length ∧ Dd q k (q.take k)) ?_ FUEL (q.length - 1) 1 H (by unfold FUEL; omega) ⟨rfl, 1, rfl, by omega, by omega, ⟨?_, fun _ => Iff.rfl, fun x hx _ => ?_⟩⟩
  rotate_left
  · match q, hlen with
    | x :: r, _ => exact List.pairwise_singleton _ _
    | [], _ => exact .nil
  · match q, hx with
    | y :: r, hx => left; simpa using hx
  rintro K m s H1 ⟨rfl, k, rfl, hk1, hm, hd⟩ ih
  try dsimp only at *
  rw [r90_l0]
  by_cases h : k < q.length
  case neg =>
    rw [List.take_of_length_le (by omega)] at hd
    exact Ok.neg (by omega) (Ok.ret ⟨⟨.refl _ _, rfl⟩, q, ho.sl, hd.srt, fun _ => Iff.rfl⟩)
  have hg := ho.sl
  have hj : k - 1 < q.length := by omega
  have ej : w64 ((k : Int) - 1) = ((k - 1 : Nat) : Int) := by rw [w64_id (by omega) (by omega)]; omega
  rw [ej]
  refine Ok.pos (by omega) (Ok.ck (by omega) (Ok.ld (hg.ldI (i := k) (j := 0) h rfl) (Ok.ld (hg.ldI (i := k) (j := 1) h rfl) (Ok.ld (hg.ldI (i := k) (j := 2) h rfl) (Ok.ld (hg.ldI (i := k) (j := 3) h rfl) (Ok.ck (by omega) (Ok.ld (hg.ldI (i := k - 1) (j := 0) hj rfl) (Ok.ld (hg.ldI (i := k - 1) (j := 1) hj rfl) (Ok.ld (hg.ldI (i := k - 1) (j := 2) hj rfl) (Ok.ld (hg.ldI (i := k - 1) (j := 3) hj rfl) ?_))))))))))
  rw [pc_beq2]
  by_cases he : q[k] = q[k - 1]
  case neg =>
    rw [decide_eq_false he, w64_succ (by omega)]
    refine Ok.neg (by simp) (ih (m - 1) _ _ (by omega) ⟨rfl, k + 1, rfl, by omega, by omega, ?_⟩)
    have := hd.push hs hk1 h he
    rw [← List.take_succ_eq_append_getElem h] at this
    exact this
  rw [decide_eq_true he]
  have hcap := ho.cap
  have hopn := ho.opn
  have es : El.sz Pq = 4 := rfl
  rw [es] at hopn
  refine Ok.pos rfl (Ok.ck ⟨by omega, hopn⟩ ?_)
  rw [Int.toNat_natCast, hlen, Int.toNat_natCast]
  have hnn := ho.nn
  have hoo := ho.o
  have ec : v.cut 4 k q.length = ⟨false, v.b, v.o + k * 4, q.length - k, v.cap - k, v.opn⟩ := by unfold Sl.cut; rw [if_neg (by simp [hnn])]
  rw [ec]
  clear ih
  refine Ok.loop (L := fun K (s : Int × Int) H2 => r90_l1 K v s.1 ⟨false, v.b, v.o + k * 4, q.length - k, v.cap - k, v.opn⟩ s.2 H2) (fun m s H' => ∃ (i t : Nat) (q' r : List Pq), s.1 = i ∧ s.2 = t ∧ 1 ≤ t ∧ k + t + m = q.length ∧ i + 1 ≤ k + t ∧ Own H' v q' ∧ Only v.b H1 H' ∧ q'.length = q.length ∧ q'.take i = r ∧ r.length = i ∧ Dd q (k + t) r ∧ ∀ j, k + t ≤ j + 1 → q'[j]? = q[j]?) ?_ FUEL (q.length - (k + 1)) (((k : Nat) : Int), 1) H1 (by unfold FUEL; omega) ⟨k, 1, q, q.take k, rfl, rfl, by omega, by omega, by omega, ho, .refl _ _, rfl, rfl, by rw [List.length_take]; omega, hd.same hk1 h he, fun _ _ => rfl⟩
  rintro K' m' ⟨s1, s2⟩ H2 ⟨i, t, q', r, rfl, rfl, ht1, hmt, hit, o2, on2, hql, hr, hri, hd2, hq'⟩ ih
  try dsimp only at *
  rw [r90_l1]
  have o2l := o2.len
  by_cases h3 : k + t < q.length
  · have hg2 := o2.sl
    have et : w64 ((t : Int) - 1) = ((t - 1 : Nat) : Int) := by rw [w64_id (by omega) (by omega)]; omega
    have a1 : k + t < q'.length := by omega
    have a2 : k + (t - 1) < q'.length := by omega
    have e1 : q'[k + t] = q[k + t] := by
      have := hq' (k + t) (by omega)
      rw [List.getElem?_eq_getElem a1, List.getElem?_eq_getElem h3] at this
      exact Option.some.inj this
    have e2 : q'[k + (t - 1)] = q[k + (t - 1)]'(by omega) := by
      have := hq' (k + (t - 1)) (by omega)
      rw [List.getElem?_eq_getElem a2, List.getElem?_eq_getElem (by omega)] at this
      exact Option.some.inj this
    have p1 : ∀ n : Nat, v.o + k * 4 + n * 4 = v.o + (k + n) * 4 := fun n => by rw [Nat.add_mul]; omega
    rw [et]
    simp only [Int.toNat_natCast, p1]
    refine Ok.pos (by omega) (Ok.ck (by omega) (Ok.ld (hg2.ldI (i := k + t) (j := 0) a1 rfl) (Ok.ld (hg2.ldI (i := k + t) (j := 1) a1 rfl) (Ok.ld (hg2.ldI (i := k + t) (j := 2) a1 rfl) (Ok.ld (hg2.ldI (i := k + t) (j := 3) a1 rfl) (Ok.ck (by omega) (Ok.ld (hg2.ldI (i := k + (t - 1)) (j := 0) a2 rfl) (Ok.ld (hg2.ldI (i := k + (t - 1)) (j := 1) a2 rfl) (Ok.ld (hg2.ldI (i := k + (t - 1)) (j := 2) a2 rfl) (Ok.ld (hg2.ldI (i := k + (t - 1)) (j := 3) a2 rfl) ?_))))))))))
    rw [pc_beq2, w64_succ (by omega)]
    have ek : k + (t - 1) = k + t - 1 := by omega
    have e2' : q'[k + (t - 1)] = q[k + t - 1] := by rw [e2]; congr 1
    by_cases h4 : q'[k + t] = q'[k + (t - 1)]
    · rw [decide_eq_true h4]
      refine Ok.pos rfl (ih (m' - 1) (_, _) H2 (by omega) ⟨i, t + 1, q', r, rfl, by simp, by omega, by omega, by omega, o2, on2, hql, hr, hri, ?_, fun j hj => hq' j (by omega)⟩)
      exact hd2.same (by omega) h3 (by rw [← e1, h4, e2'])
    · rw [decide_eq_false h4]
      have hiq : i < q'.length := by omega
      refine Ok.neg (by simp) (Ok.ck (by omega) (Ok.ld (hg2.ldI (i := k + t) (j := 0) a1 rfl) (Ok.ld (hg2.ldI (i := k + t) (j := 1) a1 rfl) (Ok.ld (hg2.ldI (i := k + t) (j := 2) a1 rfl) (Ok.ld (hg2.ldI (i := k + t) (j := 3) a1 rfl) (Ok.ck (by omega) ?_))))))
      refine Own.put o2 hiq q'[k + t] rfl rfl fun H3 o3 on3 n3 => ?_
      rw [w64_succ (by omega)]
      have hd3 := hd2.push hs (by omega) h3 (by rw [← e1, ← e2']; exact h4)
      refine ih (m' - 1) (_, _) H3 (by omega) ⟨i + 1, t + 1, _, _, by simp, by simp, by omega, by omega, by omega, o3, on2.trans on3, by rw [List.length_set]; exact hql, ?_, by rw [List.length_append, hri]; rfl, hd3, fun j hj => ?_⟩
      · rw [List.take_succ_eq_append_getElem (by rw [List.length_set]; exact hiq), List.take_set_of_le (Nat.le_refl _), hr, List.getElem_set_self, e1]
      · rw [List.getElem?_set_ne (by omega)]
        exact hq' j (by omega)
  · have hiq : i ≤ q'.length := by omega
    have e0 : k + t = q.length := by omega
    rw [e0] at hd2
    have hmem : ∀ x, x ∈ r ↔ x ∈ q := fun x => by rw [hd2.mem, List.take_of_length_le (Nat.le_refl _)]
    have ec2 : v.cut 4 i q.length = ⟨false, v.b, v.o + i * 4, q.length - i, v.cap - i, v.opn⟩ := by unfold Sl.cut; rw [if_neg (by simp [hnn])]
    have ec3 : v.cut 4 0 i = ⟨false, v.b, v.o, i, v.cap, v.opn⟩ := by unfold Sl.cut; rw [if_neg (by simp [hnn])]; simp
    rw [hlen] at hcap ⊢
    simp only [Int.toNat_natCast]
    rw [ec2, show (0 : Int).toNat = 0 from rfl, ec3]
    dsimp only
    have hel : (encs q').length = q.length * 4 := by rw [encs_len, es, hql]
    obtain ⟨H3, k1, k2, k3, k4⟩ := sts_blk (zerosA [.int .i64 0, .int .i64 0, .int .i64 0, .int .i64 0] ((q.length - i) * 4)) (v.o + i * 4) H2 _ o2.get (by rw [zerosA_len, hel, hoo, Nat.sub_mul]; omega)
    refine Ok.neg (by omega) (Ok.ck ⟨by omega, hopn⟩ (Ok.ld k1 (Ok.ck ⟨by omega, hopn⟩ (Ok.ret ⟨⟨on2.trans ⟨by omega, fun c _ hc => k4 c hc⟩, rfl⟩, r, ?_, hd2.srt, hmem⟩))))
    have etk : (encs q').take (v.o + i * 4) = encs r := by
      have : encs q' = encs r ++ encs (q'.drop i) := by rw [← encs_append, ← hr, List.take_append_drop]
      rw [this, List.take_append_of_le_length (by rw [encs_len, es, hri, hoo]; omega), List.take_of_length_le (by rw [encs_len, es, hri, hoo]; omega)]
    rw [etk, List.append_assoc] at k2
    refine ⟨⟨by rw [encs_len, hri], lds_of_get fun j hj => ?_⟩, by dsimp only; omega, by rw [es]; exact hopn, fun c => by cases c⟩
    dsimp only
    rw [ld_of_get k2, hoo]
    simp only [Nat.zero_add]
    rw [List.getElem?_append_left hj, List.getElem?_eq_getElem hj]
end Go.Lt.P2

namespace Go.Lt.P2
open Go Go.Lt Go.Proofs
/-- cmp.Or of two -/
theorem r88_ok {H : Hp} {b : Nat} {x y : Int} (hb : H.get b = some (.cells [.int .i64 x, .int .i64 y] false)) : r88 ⟨false, b, 0, 2, 2, 0⟩ H = some (if x ≠ 0 then x else y, H) := by
  have e0 : H.ldI .i64 b (0 + (0 : Int).toNat * 1) = some x := ldI_get hb rfl
  have e1 : H.ldI .i64 b (0 + (1 : Int).toNat * 1) = some y := ldI_get hb rfl
  have s1 : w64 ((0 : Int) + 1) = 1 := by decide +kernel
  have s2 : w64 ((1 : Int) + 1) = 2 := by decide +kernel
  unfold r88
  rw [show FUEL = 18446744073709551613 + 1 + 1 + 1 from rfl, r88_l0]
  simp only [e0, Option.bind_some, s1]
  rw [if_pos (by simp), ck, if_pos (by simp)]
  by_cases h : x ≠ 0
  · rw [if_pos h, if_pos h]
  · rw [if_neg h, if_neg h, r88_l0]
    simp only [e1, Option.bind_some, s2]
    rw [if_pos (by simp), ck, if_pos (by simp)]
    by_cases h2 : y ≠ 0
    · rw [if_pos h2]
    · rw [if_neg h2, r88_l0, if_neg (by simp)]
      simp only [ne_eq, Classical.not_not] at h2
      rw [h2]
/-- the comparison of Corners -/
theorem r87_ok {p q : Pq} {H : Hp} (hp : qp p) (hq : qp q) : Ok (r87 (fq p.1).1 (fq p.1).2 (fq p.2).1 (fq p.2).2 (fq q.1).1 (fq q.1).2 (fq q.2).1 (fq q.2).2 H) fun r H' => Gr H H' ∧ r = cmpQ p q := by
  unfold r87
  refine Ok.box2 (.nil H) fun A gA c => ?_
  refine Ok.cld c (.tail _ (.head _)) rfl (Ok.cld c (.tail _ (.head _)) rfl (Ok.cld c (.head _) rfl (Ok.cld c (.head _) rfl (Ok.own (r89_q hp.1 hq.1 (by decide) (by decide)) fun _ => ?_))))
  refine Ok.cld c (.tail _ (.head _)) rfl (Ok.cld c (.tail _ (.head _)) rfl (Ok.cld c (.head _) rfl (Ok.cld c (.head _) rfl (Ok.own (r89_q hp.2 hq.2 (by decide) (by decide)) fun _ => ?_))))
  have gp := Gr.push A (.cells [.int .i64 (cmpq p.1 q.1), .int .i64 (cmpq p.2 q.2)] false)
  exact Ok.ld (r88_ok (Hp.get_push_new _ _)) (Ok.ret ⟨gA.trans gp, rfl⟩)
theorem says87 (k : Nat) : CmpSays (appA (k + 1)) (.fn 87 [] []) := by
  intro H p q hp hq
  show Ok ((r87 (fq p.1).1 (fq p.1).2 (fq p.2).1 (fq p.2).2 (fq q.1).1 (fq q.1).2 (fq q.2).1 (fq q.2).2 H).map fun p => (AV.int .i64 p.1, p.2)) _
  obtain ⟨r, H', e, g, rfl⟩ := r87_ok (H := H) hp hq
  rw [e]
  exact Ok.ret ⟨g, rfl⟩
theorem cmpQ_refl (p : Pq) : cmpQ p p = 0 := by
  have : ∀ x : Rat, cmpq x x = 0 := fun x => by unfold cmpq; rw [if_neg (by grind), if_neg (by grind)]
  unfold cmpQ
  rw [this, this]; rfl
end Go.Lt.P2

namespace Go.Lt.P2
open Go Go.Lt Go.Proofs
theorem r109_at {n : Nat} (hn : n ∈ [0, 1, 2, 3, 4, 5, 6, 7, 8, 9, 10, 11, 12, 13, 14, 15]) (H : Hp) : r109 (n : Int) H = some (([0, 1, 2, 2, 3, 3, 3, 3, 4, 4, 4, 4, 4, 4, 4, 4] : List Int).getD n 0, H) := by
  simp only [List.mem_cons, List.not_mem_nil, or_false] at hn
  rcases hn with rfl | rfl | rfl | rfl | rfl | rfl | rfl | rfl | rfl | rfl | rfl | rfl | rfl | rfl | rfl | rfl <;> kernel_rfl
theorem r109_small {n : Nat} (hn : n ≤ 15) (H : Hp) : ∃ x, r109 (IntKind.wrap .u64 (n : Int)) H = some (x, H) ∧ (12 < n → x = 4) := by
  have e : IntKind.wrap .u64 (n : Int) = n := by
    simp only [IntKind.wrap, IntKind.signed, IntKind.bits]
    simp
    omega
  rw [e]
  refine ⟨_, r109_at (by simp; omega) H, fun h => ?_⟩
  rcases (show n = 13 ∨ n = 14 ∨ n = 15 by omega) with rfl | rfl | rfl <;> rfl
section
variable {a : App} {fv : AV} {v : Sl} {q : List Pq} {P : Pq}
/-- order2 where all is alike -/
theorem r129_eq (hc : CmpSays a fv) (hP : qp P) (hq : ∀ x ∈ q, x = P) {H : Hp} (hv : SL H v q) {i j : Nat} (hi : i < q.length) (hj : j < q.length) {b o : Nat} : Ok (r129 a v i j b o fv H) fun r H' => Gr H H' ∧ r = ((i : Int), (j : Int)) := by
  unfold r129
  have hl := hv.len
  have ei : q[i] = P := hq _ (List.getElem_mem hi)
  have ej : q[j] = P := hq _ (List.getElem_mem hj)
  refine Ok.ck (by omega) (Ok.ld (hv.ldI (i := j) (j := 0) hj (by rw [ej]; rfl)) (Ok.ld (hv.ldI (i := j) (j := 1) hj (by rw [ej]; rfl)) (Ok.ld (hv.ldI (i := j) (j := 2) hj (by rw [ej]; rfl)) (Ok.ld (hv.ldI (i := j) (j := 3) hj (by rw [ej]; rfl)) (Ok.ck (by omega) (Ok.ld (hv.ldI (i := i) (j := 0) hi (by rw [ei]; rfl)) (Ok.ld (hv.ldI (i := i) (j := 1) hi (by rw [ei]; rfl)) (Ok.ld (hv.ldI (i := i) (j := 2) hi (by rw [ei]; rfl)) (Ok.ld (hv.ldI (i := i) (j := 3) hi (by rw [ei]; rfl)) ?_)))))))))
  refine Ok.bind (hc H P P hP hP) fun r H2 ⟨g2, hr⟩ => ?_
  subst hr
  rw [cmpQ_refl]
  exact Ok.ld rfl (Ok.neg (by decide) (Ok.ret ⟨g2, rfl⟩))
theorem r117_eq (hc : CmpSays a fv) (hP : qp P) (hq : ∀ x ∈ q, x = P) {H : Hp} (hv : SL H v q) (hn : 12 < q.length) (hn2 : q.length ≤ 15) : Ok (r117 a v 0 q.length fv H) fun r H' => Gr H H' ∧ r.2 = 1 := by
  unfold r117
  refine Ok.box (.nil H) fun A gA c => ?_
  have ew : w64 ((q.length : Int) - 0) = q.length := by rw [w64_id (by omega) (by omega)]; omega
  have hvA := hv.gr gA
  rw [ew]
  refine Ok.pos (by omega) (Ok.neg (by omega) ?_)
  have et : Int.tdiv (q.length : Int) 4 = 3 := by
    rcases (show q.length = 13 ∨ q.length = 14 ∨ q.length = 15 by omega) with h | h | h <;> rw [h] <;> decide
  rw [et]
  have e1 : w64 (0 + w64 (w64 3 * 1)) = ((3 : Nat) : Int) := by decide +kernel
  have e2 : w64 (0 + w64 (w64 3 * 2)) = ((6 : Nat) : Int) := by decide +kernel
  have e3 : w64 (0 + w64 (w64 3 * 3)) = ((9 : Nat) : Int) := by decide +kernel
  rw [e1, e2, e3]
  unfold r117_j0 r128
  refine Ok.bind (P := fun _ H' => Gr A H') ?_ fun r D gD => ?_
  · refine Ok.bind (r129_eq hc hP hq hvA (i := 3) (j := 6) (by omega) (by omega)) fun r1 B ⟨gB, h1⟩ => ?_
    subst h1
    refine Ok.bind (r129_eq hc hP hq (hvA.gr gB) (i := 6) (j := 9) (by omega) (by omega)) fun r2 C ⟨gC, h2⟩ => ?_
    subst h2
    refine Ok.bind (r129_eq hc hP hq (hvA.gr (gB.trans gC)) (i := 3) (j := 6) (by omega) (by omega)) fun r3 D ⟨gD, h3⟩ => ?_
    subst h3
    exact Ok.ret (gB.trans (gC.trans gD))
  · have c := c.gr gD
    unfold r117_j1
    exact Ok.cld c (.head _) rfl (Ok.pos rfl (Ok.ret ⟨c.g, rfl⟩))
theorem r119_eq (hc : CmpSays a fv) (hP : qp P) (hq : ∀ x ∈ q, x = P) {H : Hp} (hv : SL H v q) (hn : 12 < q.length) (hn2 : q.length ≤ 15) : Ok (r119 a v 0 q.length fv H) fun r H' => Gr H H' ∧ r = true := by
  unfold r119
  rw [show w64 (0 + 1) = ((1 : Nat) : Int) by decide, show FUEL = 18446744073709551615 + 1 from rfl, r119_l0]
  have hl := hv.len
  refine Ok.pos (by decide) ?_
  refine Ok.loop (L := fun K (s : Int) H' => r119_l1 a (fun v1_ v2_ v3_ v4_ v5_ v6_ H_ => r119_l0 a 18446744073709551615 v1_ v2_ v3_ v4_ v5_ v6_ H_) K v 0 q.length fv s 0 H') (fun m s H' => Gr H H' ∧ ∃ i : Nat, s = i ∧ 1 ≤ i ∧ i + m = q.length) ?_ FUEL (q.length - 1) _ H (by unfold FUEL; omega) ⟨.refl _, 1, rfl, by omega, by omega⟩
  rintro K m s H1 ⟨g1, i, rfl, hi1, hm⟩ ih
  try dsimp only at *
  rw [r119_l1]
  by_cases h : i < q.length
  · have hg := hv.gr g1
    have ej : w64 ((i : Int) - 1) = ((i - 1 : Nat) : Int) := by rw [w64_id (by omega) (by omega)]; omega
    have hj : i - 1 < q.length := by omega
    have e1 : q[i] = P := hq _ (List.getElem_mem h)
    have e2 : q[i - 1] = P := hq _ (List.getElem_mem hj)
    rw [ej]
    refine Ok.pos (by omega) (Ok.ck (by omega) (Ok.ld (hg.ldI (i := i) (j := 0) h (by rw [e1]; rfl)) (Ok.ld (hg.ldI (i := i) (j := 1) h (by rw [e1]; rfl)) (Ok.ld (hg.ldI (i := i) (j := 2) h (by rw [e1]; rfl)) (Ok.ld (hg.ldI (i := i) (j := 3) h (by rw [e1]; rfl)) (Ok.ck (by omega) (Ok.ld (hg.ldI (i := i - 1) (j := 0) hj (by rw [e2]; rfl)) (Ok.ld (hg.ldI (i := i - 1) (j := 1) hj (by rw [e2]; rfl)) (Ok.ld (hg.ldI (i := i - 1) (j := 2) hj (by rw [e2]; rfl)) (Ok.ld (hg.ldI (i := i - 1) (j := 3) hj (by rw [e2]; rfl)) ?_))))))))))
    refine Ok.bind (hc H1 P P hP hP) fun r H2 ⟨g2, hr⟩ => ?_
    subst hr
    rw [cmpQ_refl]
    refine Ok.ld rfl ?_
    unfold r119_j4
    rw [w64_succ (by omega)]
    exact Ok.pos rfl (ih (m - 1) _ H2 (by omega) ⟨g1.trans g2, i + 1, rfl, by omega, by omega⟩)
  · refine Ok.neg (by omega) ?_
    unfold r119_j4
    exact Ok.neg (by simp) (Ok.pos (by omega) (Ok.ret ⟨g1, rfl⟩))
end
/-- slices.SortFunc of corners -/
theorem r86_ok {k : Nat} {fv : AV} (hc : CmpSays (appA (k + 1)) fv) {v : Sl} {q : List Pq} (hqp : ∀ x ∈ q, qp x) (hb : q.length ≤ 15) (hbig : 12 < q.length → ∃ P, ∀ x ∈ q, x = P) {H : Hp} (ho : Own H v q) :
    Ok (r86 (appA (k + 1)) v fv H) fun _ H' => ∃ q', Own H' v q' ∧ Only v.b H H' ∧ q'.Perm q ∧ so q' := by
  unfold r86
  have hl := ho.len
  rw [hl]
  obtain ⟨x, e, hx⟩ := r109_small hb H
  refine Ok.ld e ?_
  unfold r108
  rw [show FUEL = 18446744073709551615 + 1 from rfl, r108_l0]
  refine Ok.bind (P := fun _ H' => ∃ q', Own H' v q' ∧ Only v.b H H' ∧ q'.Perm q ∧ so q') ?_ fun _ H' h => Ok.ret h
  have ew : w64 ((q.length : Int) - 0) = q.length := by rw [w64_id (by omega) (by omega)]; omega
  rw [ew]
  by_cases h12 : q.length ≤ 12
  · exact Ok.pos (by omega) (Ok.bind (r114_ok hc hqp (by omega) ho) fun _ H' h => Ok.ret h)
  · obtain ⟨P, hP⟩ := hbig (by omega)
    have hPq : qp P := by
      have h0 : 0 < q.length := by omega
      rw [← hP _ (List.getElem_mem h0)]; exact hqp _ (List.getElem_mem h0)
    have hx4 := hx (by omega)
    dsimp only
    subst hx4
    refine Ok.neg (by omega) (Ok.neg (by decide) (Ok.pos rfl ?_))
    unfold r108_j5
    refine Ok.bind (r117_eq hc hPq hP ho.sl (by omega) (by omega)) fun r A ⟨gA, hr⟩ => Ok.neg (by rw [hr]; decide) ?_
    unfold r108_j4
    refine Ok.pos rfl (Ok.pos rfl ?_)
    dsimp only
    rw [hr]
    unfold r108_j3
    refine Ok.pos (by decide) (Ok.bind (r119_eq hc hPq hP (ho.sl.gr gA) (by omega) (by omega)) fun r B ⟨gB, hr⟩ => ?_)
    refine Ok.pos hr (Ok.ret ⟨q, ho.gr (gA.trans gB), Gr.only (gA.trans gB), .refl _, fun t t' h1 h2 => ?_⟩)
    rw [← at_eq h2, ← at_eq (show t < q.length by omega), hP _ (List.getElem_mem _), hP _ (List.getElem_mem _)]
    unfold ltP
    exact decide_eq_false (ptlt_irr P)
end Go.Lt.P2
