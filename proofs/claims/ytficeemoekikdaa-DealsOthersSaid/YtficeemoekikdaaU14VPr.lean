/- PLAIN LAWS OF WHAT IS COMPUTED, for the statement 'DealsOthers'. Nothing is asked of the input. -/
import Derived.Test.YtficeemoekikdaaU14VQe
set_option linter.unusedVariables false
set_option linter.unusedSimpArgs false
namespace Go.Lt.P5
open Go Go.Lt Go.Proofs
theorem cast_sub_mul (r d b : Int) : ((r + 2 * b * d : Int) : Rat) = (r : Rat) + 2 * (b : Rat) * (d : Rat) := by
  rw [Rat.intCast_add, Rat.intCast_mul, Rat.intCast_mul]; rfl
/-- the product of what both get above a fallback -/
def gainq (d : Pr) (p : Rat × Rat) : Rat := if p.1 - d.1 < 0 ∨ p.2 - d.2 < 0 then -1 else (p.1 - d.1) * (p.2 - d.2)
/-- small terms -/
def qp (p : Rat × Rat) : Prop := qb 3600 60 p.1 ∧ qb 3600 60 p.2
theorem sub_int_q {p : Rat} {d : Int} (hd : 0 ≤ d ∧ d ≤ 30) (hp : qb 3600 60 p) : -9223372036854775808 < d * (fq p).2 ∧ w64 (d * (fq p).2) = d * (fq p).2 ∧ w64 ((fq p).1 - d * (fq p).2) = (fq p).1 - d * (fq p).2 ∧ ((fq p).1 - d * (fq p).2).natAbs < 9223372036854775808 ∧ dv ((fq p).1 - d * (fq p).2) (fq p).2 = p - d ∧ qb 5400 60 (p - d) := by
  obtain ⟨h1, h2, h3⟩ := hp
  have hp := fq_pos p
  have b1 := mul_bd (A := 30) (B := 60) (x := d) (y := (fq p).2) (by omega) (by omega) (by omega) (by omega)
  have e : dv ((fq p).1 - d * (fq p).2) (fq p).2 = p - d := by
    have := dv_sub (a := (fq p).1) (b := (fq p).2) (c := d) (d := 1) hp (by decide)
    rw [Int.mul_one, Int.mul_one, dv_fq, dv_int] at this
    exact this
  refine ⟨by omega, w64_id (by omega) (by omega), w64_id (by omega) (by omega), by omega, e, ?_⟩
  rw [← e]
  exact qb_dv hp (by omega) (by omega) h3
/-- gain -/
theorem r67_q {d : Pr} {p : Rat × Rat} (hd : num d) (hp : qp p) : Ok (r67 (fq p.1).1 (fq p.1).2 (fq p.2).1 (fq p.2).2 d.1 d.2 H0) fun r _ => r = fq (gainq d p) := by
  unfold num at hd
  obtain ⟨_, a1, a2, a3, a4, a5⟩ := sub_int_q (d := d.1) ⟨hd.1, hd.2.1⟩ hp.1
  obtain ⟨_, b1, b2, b3, b4, b5⟩ := sub_int_q (d := d.2) ⟨hd.2.2.1, hd.2.2.2⟩ hp.2
  have f1 := fq_pos p.1
  have f2 := fq_pos p.2
  have f3 := hp.1.2.2
  have f4 := hp.2.2.2
  unfold r67
  refine Ok.box3 (.nil H0) fun A gA c => ?_
  refine Ok.cld c (.tail _ (.tail _ (.head _))) rfl (Ok.cld c (.tail _ (.head _)) rfl (Ok.cld c (.tail _ (.tail _ (.head _))) rfl (Ok.cld c (.tail _ (.tail _ (.head _))) rfl ?_)))
  rw [a1, a2]
  refine Ok.own (r48_q a3 f1 (by omega) H0) fun X => ?_
  rw [a4]
  refine Ok.cld c (.tail _ (.tail _ (.head _))) rfl (Ok.cld c (.tail _ (.head _)) rfl (Ok.cld c (.tail _ (.tail _ (.head _))) rfl (Ok.cld c (.tail _ (.tail _ (.head _))) rfl ?_)))
  rw [b1, b2]
  refine Ok.own (r48_q b3 f2 (by omega) H0) fun Y => ?_
  rw [b4]
  have c := (c.push [.int .i64 0, .int .i64 0]).push [.int .i64 0, .int .i64 0]
  refine Ok.cst c 1 rfl rfl fun C _ _ c => Ok.cst c 0 rfl rfl fun D _ _ c => Ok.cld c (.tail _ (.head _)) rfl ?_
  obtain ⟨u1, u2, u3⟩ := a5
  obtain ⟨w1, w2, w3⟩ := b5
  have g1 := fq_pos (p.1 - d.1)
  have g2 := fq_pos (p.2 - d.2)
  have n1 : (fq (p.1 - d.1)).1 < 0 ↔ p.1 - d.1 < 0 := by rw [← Int.not_le, fq_num_nonneg, Rat.not_le]
  have n2 : (fq (p.2 - d.2)).1 < 0 ↔ p.2 - d.2 < 0 := by rw [← Int.not_le, fq_num_nonneg, Rat.not_le]
  have bad : ∀ {b : Bool}, b = true → (p.1 - d.1 < 0 ∨ p.2 - d.2 < 0) → Ok (r67_j0 (((H0.push (.cells [.int .i64 (fq p.1).1, .int .i64 (fq p.1).2, .int .i64 (fq p.2).1, .int .i64 (fq p.2).2] false)).push (.cells [.int .i64 d.1, .int .i64 d.2] false)).n) A.n ((A.push (.cells [.int .i64 0, .int .i64 0] false)).n) b D) fun r _ => r = fq (gainq d p) := fun hb h => by
    subst hb
    unfold r67_j0
    refine Ok.pos rfl (Ok.own (r48_q (a := -1) (b := 1) (by decide) (by decide) (by decide) H0) fun Z => Ok.cst c 2 rfl rfl fun E _ _ c => ?_)
    refine Ok.cld c (.tail _ (.tail _ (.head _))) rfl (Ok.cld c (.tail _ (.tail _ (.head _))) rfl (Ok.ret ?_))
    unfold gainq
    rw [if_pos h, dv_int]
    rfl
  refine Ok.ite (fun cc => bad rfl (.inl (n1.1 cc))) fun cc => Ok.cld c (.head _) rfl ?_
  by_cases h2 : p.2 - d.2 < 0
  · exact bad (decide_eq_true (n2.2 h2)) (.inr h2)
  · rw [decide_eq_false (fun q => h2 (n2.1 q))]
    have h1 : ¬ p.1 - d.1 < 0 := fun q => cc (n1.2 q)
    have m1 := mul_bd (A := 5400) (B := 5400) u1 u2 w1 w2
    have m2 := mul_bd (A := 60) (B := 60) (x := (fq (p.1 - d.1)).2) (y := (fq (p.2 - d.2)).2) (by omega) (by omega) (by omega) (by omega)
    unfold r67_j0
    refine Ok.neg (by simp) (Ok.cld c (.tail _ (.head _)) rfl (Ok.cld c (.head _) rfl (Ok.cld c (.tail _ (.head _)) rfl (Ok.cld c (.head _) rfl ?_))))
    dsimp only
    rw [w64_id (by omega) (by omega), w64_id (by omega) (by omega)]
    refine Ok.own (r48_q (by omega) (Int.mul_pos g1 g2) (by omega) H0) fun Z => Ok.cst c 2 rfl rfl fun E _ _ c => ?_
    refine Ok.cld c (.tail _ (.tail _ (.head _))) rfl (Ok.cld c (.tail _ (.tail _ (.head _))) rfl (Ok.ret ?_))
    unfold gainq
    rw [if_neg (fun q => q.elim h1 h2), fq_mul]
theorem gainq_qb {d : Pr} {p : Rat × Rat} (hd : num d) (hp : qp p) : qb 29160000 3600 (gainq d p) := by
  unfold num at hd
  unfold gainq
  split
  · exact ⟨by decide, by decide, by decide⟩
  · have a := (sub_int_q (d := d.1) ⟨hd.1, hd.2.1⟩ hp.1).2.2.2.2.2
    have b := (sub_int_q (d := d.2) ⟨hd.2.2.1, hd.2.2.2⟩ hp.2).2.2.2.2.2
    exact (a.mul b).mono (by decide) (by decide)
/-- the middle of a line -/
def midq (t : Tr) (d : Pr) : Rat × Rat := (dv (restF t d + 2 * t.1 * d.1) (2 * t.1), dv (restF t d + 2 * t.2.1 * d.2) (2 * t.2.1))
def okM (t : Tr) (d u w : Pr) : Prop := (u.1 : Rat) ≤ (midq t d).1 ∧ (midq t d).1 ≤ (w.1 : Rat)
instance (t : Tr) (d u w : Pr) : Decidable (okM t d u w) := by unfold okM; infer_instance
theorem mid_qp {t : Tr} {d : Pr} (h : lb t) (h1 : 0 < t.1) (h2 : 0 < t.2.1) (hd : num d) (hr : 0 < restF t d) : (0 ≤ 2 * t.1 * d.1 ∧ 2 * t.1 * d.1 ≤ 1800) ∧ (0 ≤ 2 * t.2.1 * d.2 ∧ 2 * t.2.1 * d.2 ≤ 1800) ∧ qp (midq t d) := by
  have hrb := rest_bd h hd
  obtain ⟨⟨_, a2⟩, ⟨_, b2⟩, _⟩ := h
  unfold num at hd
  have m1 := mul_bd (A := 60) (B := 30) (x := 2 * t.1) (y := d.1) (by omega) (by omega) (by omega) (by omega)
  have m2 := mul_bd (A := 60) (B := 30) (x := 2 * t.2.1) (y := d.2) (by omega) (by omega) (by omega) (by omega)
  have n1 := Int.mul_nonneg (show 0 ≤ 2 * t.1 by omega) hd.1
  have n2 := Int.mul_nonneg (show 0 ≤ 2 * t.2.1 by omega) hd.2.2.1
  exact ⟨⟨n1, m1.2⟩, ⟨n2, m2.2⟩, qb_dv (by omega) (by omega) (by omega) (by omega), qb_dv (by omega) (by omega) (by omega) (by omega)⟩
theorem cmp_ge {p q : Rat} : (0 ≤ cmpq p q) ↔ q ≤ p := by
  unfold cmpq
  split
  · constructor
    · intro h; omega
    · intro h; grind
  · split
    · constructor
      · intro _; grind
      · intro _; omega
    · constructor
      · intro _; grind
      · intro _; omega
theorem cmp_le {p q : Rat} : (cmpq p q ≤ 0) ↔ p ≤ q := by
  unfold cmpq
  split
  · constructor
    · intro _; grind
    · intro _; omega
  · split
    · constructor
      · intro h; omega
      · intro h; grind
    · constructor
      · intro _; grind
      · intro _; omega
theorem r48_int {a : Int} (ha : a.natAbs < 9223372036854775808) (H : Hp) : Ok (r48 a 1 H) fun r _ => r = fq (a : Rat) := by
  have := r48_q (a := a) (b := 1) ha (by decide) (by decide) H
  rw [dv_int] at this
  exact this
/-- middle -/
theorem r69_q {t : Tr} {d u w : Pr} (h : lb t) (h1 : 0 < t.1) (h2 : 0 < t.2.1) (hd : num d) (hu : num u) (hw : num w) (hr : 0 < restF t d) :
    Ok (r69 t.1 t.2.1 t.2.2 d.1 d.2 u.1 u.2 w.1 w.2 H0) fun r _ => r = ((fq (midq t d).1).1, (fq (midq t d).1).2, (fq (midq t d).2).1, (fq (midq t d).2).2, decide (okM t d u w)) := by
  obtain ⟨m1, m2, m3⟩ := mid_qp h h1 h2 hd hr
  have hrb := rest_bd h hd
  obtain ⟨h3, h4, h5, _⟩ := h
  unfold num at hu hw
  unfold r69
  refine Ok.box5 (.nil H0) fun A gA c => ?_
  refine Ok.cld c (.tail _ (.tail _ (.tail _ (.tail _ (.head _))))) rfl (Ok.cld c (.tail _ (.tail _ (.tail _ (.tail _ (.head _))))) rfl (Ok.cld c (.tail _ (.tail _ (.tail _ (.tail _ (.head _))))) rfl (Ok.cld c (.tail _ (.tail _ (.tail _ (.head _)))) rfl (Ok.cld c (.tail _ (.tail _ (.tail _ (.head _)))) rfl (Ok.own (r78_q h3 h4 h5 hd) fun X => ?_)))))
  refine Ok.cld c (.tail _ (.tail _ (.tail _ (.tail _ (.head _))))) rfl (Ok.cld c (.tail _ (.tail _ (.tail _ (.head _)))) rfl (Ok.cld c (.tail _ (.tail _ (.tail _ (.tail _ (.head _))))) rfl ?_))
  dsimp only
  rw [w64_id (n := 2 * t.1) (by omega) (by omega), w64_id (n := 2 * t.1 * d.1) (by omega) (by omega), w64_id (by omega) (by omega)]
  refine Ok.own (r48_q (by omega) (show 0 < 2 * t.1 by omega) (by omega) H0) fun X => ?_
  refine Ok.cld c (.tail _ (.tail _ (.tail _ (.tail _ (.head _))))) rfl (Ok.cld c (.tail _ (.tail _ (.tail _ (.tail _ (.head _))))) rfl (Ok.cld c (.tail _ (.tail _ (.tail _ (.tail _ (.head _))))) rfl (Ok.cld c (.tail _ (.tail _ (.tail _ (.head _)))) rfl (Ok.cld c (.tail _ (.tail _ (.tail _ (.head _)))) rfl (Ok.own (r78_q h3 h4 h5 hd) fun X => ?_)))))
  refine Ok.cld c (.tail _ (.tail _ (.tail _ (.tail _ (.head _))))) rfl (Ok.cld c (.tail _ (.tail _ (.tail _ (.head _)))) rfl (Ok.cld c (.tail _ (.tail _ (.tail _ (.tail _ (.head _))))) rfl ?_))
  dsimp only
  rw [w64_id (n := 2 * t.2.1) (by omega) (by omega), w64_id (n := 2 * t.2.1 * d.2) (by omega) (by omega), w64_id (by omega) (by omega)]
  refine Ok.own (r48_q (by omega) (show 0 < 2 * t.2.1 by omega) (by omega) H0) fun X => ?_
  refine Ok.alo c fun C gC c => ?_
  show Ok _ fun r _ => r = ((fq (midq t d).1).1, (fq (midq t d).1).2, (fq (midq t d).2).1, (fq (midq t d).2).2, decide (okM t d u w))
  have e1 : dv (restF t d + 2 * t.1 * d.1) (2 * t.1) = (midq t d).1 := rfl
  have e2 : dv (restF t d + 2 * t.2.1 * d.2) (2 * t.2.1) = (midq t d).2 := rfl
  rw [e1, e2] at c
  have okd : okM t d u w ↔ (u.1 : Rat) ≤ (midq t d).1 ∧ (midq t d).1 ≤ (w.1 : Rat) := Iff.rfl
  simp only [okd]
  have m31 := m3.1
  generalize (midq t d).1 = p at *
  generalize (midq t d).2 = q at *
  refine Ok.cld c (.head _) rfl (Ok.cld c (.head _) rfl (Ok.cld c (.head _) rfl (Ok.cld c (.head _) rfl (Ok.cld c (.head _) rfl (Ok.cld c (.head _) rfl (Ok.cld c (.tail _ (.tail _ (.tail _ (.head _)))) rfl (Ok.own (r48_int (by omega) H0) fun X => ?_)))))))
  refine Ok.own (r68_q m31 (qb_int (a := u.1) (N := 30) (D := 1) (by omega) (by omega) (by omega)) (by decide) (by decide)) fun X => ?_
  dsimp only
  refine Ok.ite (fun cc => ?_) fun cc => ?_
  · refine Ok.cld c (.head _) rfl (Ok.cld c (.head _) rfl (Ok.cld c (.tail _ (.tail _ (.head _))) rfl (Ok.own (r48_int (by omega) H0) fun X => ?_)))
    refine Ok.own (r68_q m31 (qb_int (a := w.1) (N := 30) (D := 1) (by omega) (by omega) (by omega)) (by decide) (by decide)) fun X => ?_
    refine Ok.cst c 1 rfl rfl fun D _ _ c => Ok.cld c (.tail _ (.head _)) rfl (Ok.cld c (.tail _ (.head _)) rfl (Ok.cld c (.tail _ (.head _)) rfl (Ok.cld c (.tail _ (.head _)) rfl (Ok.ret ?_))))
    have : decide (cmpq p w.1 ≤ 0) = decide ((u.1 : Rat) ≤ p ∧ p ≤ (w.1 : Rat)) := decide_eq_decide.2 ⟨fun q => ⟨cmp_ge.1 cc, cmp_le.1 q⟩, fun q => cmp_le.2 q.2⟩
    dsimp only
    rw [this]
  · refine Ok.cst c 1 rfl rfl fun D _ _ c => Ok.cld c (.tail _ (.head _)) rfl (Ok.cld c (.tail _ (.head _)) rfl (Ok.cld c (.tail _ (.head _)) rfl (Ok.cld c (.tail _ (.head _)) rfl (Ok.ret ?_))))
    rw [decide_eq_false (fun q => cc (cmp_ge.2 q.1))]
end Go.Lt.P5
