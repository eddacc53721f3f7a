/- PLAIN LAWS OF WHAT IS COMPUTED, for the statement 'DealsOthers'. Nothing is asked of the input. -/
import Derived.Test.YtficeemoekikdaaU14VOff
set_option linter.unusedVariables false
set_option linter.unusedSimpArgs false
namespace Go.Lt.P5
open Go.Lt
/-- q lies on the line from u to t, or below it -/
def under (u t q : Pr) : Prop := (t.1 - u.1) * (q.2 - u.2) ≤ (t.2 - u.2) * (q.1 - u.1)
def turn (a b c : Pr) : Int := (b.1 - a.1) * (c.2 - b.2) - (b.2 - a.2) * (c.1 - b.1)
theorem cancel {k x y : Int} (hk : 0 < k) (h : k * x ≤ k * y) : x ≤ y := Int.le_of_mul_le_mul_left h hk
/-- below a line that is below another one, to the right of where both begin -/
theorem under_right {u t p q : Pr} (h1 : u.1 < t.1) (h2 : u.1 < p.1) (hq : u.1 ≤ q.1) (hqt : under u t q) (ht : under u p t) : under u p q := by
  unfold under at *
  refine cancel (k := t.1 - u.1) (by omega) ?_
  have a1 : (p.1 - u.1) * ((t.1 - u.1) * (q.2 - u.2)) ≤ (p.1 - u.1) * ((t.2 - u.2) * (q.1 - u.1)) := Int.mul_le_mul_of_nonneg_left hqt (by omega)
  have a2 : (q.1 - u.1) * ((p.1 - u.1) * (t.2 - u.2)) ≤ (q.1 - u.1) * ((p.2 - u.2) * (t.1 - u.1)) := Int.mul_le_mul_of_nonneg_left ht (by omega)
  grind
/-- what a turn says -/
theorem turn_under {u t p : Pr} : 0 ≤ turn u t p ↔ under u p t := by
  unfold turn under
  constructor <;> intro h <;> grind
theorem turn_over {u t p : Pr} (h : turn u t p < 0) : under u t p := by
  unfold turn at h
  unfold under
  grind
/-- the middle left out: what lies behind it -/
theorem under_mid {u t p q : Pr} (h1 : u.1 < t.1) (h2 : t.1 ≤ p.1) (hq1 : t.1 ≤ q.1) (hq2 : q.1 ≤ p.1) (hqp : q.1 = p.1 → q.2 ≤ p.2) (hut : under u p t) (hq : under t p q) : under u p q := by
  by_cases he : t.1 = p.1
  · have e1 : q.1 = p.1 := by omega
    have := hqp e1
    unfold under
    rw [e1]
    have := Int.mul_le_mul_of_nonneg_left (a := q.2 - u.2) (b := p.2 - u.2) (c := p.1 - u.1) (by omega) (by omega)
    grind
  · unfold under at *
    refine cancel (k := p.1 - t.1) (by omega) ?_
    have a1 : (t.1 - u.1) * ((p.1 - t.1) * (q.2 - t.2)) ≤ (t.1 - u.1) * ((p.2 - t.2) * (q.1 - t.1)) := Int.mul_le_mul_of_nonneg_left hq (by omega)
    have a2 : (p.1 - t.1) * ((p.1 - t.1) * (q.2 - t.2)) ≤ (p.1 - t.1) * ((p.2 - t.2) * (q.1 - t.1)) := Int.mul_le_mul_of_nonneg_left hq (by omega)
    have a3 : (p.1 - q.1) * ((p.1 - u.1) * (t.2 - u.2)) ≤ (p.1 - q.1) * ((p.2 - u.2) * (t.1 - u.1)) := Int.mul_le_mul_of_nonneg_left hut (by omega)
    grind
/-- what lies to the left of a corner that stays -/
theorem under_left {u t p q : Pr} (h1 : u.1 < t.1) (h2 : t.1 < p.1) (hq : q.1 ≤ t.1) (hqt : under u t q) (ht : turn u t p < 0) : under t p q := by
  unfold under turn at *
  refine cancel (k := t.1 - u.1) (by omega) ?_
  have a1 : (p.1 - t.1) * ((t.1 - u.1) * (q.2 - u.2)) ≤ (p.1 - t.1) * ((t.2 - u.2) * (q.1 - u.1)) := Int.mul_le_mul_of_nonneg_left hqt (by omega)
  have a2 : (t.1 - q.1) * ((t.1 - u.1) * (p.2 - t.2)) ≤ (t.1 - q.1) * ((t.2 - u.2) * (p.1 - t.1)) := Int.mul_le_mul_of_nonneg_left (by omega) (by omega)
  grind
/-- a corner behind another one is below the lines ahead of it -/
theorem under_ahead {w u t p : Pr} (h1 : w.1 < u.1) (h2 : u.1 < t.1) (h3 : t.1 ≤ p.1) (hp : under u t p) (ht : turn w u t < 0) : under w u p := by
  unfold under turn at *
  refine cancel (k := t.1 - u.1) (by omega) ?_
  have a1 : (u.1 - w.1) * ((t.1 - u.1) * (p.2 - u.2)) ≤ (u.1 - w.1) * ((t.2 - u.2) * (p.1 - u.1)) := Int.mul_le_mul_of_nonneg_left hp (by omega)
  have a2 : (p.1 - u.1) * ((u.1 - w.1) * (t.2 - u.2)) ≤ (p.1 - u.1) * ((u.2 - w.2) * (t.1 - u.1)) := Int.mul_le_mul_of_nonneg_left (by omega) (by omega)
  grind
end Go.Lt.P5
