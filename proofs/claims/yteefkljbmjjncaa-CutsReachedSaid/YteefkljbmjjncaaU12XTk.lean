/- PLAIN LAWS OF WHAT IS COMPUTED, for the statement 'CutsReached'. Nothing is asked of the input. -/
import Derived.Test.YteefkljbmjjncaaU12XSf
set_option linter.unusedVariables false
set_option linter.unusedSimpArgs false
namespace Go.Lt.P2
open Go Go.Lt Go.Proofs
/-! ### with more than twelve pairs of sides at corners, all corners are one -/
theorem sq_nn (x : Int) : 0 ≤ x * x := by
  rcases Int.le_total 0 x with h | h
  · exact Int.mul_nonneg h h
  · have := Int.mul_nonneg (show 0 ≤ -x by omega) (show 0 ≤ -x by omega)
    rw [Int.neg_mul_neg] at this; exact this
theorem sq_pos {x : Int} (h : x ≠ 0) : 0 < x * x := by
  have := sq_nn x
  have h2 : x * x ≠ 0 := fun e => h (by rcases Int.mul_eq_zero.1 e with h | h <;> exact h)
  omega
def on (s : Sd) (z : Pq) : Prop := atq s.1 s.2.1 z = (s.2.2 : Rat)
theorem crI_rat (s t : Sd) : ((crI s t : Int) : Rat) = (s.1 : Rat) * t.2.1 - (s.2.1 : Rat) * t.1 := by unfold crI; push_cast; rfl
theorem meet_uniq {s t : Sd} {z : Pq} (h : crI s t ≠ 0) (h1 : on s z) (h2 : on t z) : z = meetq s t := by
  have m := meet_on h
  have h0 := cast_ne h
  rw [crI_rat] at h0
  unfold on atq at *
  refine Prod.ext ?_ ?_
  · have : ((s.1 : Rat) * t.2.1 - (s.2.1 : Rat) * t.1) * (z.1 - (meetq s t).1) = 0 := by grind
    rcases Rat.mul_eq_zero.1 this with h | h
    · exact absurd h h0
    · grind
  · have : ((s.1 : Rat) * t.2.1 - (s.2.1 : Rat) * t.1) * (z.2 - (meetq s t).2) = 0 := by grind
    rcases Rat.mul_eq_zero.1 this with h | h
    · exact absurd h h0
    · grind
section
variable {l : List Sd}
def Ed (l : List Sd) (s t : Sd) : Prop := crI s t ≠ 0 ∧ inP l (meetq s t)
theorem Ed.sym {s t : Sd} (h : Ed l s t) : Ed l t s := ⟨by rw [crI_sym]; have := h.1; omega, by rw [meet_sym]; exact h.2⟩
/-- along a side -/
def al (s : Sd) (z : Pq) : Rat := (s.1 : Rat) * z.2 - (s.2.1 : Rat) * z.1
theorem al_inj {s : Sd} (hs : ¬ (s.1 = 0 ∧ s.2.1 = 0)) {z w : Pq} (h1 : on s z) (h2 : on s w) (h : al s z = al s w) : z = w := by
  unfold on al atq at *
  have hn : (s.1 : Rat) * s.1 + (s.2.1 : Rat) * s.2.1 ≠ 0 := by
    have h3 : 0 < s.1 * s.1 + s.2.1 * s.2.1 := by
      have a := sq_nn s.1
      have b := sq_nn s.2.1
      by_cases c : s.1 = 0
      · have d : s.2.1 ≠ 0 := fun d => hs ⟨c, d⟩
        have := sq_pos d
        omega
      · have := sq_pos c
        omega
    have := cast_ne (b := s.1 * s.1 + s.2.1 * s.2.1) (by omega)
    rw [Rat.intCast_add, Rat.intCast_mul, Rat.intCast_mul] at this
    exact this
  refine Prod.ext ?_ ?_
  · have : ((s.1 : Rat) * s.1 + (s.2.1 : Rat) * s.2.1) * (z.1 - w.1) = 0 := by grind
    rcases Rat.mul_eq_zero.1 this with h | h
    · exact absurd h hn
    · grind
  · have : ((s.1 : Rat) * s.1 + (s.2.1 : Rat) * s.2.1) * (z.2 - w.2) = 0 := by grind
    rcases Rat.mul_eq_zero.1 this with h | h
    · exact absurd h hn
    · grind
/-- what a side says grows or falls along another one -/
theorem al_step {s t : Sd} {z w : Pq} (h1 : on s z) (h2 : on s w) : ((s.1 : Rat) * s.1 + (s.2.1 : Rat) * s.2.1) * (atq t.1 t.2.1 z - atq t.1 t.2.1 w) = (crI s t : Rat) * (al s z - al s w) := by
  rw [crI_rat]
  unfold on al atq at *
  grind
/-- no corner on a side is between two other points of the plate on it -/
theorem no_mid {s t : Sd} (h : Ed l s t) (ht : t ∈ l) {p q : Pq} (hp : on s p) (hq : on s q) (ip : inP l p) (iq : inP l q) (h1 : al s p < al s (meetq s t)) (h2 : al s (meetq s t) < al s q) : False := by
  have m := meet_on h.1
  have a := al_step (t := t) hp m.1
  have b := al_step (t := t) hq m.1
  have kp := ip t ht
  have kq := iq t ht
  unfold lqs at kp kq
  have hn : 0 ≤ (s.1 : Rat) * s.1 + (s.2.1 : Rat) * s.2.1 := by
    have a := sq_nn s.1
    have b := sq_nn s.2.1
    have := castLe.2 (show (0 : Int) ≤ s.1 * s.1 + s.2.1 * s.2.1 by omega)
    rw [Rat.intCast_add, Rat.intCast_mul, Rat.intCast_mul] at this
    exact this
  have e1 := Rat.mul_nonneg hn (show 0 ≤ atq t.1 t.2.1 (meetq s t) - atq t.1 t.2.1 p by rw [m.2]; grind)
  have e2 := Rat.mul_nonneg hn (show 0 ≤ atq t.1 t.2.1 (meetq s t) - atq t.1 t.2.1 q by rw [m.2]; grind)
  have f1 : (crI s t : Rat) * (al s p - al s (meetq s t)) ≤ 0 := by grind
  have f2 : (crI s t : Rat) * (al s q - al s (meetq s t)) ≤ 0 := by grind
  by_cases hc : 0 < crI s t
  · have hc' : (0 : Rat) < (crI s t : Rat) := castLt.2 hc
    have := Rat.mul_pos hc' (show 0 < al s q - al s (meetq s t) by grind)
    grind
  · have hc' : (0 : Rat) < ((-crI s t : Int) : Rat) := castLt.2 (show (0 : Int) < -crI s t by have := h.1; omega)
    have := Rat.mul_pos hc' (show 0 < al s (meetq s t) - al s p by grind)
    rw [Rat.intCast_neg] at this
    grind
/-- of three corners on a side two are one -/
theorem two_of {s t u w : Sd} (hs : s ∈ l) (hp : ∀ s ∈ l, sideP s) (ht : t ∈ l) (hu : u ∈ l) (hw : w ∈ l) (h1 : Ed l s t) (h2 : Ed l s u) (h3 : Ed l s w) : meetq s t = meetq s u ∨ meetq s t = meetq s w ∨ meetq s u = meetq s w := by
  have hs0 : ¬ (s.1 = 0 ∧ s.2.1 = 0) := (hp s hs).2.2.1
  have m1 := (meet_on h1.1).1
  have m2 := (meet_on h2.1).1
  have m3 := (meet_on h3.1).1
  refine Classical.byContradiction fun hc => ?_
  have n1 : al s (meetq s t) ≠ al s (meetq s u) := fun e => hc (.inl (al_inj hs0 m1 m2 e))
  have n2 : al s (meetq s t) ≠ al s (meetq s w) := fun e => hc (.inr (.inl (al_inj hs0 m1 m3 e)))
  have n3 : al s (meetq s u) ≠ al s (meetq s w) := fun e => hc (.inr (.inr (al_inj hs0 m2 m3 e)))
  have k1 := fun p q hp hq ip iq => no_mid (p := p) (q := q) h1 ht hp hq ip iq
  have k2 := fun p q hp hq ip iq => no_mid (p := p) (q := q) h2 hu hp hq ip iq
  have k3 := fun p q hp hq ip iq => no_mid (p := p) (q := q) h3 hw hp hq ip iq
  have a1 := k1 _ _ m2 m3 h2.2 h3.2
  have a2 := k1 _ _ m3 m2 h3.2 h2.2
  have b1 := k2 _ _ m1 m3 h1.2 h3.2
  have b2 := k2 _ _ m3 m1 h3.2 h1.2
  have c1 := k3 _ _ m1 m2 h1.2 h2.2
  have c2 := k3 _ _ m2 m1 h2.2 h1.2
  clear k1 k2 k3
  generalize al s (meetq s t) = A at *
  generalize al s (meetq s u) = B at *
  generalize al s (meetq s w) = C at *
  grind
/-- two sides at one corner of a side, that meet a third side from another of its corners, go along -/
theorem no_two {u x x' y : Sd} (hp : ∀ s ∈ l, sideP s) (hu : u ∈ l) (hx : x ∈ l) (hx' : x' ∈ l) (hy : y ∈ l) (h1 : Ed l u x) (h2 : Ed l u x') (h3 : Ed l u y) (e : meetq u x = meetq u x') (ne : meetq u y ≠ meetq u x) (k1 : Ed l x y) (k2 : Ed l x' y) : ¬ Ed l x x' := by
  intro k
  have a1 := meet_on h1.1
  have a2 := meet_on h2.1
  have a3 := meet_on h3.1
  have b1 := meet_on k1.1
  have b2 := meet_on k2.1
  -- on y: the corner with u, with x, with x'
  have c1 : meetq y x ≠ meetq y u := fun q => by
    rw [meet_sym x y, meet_sym u y] at q
    exact ne (meet_uniq h1.1 a3.1 (by rw [← q]; exact b1.1))
  have c2 : meetq y x' ≠ meetq y u := fun q => by
    rw [meet_sym x' y, meet_sym u y] at q
    have := meet_uniq h2.1 a3.1 (by rw [← q]; exact b2.1)
    exact ne (by rw [this, e])
  rcases two_of hy hp hu hx hx' h3.sym k1.sym k2.sym with q | q | q
  · exact c1 q.symm
  · exact c2 q.symm
  · rw [meet_sym x y, meet_sym x' y] at q
    have d1 := meet_uniq k.1 b1.1 (by rw [q]; exact b2.1)
    have d2 := meet_uniq k.1 a1.2 (by rw [e]; exact a2.2)
    have d3 : meetq x y = meetq u x := by rw [d1, d2]
    have := meet_uniq h3.1 (by rw [← d3] at a1; exact a1.1) b1.2
    exact ne (by rw [← this, d3])
end
/-- of booleans alone -/
def T (s s' t a b c : Bool) : Bool := (s == s') && (s != t) && a && b && c
theorem bools : ∀ s2 s3 s4 s5 e12 e13 e14 e15 e23 e24 e25 e34 e35 e45 : Bool, 8 ≤ e12.toNat + e13.toNat + e14.toNat + e15.toNat + e23.toNat + e24.toNat + e25.toNat + e34.toNat + e35.toNat + e45.toNat → (T true s2 s3 e13 e23 e12 || T true s2 s4 e14 e24 e12 || T true s2 s5 e15 e25 e12 || T true s3 s2 e12 e23 e13 || T true s3 s4 e14 e34 e13 || T true s3 s5 e15 e35 e13 || T true s4 s2 e12 e24 e14 || T true s4 s3 e13 e34 e14 || T true s4 s5 e15 e45 e14 || T true s5 s2 e12 e25 e15 || T true s5 s3 e13 e35 e15 || T true s5 s4 e14 e45 e15 || T s2 s3 true e12 e13 e23 || T s2 s3 s4 e24 e34 e23 || T s2 s3 s5 e25 e35 e23 || T s2 s4 true e12 e14 e24 || T s2 s4 s3 e23 e34 e24 || T s2 s4 s5 e25 e45 e24 || T s2 s5 true e12 e15 e25 || T s2 s5 s3 e23 e35 e25 || T s2 s5 s4 e24 e45 e25 || T s3 s4 true e13 e14 e34 || T s3 s4 s2 e23 e24 e34 || T s3 s4 s5 e35 e45 e34 || T s3 s5 true e13 e15 e35 || T s3 s5 s2 e23 e25 e35 || T s3 s5 s4 e34 e45 e35 || T s4 s5 true e14 e15 e45 || T s4 s5 s2 e24 e25 e45 || T s4 s5 s3 e34 e35 e45) = false → (s2 && s3 && s4 && s5) = true := by decide +kernel
/-- one side meets all others -/
theorem bools6 : ∀ a1 a2 a3 a4 a5 b2 b3 b4 b5 c3 c4 c5 d4 d5 e5 : Bool, 13 ≤ a1.toNat + a2.toNat + a3.toNat + a4.toNat + a5.toNat + b2.toNat + b3.toNat + b4.toNat + b5.toNat + c3.toNat + c4.toNat + c5.toNat + d4.toNat + d5.toNat + e5.toNat →
    ((a1 && a2 && a3 && a4 && a5) || (a1 && b2 && b3 && b4 && b5) || (a2 && b2 && c3 && c4 && c5) || (a3 && b3 && c3 && d4 && d5) || (a4 && b4 && c4 && d4 && e5) || (a5 && b5 && c5 && d5 && e5)) = true := by decide +kernel
def ed (l : List Sd) (s t : Sd) : Bool := decide (crI s t ≠ 0 ∧ inP l (meetq s t))
theorem ed_iff {l : List Sd} {s t : Sd} : ed l s t = true ↔ Ed l s t := decide_eq_true_iff
theorem ed_symm (l : List Sd) (s t : Sd) : ed l s t = ed l t s := by
  refine Bool.eq_iff_iff.2 ?_
  rw [ed_iff, ed_iff]
  exact ⟨Ed.sym, Ed.sym⟩
section
variable {l : List Sd}
theorem colour (hp : ∀ s ∈ l, sideP s) {u x1 : Sd} (hu : u ∈ l) (h1 : x1 ∈ l) (E1 : Ed l u x1) {x x' y : Sd} (hx : x ∈ l) (hx' : x' ∈ l) (hy : y ∈ l) (ex : Ed l u x) (ex' : Ed l u x') (ey : Ed l u y) :
    T (decide (meetq u x = meetq u x1)) (decide (meetq u x' = meetq u x1)) (decide (meetq u y = meetq u x1)) (ed l x y) (ed l x' y) (ed l x x') = false := by
  refine Bool.eq_false_iff.2 fun h => ?_
  unfold T at h
  simp only [Bool.and_eq_true, beq_iff_eq, bne_iff_ne, ne_eq] at h
  obtain ⟨⟨⟨⟨a, b⟩, k1⟩, k2⟩, k3⟩ := h
  have hab : meetq u x = meetq u x' := by
    by_cases c : meetq u x = meetq u x1
    · have : meetq u x' = meetq u x1 := of_decide_eq_true (by rw [← a]; exact decide_eq_true c)
      rw [c, this]
    · have c' : ¬ meetq u x' = meetq u x1 := of_decide_eq_false (by rw [← a]; exact decide_eq_false c)
      rcases two_of hu hp hx hx' h1 ex ex' E1 with q | q | q
      · exact q
      · exact absurd q c
      · exact absurd q c'
  have hne : meetq u y ≠ meetq u x := fun q => b (by rw [q])
  exact no_two hp hu hx hx' hy ex ex' ey hab hne (ed_iff.1 k1) (ed_iff.1 k2) (ed_iff.1 k3)
theorem one_pt (hp : ∀ s ∈ l, sideP s) {u x1 x2 x3 x4 x5 : Sd} (hu : u ∈ l) (h1 : x1 ∈ l) (h2 : x2 ∈ l) (h3 : x3 ∈ l) (h4 : x4 ∈ l) (h5 : x5 ∈ l) (E1 : Ed l u x1) (E2 : Ed l u x2) (E3 : Ed l u x3) (E4 : Ed l u x4) (E5 : Ed l u x5)
    (hc : 8 ≤ (ed l x1 x2).toNat + (ed l x1 x3).toNat + (ed l x1 x4).toNat + (ed l x1 x5).toNat + (ed l x2 x3).toNat + (ed l x2 x4).toNat + (ed l x2 x5).toNat + (ed l x3 x4).toNat + (ed l x3 x5).toNat + (ed l x4 x5).toNat) : ∀ x ∈ [u, x1, x2, x3, x4, x5], on x (meetq u x1) := by
  have key := bools (decide (meetq u x2 = meetq u x1)) (decide (meetq u x3 = meetq u x1)) (decide (meetq u x4 = meetq u x1)) (decide (meetq u x5 = meetq u x1)) (ed l x1 x2) (ed l x1 x3) (ed l x1 x4) (ed l x1 x5) (ed l x2 x3) (ed l x2 x4) (ed l x2 x5) (ed l x3 x4) (ed l x3 x5) (ed l x4 x5) hc ?_
  · simp only [Bool.and_eq_true, decide_eq_true_iff] at key
    obtain ⟨⟨⟨k2, k3⟩, k4⟩, k5⟩ := key
    intro x hx
    simp only [List.mem_cons, List.not_mem_nil, or_false] at hx
    rcases hx with rfl | rfl | rfl | rfl | rfl | rfl
    · exact (meet_on E1.1).1
    · exact (meet_on E1.1).2
    · rw [← k2]; exact (meet_on E2.1).2
    · rw [← k3]; exact (meet_on E3.1).2
    · rw [← k4]; exact (meet_on E4.1).2
    · rw [← k5]; exact (meet_on E5.1).2
  · have z : true = decide (meetq u x1 = meetq u x1) := (decide_eq_true rfl).symm
    have t123 : T true (decide (meetq u x2 = meetq u x1)) (decide (meetq u x3 = meetq u x1)) (ed l x1 x3) (ed l x2 x3) (ed l x1 x2) = false := by
      have f := colour hp hu h1 E1 h1 h2 h3 E1 E2 E3
      rw [← z] at f
      exact f
    have t124 : T true (decide (meetq u x2 = meetq u x1)) (decide (meetq u x4 = meetq u x1)) (ed l x1 x4) (ed l x2 x4) (ed l x1 x2) = false := by
      have f := colour hp hu h1 E1 h1 h2 h4 E1 E2 E4
      rw [← z] at f
      exact f
    have t125 : T true (decide (meetq u x2 = meetq u x1)) (decide (meetq u x5 = meetq u x1)) (ed l x1 x5) (ed l x2 x5) (ed l x1 x2) = false := by
      have f := colour hp hu h1 E1 h1 h2 h5 E1 E2 E5
      rw [← z] at f
      exact f
    have t132 : T true (decide (meetq u x3 = meetq u x1)) (decide (meetq u x2 = meetq u x1)) (ed l x1 x2) (ed l x2 x3) (ed l x1 x3) = false := by
      have f := colour hp hu h1 E1 h1 h3 h2 E1 E3 E2
      rw [← z, ed_symm l x3 x2] at f
      exact f
    have t134 : T true (decide (meetq u x3 = meetq u x1)) (decide (meetq u x4 = meetq u x1)) (ed l x1 x4) (ed l x3 x4) (ed l x1 x3) = false := by
      have f := colour hp hu h1 E1 h1 h3 h4 E1 E3 E4
      rw [← z] at f
      exact f
    have t135 : T true (decide (meetq u x3 = meetq u x1)) (decide (meetq u x5 = meetq u x1)) (ed l x1 x5) (ed l x3 x5) (ed l x1 x3) = false := by
      have f := colour hp hu h1 E1 h1 h3 h5 E1 E3 E5
      rw [← z] at f
      exact f
    have t142 : T true (decide (meetq u x4 = meetq u x1)) (decide (meetq u x2 = meetq u x1)) (ed l x1 x2) (ed l x2 x4) (ed l x1 x4) = false := by
      have f := colour hp hu h1 E1 h1 h4 h2 E1 E4 E2
      rw [← z, ed_symm l x4 x2] at f
      exact f
    have t143 : T true (decide (meetq u x4 = meetq u x1)) (decide (meetq u x3 = meetq u x1)) (ed l x1 x3) (ed l x3 x4) (ed l x1 x4) = false := by
      have f := colour hp hu h1 E1 h1 h4 h3 E1 E4 E3
      rw [← z, ed_symm l x4 x3] at f
      exact f
    have t145 : T true (decide (meetq u x4 = meetq u x1)) (decide (meetq u x5 = meetq u x1)) (ed l x1 x5) (ed l x4 x5) (ed l x1 x4) = false := by
      have f := colour hp hu h1 E1 h1 h4 h5 E1 E4 E5
      rw [← z] at f
      exact f
    have t152 : T true (decide (meetq u x5 = meetq u x1)) (decide (meetq u x2 = meetq u x1)) (ed l x1 x2) (ed l x2 x5) (ed l x1 x5) = false := by
      have f := colour hp hu h1 E1 h1 h5 h2 E1 E5 E2
      rw [← z, ed_symm l x5 x2] at f
      exact f
    have t153 : T true (decide (meetq u x5 = meetq u x1)) (decide (meetq u x3 = meetq u x1)) (ed l x1 x3) (ed l x3 x5) (ed l x1 x5) = false := by
      have f := colour hp hu h1 E1 h1 h5 h3 E1 E5 E3
      rw [← z, ed_symm l x5 x3] at f
      exact f
    have t154 : T true (decide (meetq u x5 = meetq u x1)) (decide (meetq u x4 = meetq u x1)) (ed l x1 x4) (ed l x4 x5) (ed l x1 x5) = false := by
      have f := colour hp hu h1 E1 h1 h5 h4 E1 E5 E4
      rw [← z, ed_symm l x5 x4] at f
      exact f
    have t231 : T (decide (meetq u x2 = meetq u x1)) (decide (meetq u x3 = meetq u x1)) true (ed l x1 x2) (ed l x1 x3) (ed l x2 x3) = false := by
      have f := colour hp hu h1 E1 h2 h3 h1 E2 E3 E1
      rw [← z, ed_symm l x2 x1, ed_symm l x3 x1] at f
      exact f
    have t234 : T (decide (meetq u x2 = meetq u x1)) (decide (meetq u x3 = meetq u x1)) (decide (meetq u x4 = meetq u x1)) (ed l x2 x4) (ed l x3 x4) (ed l x2 x3) = false := by
      have f := colour hp hu h1 E1 h2 h3 h4 E2 E3 E4
      exact f
    have t235 : T (decide (meetq u x2 = meetq u x1)) (decide (meetq u x3 = meetq u x1)) (decide (meetq u x5 = meetq u x1)) (ed l x2 x5) (ed l x3 x5) (ed l x2 x3) = false := by
      have f := colour hp hu h1 E1 h2 h3 h5 E2 E3 E5
      exact f
    have t241 : T (decide (meetq u x2 = meetq u x1)) (decide (meetq u x4 = meetq u x1)) true (ed l x1 x2) (ed l x1 x4) (ed l x2 x4) = false := by
      have f := colour hp hu h1 E1 h2 h4 h1 E2 E4 E1
      rw [← z, ed_symm l x2 x1, ed_symm l x4 x1] at f
      exact f
    have t243 : T (decide (meetq u x2 = meetq u x1)) (decide (meetq u x4 = meetq u x1)) (decide (meetq u x3 = meetq u x1)) (ed l x2 x3) (ed l x3 x4) (ed l x2 x4) = false := by
      have f := colour hp hu h1 E1 h2 h4 h3 E2 E4 E3
      rw [ed_symm l x4 x3] at f
      exact f
    have t245 : T (decide (meetq u x2 = meetq u x1)) (decide (meetq u x4 = meetq u x1)) (decide (meetq u x5 = meetq u x1)) (ed l x2 x5) (ed l x4 x5) (ed l x2 x4) = false := by
      have f := colour hp hu h1 E1 h2 h4 h5 E2 E4 E5
      exact f
    have t251 : T (decide (meetq u x2 = meetq u x1)) (decide (meetq u x5 = meetq u x1)) true (ed l x1 x2) (ed l x1 x5) (ed l x2 x5) = false := by
      have f := colour hp hu h1 E1 h2 h5 h1 E2 E5 E1
      rw [← z, ed_symm l x2 x1, ed_symm l x5 x1] at f
      exact f
    have t253 : T (decide (meetq u x2 = meetq u x1)) (decide (meetq u x5 = meetq u x1)) (decide (meetq u x3 = meetq u x1)) (ed l x2 x3) (ed l x3 x5) (ed l x2 x5) = false := by
      have f := colour hp hu h1 E1 h2 h5 h3 E2 E5 E3
      rw [ed_symm l x5 x3] at f
      exact f
    have t254 : T (decide (meetq u x2 = meetq u x1)) (decide (meetq u x5 = meetq u x1)) (decide (meetq u x4 = meetq u x1)) (ed l x2 x4) (ed l x4 x5) (ed l x2 x5) = false := by
      have f := colour hp hu h1 E1 h2 h5 h4 E2 E5 E4
      rw [ed_symm l x5 x4] at f
      exact f
    have t341 : T (decide (meetq u x3 = meetq u x1)) (decide (meetq u x4 = meetq u x1)) true (ed l x1 x3) (ed l x1 x4) (ed l x3 x4) = false := by
      have f := colour hp hu h1 E1 h3 h4 h1 E3 E4 E1
      rw [← z, ed_symm l x3 x1, ed_symm l x4 x1] at f
      exact f
    have t342 : T (decide (meetq u x3 = meetq u x1)) (decide (meetq u x4 = meetq u x1)) (decide (meetq u x2 = meetq u x1)) (ed l x2 x3) (ed l x2 x4) (ed l x3 x4) = false := by
      have f := colour hp hu h1 E1 h3 h4 h2 E3 E4 E2
      rw [ed_symm l x3 x2, ed_symm l x4 x2] at f
      exact f
    have t345 : T (decide (meetq u x3 = meetq u x1)) (decide (meetq u x4 = meetq u x1)) (decide (meetq u x5 = meetq u x1)) (ed l x3 x5) (ed l x4 x5) (ed l x3 x4) = false := by
      have f := colour hp hu h1 E1 h3 h4 h5 E3 E4 E5
      exact f
    have t351 : T (decide (meetq u x3 = meetq u x1)) (decide (meetq u x5 = meetq u x1)) true (ed l x1 x3) (ed l x1 x5) (ed l x3 x5) = false := by
      have f := colour hp hu h1 E1 h3 h5 h1 E3 E5 E1
      rw [← z, ed_symm l x3 x1, ed_symm l x5 x1] at f
      exact f
    have t352 : T (decide (meetq u x3 = meetq u x1)) (decide (meetq u x5 = meetq u x1)) (decide (meetq u x2 = meetq u x1)) (ed l x2 x3) (ed l x2 x5) (ed l x3 x5) = false := by
      have f := colour hp hu h1 E1 h3 h5 h2 E3 E5 E2
      rw [ed_symm l x3 x2, ed_symm l x5 x2] at f
      exact f
    have t354 : T (decide (meetq u x3 = meetq u x1)) (decide (meetq u x5 = meetq u x1)) (decide (meetq u x4 = meetq u x1)) (ed l x3 x4) (ed l x4 x5) (ed l x3 x5) = false := by
      have f := colour hp hu h1 E1 h3 h5 h4 E3 E5 E4
      rw [ed_symm l x5 x4] at f
      exact f
    have t451 : T (decide (meetq u x4 = meetq u x1)) (decide (meetq u x5 = meetq u x1)) true (ed l x1 x4) (ed l x1 x5) (ed l x4 x5) = false := by
      have f := colour hp hu h1 E1 h4 h5 h1 E4 E5 E1
      rw [← z, ed_symm l x4 x1, ed_symm l x5 x1] at f
      exact f
    have t452 : T (decide (meetq u x4 = meetq u x1)) (decide (meetq u x5 = meetq u x1)) (decide (meetq u x2 = meetq u x1)) (ed l x2 x4) (ed l x2 x5) (ed l x4 x5) = false := by
      have f := colour hp hu h1 E1 h4 h5 h2 E4 E5 E2
      rw [ed_symm l x4 x2, ed_symm l x5 x2] at f
      exact f
    have t453 : T (decide (meetq u x4 = meetq u x1)) (decide (meetq u x5 = meetq u x1)) (decide (meetq u x3 = meetq u x1)) (ed l x3 x4) (ed l x3 x5) (ed l x4 x5) = false := by
      have f := colour hp hu h1 E1 h4 h5 h3 E4 E5 E3
      rw [ed_symm l x4 x3, ed_symm l x5 x3] at f
      exact f
    rw [t123, t124, t125, t132, t134, t135, t142, t143, t145, t152, t153, t154, t231, t234, t235, t241, t243, t245, t251, t253, t254, t341, t342, t345, t351, t352, t354, t451, t452, t453]
    rfl
end
end Go.Lt.P2

namespace Go.Lt.P2
open Go Go.Lt Go.Proofs
/-- the corners as the reference makes them -/
def rcs (q : List Cn) : List Pq := q.foldl (fun acc c => wth c.1 acc) []
theorem rcs_srt (q : List Cn) : (rcs q).Pairwise ptlt := by
  unfold rcs
  have key : ∀ (q : List Cn) (acc : List Pq), acc.Pairwise ptlt → (q.foldl (fun acc c => wth c.1 acc) acc).Pairwise ptlt := by
    intro q
    induction q with
    | nil => intro acc h; exact h
    | cons c q ih => intro acc h; exact ih _ (wth_srt h)
  exact key q [] .nil
theorem mem_rcs {q : List Cn} {p : Pq} : p ∈ rcs q ↔ ∃ c ∈ q, c.1 = p := by
  unfold rcs
  have key : ∀ (q : List Cn) (acc : List Pq), p ∈ q.foldl (fun acc c => wth c.1 acc) acc ↔ p ∈ acc ∨ ∃ c ∈ q, c.1 = p := by
    intro q
    induction q with
    | nil => intro acc; simp
    | cons c q ih =>
      intro acc
      rw [List.foldl_cons, ih, mem_wth]
      constructor
      · rintro ((rfl | h) | ⟨d, hd, h⟩)
        · exact .inr ⟨c, .head _, rfl⟩
        · exact .inl h
        · exact .inr ⟨d, .tail _ hd, h⟩
      · rintro (h | ⟨d, hd, h⟩)
        · exact .inl (.inr h)
        · rcases List.mem_cons.1 hd with rfl | hd
          · exact .inl (.inl h.symm)
          · exact .inr ⟨d, hd, h⟩
  rw [key]
  simp
theorem wth_len {p : Pq} : ∀ {l : List Pq}, (wth p l).length ≤ l.length + 1
  | [] => by simp [wth]
  | q :: l => by
    rw [wth]
    have := wth_len (p := p) (l := l)
    split
    · simp only [List.length_cons]; omega
    · split
      · simp
      · simp
theorem rcs_len (q : List Cn) : (rcs q).length ≤ q.length := by
  unfold rcs
  have key : ∀ (q : List Cn) (acc : List Pq), (q.foldl (fun acc c => wth c.1 acc) acc).length ≤ acc.length + q.length := by
    intro q
    induction q with
    | nil => intro acc; simp
    | cons c q ih =>
      intro acc
      rw [List.foldl_cons, List.length_cons]
      have := ih (wth c.1 acc)
      have := wth_len (p := c.1) (l := acc)
      omega
  have := key q []
  simpa using this
theorem rcs_snoc (q : List Cn) (c : Cn) : rcs (q ++ [c]) = wth c.1 (rcs q) := by unfold rcs; rw [List.foldl_append]; rfl
theorem cno_len (l : List Sd) (i : Nat) : (cno l i).length ≤ i := by
  unfold cno
  exact Nat.le_trans (List.length_filterMap_le _ _) (by rw [List.length_take]; omega)
theorem flatm_len {β : Type} {f : Nat → List β} {k : Nat} : ∀ {l : List Nat}, (∀ x ∈ l, (f x).length ≤ k) → (l.flatMap f).length ≤ l.length * k
  | [], _ => by simp
  | x :: l, h => by
    rw [List.flatMap_cons, List.length_append, List.length_cons, Nat.add_mul, Nat.one_mul]
    have a := h x (.head _)
    have b := flatm_len (l := l) fun y hy => h y (.tail _ hy)
    omega
theorem lqs_dv {u : Sd} {x y d : Int} (hd : 0 < d) : lqs u (dv x d, dv y d) ↔ u.1 * x + u.2.1 * y ≤ u.2.2 * d := by
  have h0 := cast_pos hd
  have e : atq u.1 u.2.1 (dv x d, dv y d) = dv (u.1 * x + u.2.1 * y) d := by
    unfold atq dv
    push_cast
    grind
  unfold lqs
  rw [e, ← dv_int, dv_le_iff hd (by decide), Int.mul_one]
theorem rcs_qp {l : List Sd} {q : List Cn} (hs : ∀ s ∈ l, sideP s) (h : ∀ c ∈ q, c ∈ cs l) : ∀ p ∈ rcs q, qp p := fun p hp => by
  obtain ⟨c, hc, rfl⟩ := mem_rcs.1 hp
  have k := cs_mem (h c hc)
  rw [k.2.2.2.1]
  exact meet_qp (hs _ k.1) (hs _ k.2.1) k.2.2.1
theorem cs_len {l : List Sd} (hb : l.length ≤ 1000) : (cs l).length ≤ 1000000 := by
  unfold cs
  have := flatm_len (f := cno l) (l := List.range l.length) (k := l.length) fun i hi => Nat.le_trans (cno_len l i) (by rw [List.mem_range] at hi; omega)
  rw [List.length_range] at this
  have h2 := Nat.mul_le_mul hb hb
  omega
theorem pre_cs {l : List Sd} {i : Nat} (h : i < l.length) : (List.range i).flatMap (cno l) ++ cno l i <+: cs l := by
  rw [← range_succ_flatMap]
  unfold cs
  have : l.length = (i + 1) + (l.length - (i + 1)) := by omega
  rw [this, List.range_add (n := i + 1), List.flatMap_append]
  exact List.prefix_append _ _
end Go.Lt.P2

namespace Go.Lt.P2
open Go Go.Lt Go.Proofs
theorem fm_len (l : List Sd) (s x : Sd) (xs : List Sd) : ((x :: xs).filterMap (cn l s)).length = (ed l s x).toNat + (xs.filterMap (cn l s)).length := by
  rw [List.filterMap_cons]
  unfold ed cn
  split
  · rename_i h
    split at h
    · cases h
    · rename_i hc
      rw [decide_eq_false hc]; simp
  · rename_i h
    split at h
    · rename_i hc
      rw [decide_eq_true hc, List.length_cons]; simp; omega
    · cases h
def tri : Nat → Nat
  | 0 => 0
  | n + 1 => tri n + n
theorem cs_tri (l : List Sd) : ∀ n, ((List.range n).flatMap (cno l)).length ≤ tri n
  | 0 => by simp
  | n + 1 => by
    rw [range_succ_flatMap, List.length_append]
    have := cs_tri l n
    have := cno_len l n
    show _ ≤ tri n + n
    omega
theorem cs_all {l : List Sd} {P : Pq} (h : ∀ x ∈ l, on x P) : ∀ c ∈ cs l, c.1 = P := fun c hc => by
  have m := cs_mem hc
  rw [m.2.2.2.1]
  exact (meet_uniq m.2.2.1 (h _ m.1) (h _ m.2.1)).symm
/-- more than twelve pairs: all at one point -/
theorem cs_big {l : List Sd} (hp : ∀ s ∈ l, sideP s) (h6 : l.length ≤ 6) (hn : 12 < (cs l).length) : ∃ P, ∀ c ∈ cs l, c.1 = P := by
  have ht := cs_tri l l.length
  have hcs : (cs l).length ≤ tri l.length := ht
  by_cases hl : l.length ≤ 5
  · have : tri l.length ≤ 10 := by
      rcases (show l.length = 0 ∨ l.length = 1 ∨ l.length = 2 ∨ l.length = 3 ∨ l.length = 4 ∨ l.length = 5 by omega) with h | h | h | h | h | h <;> rw [h] <;> decide
    omega
  have hl : l.length = 6 := by omega
  obtain ⟨a, b, c, d, e, f, rfl⟩ : ∃ a b c d e f, l = [a, b, c, d, e, f] := by
    match l, hl with
    | [a, b, c, d, e, f], _ => exact ⟨a, b, c, d, e, f, rfl⟩
  generalize hL : [a, b, c, d, e, f] = L at *
  have l1 : (cno L 1).length = (ed L a b).toNat := by
    rw [← hL]
    show ([a].filterMap (cn [a, b, c, d, e, f] b)).length = _
    simp only [fm_len, List.filterMap_nil, List.length_nil, Nat.add_zero, ed_symm [a, b, c, d, e, f] b]
    try omega
  have l2 : (cno L 2).length = (ed L a c).toNat + (ed L b c).toNat := by
    rw [← hL]
    show ([a, b].filterMap (cn [a, b, c, d, e, f] c)).length = _
    simp only [fm_len, List.filterMap_nil, List.length_nil, Nat.add_zero, ed_symm [a, b, c, d, e, f] c]
    try omega
  have l3 : (cno L 3).length = (ed L a d).toNat + (ed L b d).toNat + (ed L c d).toNat := by
    rw [← hL]
    show ([a, b, c].filterMap (cn [a, b, c, d, e, f] d)).length = _
    simp only [fm_len, List.filterMap_nil, List.length_nil, Nat.add_zero, ed_symm [a, b, c, d, e, f] d]
    try omega
  have l4 : (cno L 4).length = (ed L a e).toNat + (ed L b e).toNat + (ed L c e).toNat + (ed L d e).toNat := by
    rw [← hL]
    show ([a, b, c, d].filterMap (cn [a, b, c, d, e, f] e)).length = _
    simp only [fm_len, List.filterMap_nil, List.length_nil, Nat.add_zero, ed_symm [a, b, c, d, e, f] e]
    try omega
  have l5 : (cno L 5).length = (ed L a f).toNat + (ed L b f).toNat + (ed L c f).toNat + (ed L d f).toNat + (ed L e f).toNat := by
    rw [← hL]
    show ([a, b, c, d, e].filterMap (cn [a, b, c, d, e, f] f)).length = _
    simp only [fm_len, List.filterMap_nil, List.length_nil, Nat.add_zero, ed_symm [a, b, c, d, e, f] f]
    try omega
  have hsum : (cs L).length = (cno L 0).length + ((cno L 1).length + ((cno L 2).length + ((cno L 3).length + ((cno L 4).length + (cno L 5).length)))) := by
    unfold cs
    rw [hl, show List.range 6 = [0, 1, 2, 3, 4, 5] from rfl]
    simp only [List.flatMap_cons, List.flatMap_nil, List.length_append, List.length_nil, Nat.add_zero]
  have l0 : (cno L 0).length = 0 := by
    have := cno_len L 0; omega
  have m0 : a ∈ L := by rw [← hL]; simp
  have m1 : b ∈ L := by rw [← hL]; simp
  have m2 : c ∈ L := by rw [← hL]; simp
  have m3 : d ∈ L := by rw [← hL]; simp
  have m4 : e ∈ L := by rw [← hL]; simp
  have m5 : f ∈ L := by rw [← hL]; simp
  have q01 := Bool.toNat_le (ed L a b)
  have q02 := Bool.toNat_le (ed L a c)
  have q03 := Bool.toNat_le (ed L a d)
  have q04 := Bool.toNat_le (ed L a e)
  have q05 := Bool.toNat_le (ed L a f)
  have q12 := Bool.toNat_le (ed L b c)
  have q13 := Bool.toNat_le (ed L b d)
  have q14 := Bool.toNat_le (ed L b e)
  have q15 := Bool.toNat_le (ed L b f)
  have q23 := Bool.toNat_le (ed L c d)
  have q24 := Bool.toNat_le (ed L c e)
  have q25 := Bool.toNat_le (ed L c f)
  have q34 := Bool.toNat_le (ed L d e)
  have q35 := Bool.toNat_le (ed L d f)
  have q45 := Bool.toNat_le (ed L e f)
  have key := bools6 (ed L a b) (ed L a c) (ed L a d) (ed L a e) (ed L a f) (ed L b c) (ed L b d) (ed L b e) (ed L b f) (ed L c d) (ed L c e) (ed L c f) (ed L d e) (ed L d f) (ed L e f) (by omega)
  simp only [Bool.or_eq_true, Bool.and_eq_true, ed_iff] at key
  rcases key with (((((⟨⟨⟨⟨k1, k2⟩, k3⟩, k4⟩, k5⟩ | ⟨⟨⟨⟨k1, k2⟩, k3⟩, k4⟩, k5⟩) | ⟨⟨⟨⟨k1, k2⟩, k3⟩, k4⟩, k5⟩) | ⟨⟨⟨⟨k1, k2⟩, k3⟩, k4⟩, k5⟩) | ⟨⟨⟨⟨k1, k2⟩, k3⟩, k4⟩, k5⟩) | ⟨⟨⟨⟨k1, k2⟩, k3⟩, k4⟩, k5⟩)
  · have h := one_pt (x1 := b) (x2 := c) (x3 := d) (x4 := e) (x5 := f) hp m0 m1 m2 m3 m4 m5 k1 k2 k3 k4 k5 (by omega)
    exact ⟨_, cs_all fun x hx => h x (by rw [← hL] at hx; simp only [List.mem_cons, List.not_mem_nil, or_false] at hx ⊢; rcases hx with rfl | rfl | rfl | rfl | rfl | rfl <;> simp)⟩
  · have h := one_pt (x1 := a) (x2 := c) (x3 := d) (x4 := e) (x5 := f) hp m1 m0 m2 m3 m4 m5 k1.sym k2 k3 k4 k5 (by omega)
    exact ⟨_, cs_all fun x hx => h x (by rw [← hL] at hx; simp only [List.mem_cons, List.not_mem_nil, or_false] at hx ⊢; rcases hx with rfl | rfl | rfl | rfl | rfl | rfl <;> simp)⟩
  · have h := one_pt (x1 := a) (x2 := b) (x3 := d) (x4 := e) (x5 := f) hp m2 m0 m1 m3 m4 m5 k1.sym k2.sym k3 k4 k5 (by omega)
    exact ⟨_, cs_all fun x hx => h x (by rw [← hL] at hx; simp only [List.mem_cons, List.not_mem_nil, or_false] at hx ⊢; rcases hx with rfl | rfl | rfl | rfl | rfl | rfl <;> simp)⟩
  · have h := one_pt (x1 := a) (x2 := b) (x3 := c) (x4 := e) (x5 := f) hp m3 m0 m1 m2 m4 m5 k1.sym k2.sym k3.sym k4 k5 (by omega)
    exact ⟨_, cs_all fun x hx => h x (by rw [← hL] at hx; simp only [List.mem_cons, List.not_mem_nil, or_false] at hx ⊢; rcases hx with rfl | rfl | rfl | rfl | rfl | rfl <;> simp)⟩
  · have h := one_pt (x1 := a) (x2 := b) (x3 := c) (x4 := d) (x5 := f) hp m4 m0 m1 m2 m3 m5 k1.sym k2.sym k3.sym k4.sym k5 (by omega)
    exact ⟨_, cs_all fun x hx => h x (by rw [← hL] at hx; simp only [List.mem_cons, List.not_mem_nil, or_false] at hx ⊢; rcases hx with rfl | rfl | rfl | rfl | rfl | rfl <;> simp)⟩
  · have h := one_pt (x1 := a) (x2 := b) (x3 := c) (x4 := d) (x5 := e) hp m5 m0 m1 m2 m3 m4 k1.sym k2.sym k3.sym k4.sym k5.sym (by omega)
    exact ⟨_, cs_all fun x hx => h x (by rw [← hL] at hx; simp only [List.mem_cons, List.not_mem_nil, or_false] at hx ⊢; rcases hx with rfl | rfl | rfl | rfl | rfl | rfl <;> simp)⟩
end Go.Lt.P2

namespace Go.Lt.P2
open Go Go.Lt Go.Proofs
def inB (s : Sd) : Prop := (-4 ≤ s.1 ∧ s.1 ≤ 4) ∧ (-4 ≤ s.2.1 ∧ s.2.1 ≤ 4) ∧ (-40 ≤ s.2.2 ∧ s.2.2 ≤ 40)
instance (s : Sd) : Decidable (inB s) := by unfold inB; infer_instance
theorem tail63 {k c : Nat} {s : Sd} {E : Hp} {Q : Bool → Hp → Prop} {F : Bool → Hp → Option (Bool × Hp)} (hc : E.get c = some (.cells [.int .i64 s.1, .int .i64 s.2.1, .int .i64 s.2.2] false)) (kF : ∀ H' b, Gr E H' → b = !decide (inB s) → Ok (F b H') Q) :
    Ok ((r79 (appA (k + 1)) 4 ⟨false, E.n, 0, 2, 2, 0⟩ (E.push (.cells [.int .i64 s.1, .int .i64 s.2.1] false))).bind fun p => if p.1 = true then ((p.2.ldI .i64 c (0 + 2)).bind fun x => (r79 (appA (k + 1)) 40 ⟨false, p.2.n, 0, 1, 1, 0⟩ (p.2.push (.cells [.int .i64 x] false))).bind fun q => F (!q.1) q.2) else F true p.2) Q := by
  have gp := Gr.push E (.cells [.int .i64 s.1, .int .i64 s.2.1] false)
  have hs : SL (T := Int) (E.push (.cells [.int .i64 s.1, .int .i64 s.2.1] false)) ⟨false, E.n, 0, 2, 2, 0⟩ [s.1, s.2.1] := .of_get (ro := false) (Hp.get_push_new _ _) rfl rfl (Nat.le_refl _) (.inl rfl) rfl
  generalize E.push (.cells [.int .i64 s.1, .int .i64 s.2.1] false) = A at *
  refine Ok.bind (r79_ok (by omega) hs (by simp)) fun r B ⟨gB, hr⟩ => ?_
  subst hr
  by_cases h1 : ∃ x ∈ [s.1, s.2.1], x < -4 ∨ 4 < x
  · rw [decide_eq_true h1]
    refine Ok.neg (by simp) (kF _ _ (gp.trans gB) ?_)
    symm
    rw [decide_eq_false]
    · rfl
    · intro hb
      obtain ⟨x, hx, h2⟩ := h1
      unfold inB at hb
      simp only [List.mem_cons, List.not_mem_nil, or_false] at hx
      rcases hx with rfl | rfl <;> omega
  · rw [decide_eq_false h1]
    have g2 := gp.trans gB
    have hcB : B.get c = some (.cells [.int .i64 s.1, .int .i64 s.2.1, .int .i64 s.2.2] false) := by rw [g2.2 _ (Hp.get_lt hc)]; exact hc
    refine Ok.pos (by simp) (Ok.ld (ldI_get hcB rfl) ?_)
    have gq := Gr.push B (.cells [.int .i64 s.2.2] false)
    have hs2 : SL (T := Int) (B.push (.cells [.int .i64 s.2.2] false)) ⟨false, B.n, 0, 1, 1, 0⟩ [s.2.2] := .of_get (ro := false) (Hp.get_push_new _ _) rfl rfl (Nat.le_refl _) (.inl rfl) rfl
    refine Ok.bind (r79_ok (k := k) (c := 40) (by omega) hs2 (by simp)) fun r C ⟨gC, hr⟩ => ?_
    subst hr
    refine kF _ _ (g2.trans (gq.trans gC)) ?_
    congr 1
    refine Bool.eq_iff_iff.2 ?_
    rw [Bool.not_eq_true', decide_eq_false_iff_not, decide_eq_true_iff]
    unfold inB
    have q1 : ¬ (s.1 < -4 ∨ 4 < s.1) := fun q => h1 ⟨s.1, by simp, q⟩
    have q2 : ¬ (s.2.1 < -4 ∨ 4 < s.2.1) := fun q => h1 ⟨s.2.1, by simp, q⟩
    constructor
    · intro q
      have : ¬ (s.2.2 < -40 ∨ 40 < s.2.2) := fun w => q ⟨s.2.2, by simp, w⟩
      omega
    · rintro q ⟨x, hx, h2⟩
      rw [List.mem_singleton] at hx
      subst hx
      omega
theorem side_in {s : Sd} : sideP s ↔ ¬ (s.1 = 0 ∧ s.2.1 = 0) ∧ inB s := by
  unfold sideP inB
  constructor
  · intro h; exact ⟨h.2.2.1, h.1, h.2.1, h.2.2.2⟩
  · intro h; exact ⟨h.2.1, h.2.2.1, h.1, h.2.2.2⟩
/-- the directions -/
theorem r63_l3_ok {k : Nat} {H0' H : Hp} {v : Sl} {l : List Sd} (hv : SL H v l) (hb : l.length ≤ 6) (hs : ∀ s ∈ l, sideP s) (g : Gr H0' H) : Ok (r63_l3 (appA (k + 1)) FUEL v v l.length 0 H) fun r H' => Gr H0' H' ∧ r = decide (∀ s ∈ l, dirP l (-s.2.1, s.1) ∧ dirP l (s.2.1, -s.1)) := by
  have hlen := hv.len
  refine Ok.loop (L := fun K (s : Int) H2 => r63_l3 (appA (k + 1)) K v v l.length s H2) (fun m s H' => Gr H H' ∧ ∃ i : Nat, s = i ∧ i + m = l.length ∧ ∀ s ∈ l.take i, dirP l (-s.2.1, s.1) ∧ dirP l (s.2.1, -s.1)) ?_ FUEL l.length 0 H (by unfold FUEL; omega) ⟨.refl _, 0, rfl, by omega, by simp⟩
  rintro K m s H1 ⟨g1, i, rfl, hm, ht⟩ ih
  try dsimp only at *
  rw [r63_l3]
  by_cases h : i < l.length
  · have hg := hv.gr g1
    have hmem : l[i] ∈ l := List.getElem_mem h
    have hsd := hs _ hmem
    unfold sideP at hsd
    obtain ⟨E, hE, hE', gE, nE⟩ := sts3 H1 (.int .i64 l[i].1) (.int .i64 l[i].2.1) (.int .i64 l[i].2.2) (.int .i64 0) (.int .i64 0) (.int .i64 0)
    refine Ok.pos (by omega) (Ok.ck (by omega) (Ok.ld (hg.ldI (i := i) (j := 0) h rfl) (Ok.ld (hg.ldI (i := i) (j := 1) h rfl) (Ok.ld (hg.ldI (i := i) (j := 2) h rfl) (Ok.ld hE (Ok.ld (ldI_get hE' rfl) (Ok.ld (ldI_get hE' rfl) (Ok.ld (ldI_get hE' rfl) (Ok.ld (ldI_get hE' rfl) (Ok.lt ?_))))))))))
    have e1 : w64 (0 - l[i].2.1) = -l[i].2.1 := by rw [w64_id (by omega) (by omega)]; omega
    have e2 : w64 (0 - l[i].1) = -l[i].1 := by rw [w64_id (by omega) (by omega)]; omega
    rw [e1, e2]
    have gq := Gr.push E (.cells [.int .i64 (-l[i].2.1), .int .i64 l[i].1, .int .i64 l[i].2.1, .int .i64 (-l[i].1)] false)
    have hds : SL (T := Pr) (E.push (.cells [.int .i64 (-l[i].2.1), .int .i64 l[i].1, .int .i64 l[i].2.1, .int .i64 (-l[i].1)] false)) ⟨false, E.n, 0, 2, 2, 0⟩ [(-l[i].2.1, l[i].1), (l[i].2.1, -l[i].1)] := .of_get (ro := false) (Hp.get_push_new _ _) rfl rfl (Nat.le_refl _) (.inl rfl) rfl
    generalize E.push (.cells [.int .i64 (-l[i].2.1), .int .i64 l[i].1, .int .i64 l[i].2.1, .int .i64 (-l[i].1)] false) = C at *
    have gC := g1.trans (gE.trans gq)
    show Ok (r63_l4 (appA (k + 1)) _ FUEL v v l.length i ⟨false, E.n, 0, 2, 2, 0⟩ 2 0 C) _
    have hall : (dirP l (-l[i].2.1, l[i].1) ∧ dirP l (l[i].2.1, -l[i].1)) ↔ ∀ d ∈ [(-l[i].2.1, l[i].1), (l[i].2.1, -l[i].1)], dirP l d := by simp
    have hdb : ∀ d ∈ [(-l[i].2.1, l[i].1), (l[i].2.1, -l[i].1)], (-4 ≤ d.1 ∧ d.1 ≤ 4) ∧ -4 ≤ d.2 ∧ d.2 ≤ 4 := by
      intro d hd
      simp only [List.mem_cons, List.not_mem_nil, or_false] at hd
      rcases hd with rfl | rfl <;> dsimp only <;> omega
    have two : [(-l[i].2.1, l[i].1), (l[i].2.1, -l[i].1)].length = 2 := rfl
    generalize [(-l[i].2.1, l[i].1), (l[i].2.1, -l[i].1)] = ds at *
    have hdl := hds.len
    refine Ok.loop (L := fun K2 (s : Int) H2 => r63_l4 (appA (k + 1)) (fun v1_ v2_ v3_ v4_ H_ => r63_l3 (appA (k + 1)) K v1_ v2_ v3_ v4_ H_) K2 v v l.length i ⟨false, E.n, 0, 2, 2, 0⟩ 2 s H2) (fun m s H' => Gr C H' ∧ ∃ j : Nat, s = j ∧ j + m = 2 ∧ ∀ d ∈ ds.take j, dirP l d) ?_ FUEL 2 0 C (by unfold FUEL; omega) ⟨.refl _, 0, rfl, rfl, by simp⟩
    rintro K2 m2 s2 H2 ⟨g2, j, rfl, hm2, ht2⟩ ih2
    try dsimp only at *
    rw [r63_l4]
    by_cases hj : j < 2
    · have hg2 := hds.gr g2
      have hdm : ds[j] ∈ ds := List.getElem_mem (by omega)
      obtain ⟨F, hF, hF', gF, nF⟩ := sts2 H2 (.int .i64 ds[j].1) (.int .i64 ds[j].2) (.int .i64 0) (.int .i64 0)
      have gX := gC.trans (g2.trans gF)
      refine Ok.pos (by omega) (Ok.ck (by dsimp only; omega) (Ok.ld (hg2.ldI (i := j) (j := 0) (by omega) rfl) (Ok.ld (hg2.ldI (i := j) (j := 1) (by omega) rfl) (Ok.ld hF ?_))))
      refine Ok.bind (r92_ok (says93 k hF' (hdb _ hdm)) (hv.gr gX) (by omega) hs) fun r G ⟨gG, hr⟩ => ?_
      subst hr
      by_cases hd : dirP l ds[j]
      · rw [decide_eq_true (show ∃ x ∈ l, 0 < x.1 * ds[j].1 + x.2.1 * ds[j].2 from hd)]
        refine Ok.pos rfl ?_
        rw [w64_succ (by omega)]
        exact ih2 (m2 - 1) _ G (by omega) ⟨g2.trans (gF.trans gG), j + 1, rfl, by omega, forall_take (by omega) ht2 hd⟩
      · rw [decide_eq_false (show ¬ ∃ x ∈ l, 0 < x.1 * ds[j].1 + x.2.1 * ds[j].2 from hd)]
        refine Ok.neg (by simp) (Ok.ret ⟨g.trans (gX.trans gG), ?_⟩)
        rw [decide_eq_false]
        intro hh
        exact hd (hall.1 (hh _ hmem) _ hdm)
    · rw [List.take_of_length_le (by omega)] at ht2
      refine Ok.neg (by omega) ?_
      rw [w64_succ (by omega)]
      exact ih (m - 1) _ H2 (by omega) ⟨gC.trans g2, i + 1, rfl, by omega, forall_take h ht (hall.2 ht2)⟩
  · rw [List.take_of_length_le (by omega)] at ht
    exact Ok.neg (by omega) (Ok.ret ⟨g.trans g1, by rw [decide_eq_true ht]⟩)
/-- valid -/
theorem r63_ok {k : Nat} {H : Hp} {v : Sl} {l : List Sd} (hv : SL H v l) (hb : l.length ≤ 1000) : Ok (r63 (appA (k + 1)) v H) fun r H' => Gr H H' ∧ r = decide (plateP l) := by
  unfold r63
  have hlen := hv.len
  by_cases h3 : l.length < 3
  · refine Ok.pos (by omega) ?_
    unfold r63_j0
    exact Ok.pos rfl (Ok.ret ⟨.refl _, by rw [decide_eq_false (fun h => by have := h.1.1; omega)]⟩)
  · refine Ok.neg (by omega) ?_
    unfold r63_j0
    by_cases h6 : 6 < l.length
    · exact Ok.pos (by rw [decide_eq_true_iff]; omega) (Ok.ret ⟨.refl _, by rw [decide_eq_false (fun h => by have := h.1.2; omega)]⟩)
    · refine Ok.neg (by rw [decide_eq_true_iff]; omega) ?_
      rw [hlen]
      refine Ok.loop (L := fun K (s : Int) H2 => r63_l1 (appA (k + 1)) K v v l.length s H2) (fun m s H' => Gr H H' ∧ ∃ i : Nat, s = i ∧ i + m = l.length ∧ ∀ s ∈ l.take i, sideP s) ?_ FUEL l.length 0 H (by unfold FUEL; omega) ⟨.refl _, 0, rfl, by omega, by simp⟩
      rintro K m s H1 ⟨g1, i, rfl, hm, ht⟩ ih
      try dsimp only at *
      rw [r63_l1]
      by_cases h : i < l.length
      · have hg := hv.gr g1
        have hmem : l[i] ∈ l := List.getElem_mem h
        obtain ⟨E, hE, hE', gE, nE⟩ := sts3 H1 (.int .i64 l[i].1) (.int .i64 l[i].2.1) (.int .i64 l[i].2.2) (.int .i64 0) (.int .i64 0) (.int .i64 0)
        have gB := g1.trans gE
        have j2 : ∀ b H', Gr E H' → b = !decide (sideP l[i]) → Ok (r63_j2 (appA (k + 1)) (fun v1_ v2_ v3_ v4_ H_ => r63_l1 (appA (k + 1)) K v1_ v2_ v3_ v4_ H_) v v l.length i b H') fun r H' => Gr H H' ∧ r = decide (plateP l) := fun b H' gH hbb => by
          subst hbb
          unfold r63_j2
          by_cases c : sideP l[i]
          · rw [decide_eq_true c]
            refine Ok.neg (by simp) ?_
            rw [w64_succ (by omega)]
            exact ih (m - 1) _ H' (by omega) ⟨gB.trans gH, i + 1, rfl, by omega, forall_take h ht c⟩
          · rw [decide_eq_false c]
            exact Ok.pos rfl (Ok.ret ⟨gB.trans gH, by rw [decide_eq_false (fun q => c (q.2.1 _ hmem))]⟩)
        have tl : ¬ (l[i].1 = 0 ∧ l[i].2.1 = 0) → ∀ H' b, Gr E H' → b = !decide (inB l[i]) → Ok (r63_j2 (appA (k + 1)) (fun v1_ v2_ v3_ v4_ H_ => r63_l1 (appA (k + 1)) K v1_ v2_ v3_ v4_ H_) v v l.length i b H') fun r H' => Gr H H' ∧ r = decide (plateP l) := fun hne H' b gH hbb => j2 b H' gH (by rw [hbb]; congr 1; exact decide_eq_decide.2 ⟨fun q => side_in.2 ⟨hne, q⟩, fun q => (side_in.1 q).2⟩)
        refine Ok.pos (by omega) (Ok.ck (by omega) (Ok.ld (hg.ldI (i := i) (j := 0) h rfl) (Ok.ld (hg.ldI (i := i) (j := 1) h rfl) (Ok.ld (hg.ldI (i := i) (j := 2) h rfl) (Ok.ld hE (Ok.ld (ldI_get hE' rfl) ?_))))))
        refine Ok.ite (fun c0 => Ok.ld (ldI_get hE' rfl) (Ok.ite (fun c1 => j2 _ _ (.refl _) ?_) fun c1 => Ok.ld (ldI_get hE' rfl) (Ok.ld (ldI_get hE' rfl) (tail63 (s := l[i]) hE' (tl fun q => c1 q.2))))) fun c0 => Ok.ld (ldI_get hE' rfl) (Ok.ld (ldI_get hE' rfl) (tail63 (s := l[i]) hE' (tl fun q => c0 q.1)))
        rw [decide_eq_false (fun q => (side_in.1 q).1 ⟨c0, c1⟩)]
        rfl
      · rw [List.take_of_length_le (by omega)] at ht
        refine Ok.neg (by omega) ?_
        rw [hlen]
        refine (r63_l3_ok (hv.gr g1) (by omega) ht g1).mono fun r H' hh => ⟨hh.1, ?_⟩
        rw [hh.2]
        exact decide_eq_decide.2 ⟨fun q => ⟨⟨by omega, by omega⟩, ht, q⟩, fun q => q.2.2⟩
end Go.Lt.P2

namespace Go.Lt.P2
open Go Go.Lt Go.Proofs
theorem cs_len15 {l : List Sd} (h6 : l.length ≤ 6) : (cs l).length ≤ 15 := by
  have h := cs_tri l l.length
  have : tri l.length ≤ 15 := by
    rcases (show l.length = 0 ∨ l.length = 1 ∨ l.length = 2 ∨ l.length = 3 ∨ l.length = 4 ∨ l.length = 5 ∨ l.length = 6 by omega) with h | h | h | h | h | h | h <;> rw [h] <;> decide
  exact Nat.le_trans h this
/-- Corners -/
theorem r51_ok {k : Nat} {H : Hp} {v : Sl} {l : List Sd} (hv : SL H v l) (hb : l.length ≤ 1000) : Ok (r51 (appA (k + 2)) v H) fun r H' => Gr H H' ∧ if plateP l then SL H' r.1 (rcs (cs l)) ∧ r.2 = 0 else r = (⟨true, 0, 0, 0, 0, 0⟩, 2) := by
  unfold r51
  refine Ok.bind (r63_ok (k := k + 1) hv hb) fun b A ⟨gA, hbb⟩ => ?_
  subst hbb
  by_cases hp : plateP l
  case neg =>
    rw [decide_eq_false hp]
    simp only [if_neg hp]
    exact Ok.neg (by simp) (Ok.ret ⟨gA, rfl⟩)
  rw [decide_eq_true hp]
  simp only [if_pos hp]
  have h6 := hp.1.2
  have hs := hp.2.1
  have hl15 := cs_len15 h6
  refine Ok.pos (by simp) (Ok.lt ?_)
  have hvA := hv.gr gA
  show Ok ((callr (appA (k + 2)) (.fn 66 [.sl v] []) ((A.push (cel [.sl ⟨true, 0, 0, 0, 0, 0⟩])).n + 1) (((A.push (cel [.sl ⟨true, 0, 0, 0, 0, 0⟩])).push .dfr).push (.loop .ready none 1 21 [(4, .ptr A.n 0)]))).bind _) _
  have c0 : Cb A A [] := .start (fun _ h => by cases h) .nil
  have c := ((c0.push (cel [.sl ⟨true, 0, 0, 0, 0, 0⟩])).push .dfr).push (.loop .ready none 1 21 [(4, .ptr A.n 0)])
  simp only [Hp.n_push] at c ⊢
  generalize ((A.push (cel [.sl ⟨true, 0, 0, 0, 0, 0⟩])).push .dfr).push (.loop .ready none 1 21 [(4, .ptr A.n 0)]) = D at *
  have gD : Gr A D := ⟨c.n, fun b hb => c.g b hb fun p hp => by simp only [List.mem_cons, List.not_mem_nil, or_false] at hp; rcases hp with rfl | rfl | rfl <;> dsimp only <;> omega⟩
  have lD := c.lt (.head _)
  have hI : ccI A (fun _ => False) [] ⟨true, 0, 0, 0, 0, 0⟩ D := ⟨gD, c.e _ (.tail _ (.tail _ (.head _))), c.e _ (.tail _ (.head _)), c.e _ (.head _), AccL.nilS, by dsimp only at lD; omega, fun _ h => h.elim⟩
  refine Ok.bind (P := fun _ H' => ∃ w, ccI A (fun _ => False) (cs l) w H') ?_ fun r E hE => ?_
  · show Ok ((r66 (app (k + 1)) v (.yld (A.n + 2)) D).map fun p => (AV.tup [], p.2)) _
    have h1 : Ok (r66 (app (k + 1)) v (.yld (A.n + 2)) D) fun _ H' => ∃ w, ccI A (fun _ => False) (cs l) w H' := by
      refine Ok.mono (r66_ok (a95 k) (ccY (k := k) (by omega) A) hvA hb hs (P := fun _ => False) ⟨_, hI⟩) fun _ H' h => ?_
      rcases h with h | ⟨_, _, h⟩
      · exact h
      · exact h.elim
    obtain ⟨r, H', e, h⟩ := h1
    rw [e]
    exact Ok.ret h
  obtain ⟨w, hE⟩ := hE
  have hn := hE.n
  have hend : E.lend (A.n + 2) = some (none, E.set (A.n + 2) .dead) := by unfold Hp.lend; rw [hE.l]
  refine Ok.ld hend (Ok.pos rfl ?_)
  dsimp only
  generalize hF : E.set (A.n + 2) .dead = F
  have oF : ∀ x, x ≠ A.n + 2 → F.get x = E.get x := fun x hx => by rw [← hF, Hp.get_set_other _ _ hx]
  have nF : F.n = E.n := by rw [← hF]; simp
  clear hF
  have sF : F.get A.n = some (.cells [.sl w] false) := by rw [oF _ (by omega)]; exact hE.o
  have dF : F.get (A.n + 1) = some .dfr := by rw [oF _ (by omega)]; exact hE.d
  have aF : AccL (A.n + 3) F w ((cs l).map (·.1)) := Acc.keep hE.a fun hn => oF _ (by have := low hE.a hn; omega)
  have gF : Gr A F := ⟨by have := hE.g.1; omega, fun b hb => by rw [oF _ (by omega)]; exact hE.g.2 b hb⟩
  have hq15 : ((cs l).map (·.1)).length ≤ 15 := by rw [List.length_map]; exact hl15
  have hqp : ∀ x ∈ (cs l).map (·.1), qp x := fun x hx => by
    obtain ⟨c, hc, rfl⟩ := List.mem_map.1 hx
    have m := cs_mem hc
    rw [m.2.2.2.1]
    exact meet_qp (hs _ m.1) (hs _ m.2.1) m.2.2.1
  have hmem : ∀ x, x ∈ rcs (cs l) ↔ x ∈ (cs l).map (·.1) := fun x => by
    rw [mem_rcs, List.mem_map]
  have hkill : ∀ {G : Hp}, G.get (A.n + 1) = some .dfr → Go.Lt.kill [A.n + 1] G = G.set (A.n + 1) .dead := fun _ => rfl
  -- the end
  have fin : ∀ (u : Sl) (G : Hp) (r : List Pq), A.n + 3 ≤ G.n → Gr A G → G.get (A.n + 1) = some .dfr → (u.nil = false → u.b ≠ A.n + 1) → SL G u r → r = rcs (cs l) → Ok (ck (dfrB [A.n + 1] G = true) (some ((u, (0 : Int)), Go.Lt.kill [A.n + 1] G))) fun r H' => Gr H H' ∧ SL H' r.1 (rcs (cs l)) ∧ r.2 = 0 := fun u G r nG gG dG hu hsl hr => by
    subst hr
    refine Ok.ck (by simp [dfrB, Hp.isDfr, dG]) (Ok.ret ⟨gA.trans ⟨?_, fun b hb => ?_⟩, ?_, rfl⟩)
    · show A.n ≤ (G.set (A.n + 1) .dead).n
      simp; omega
    · show (G.set (A.n + 1) .dead).get b = _
      rw [Hp.get_set_other _ _ (by omega)]; exact gG.2 b hb
    · show SL (G.set (A.n + 1) .dead) u _
      cases hnn : u.nil with
      | true =>
        obtain ⟨rfl, hr⟩ := hsl.nil hnn
        rw [hr]; exact .nilS
      | false => exact SL.congr hsl (Hp.get_set_other _ _ (hu hnn))
  refine Ok.ld (ldSl_get sF rfl) ?_
  cases hnil : w.nil with
  | true =>
    have hw : w = ⟨true, 0, 0, 0, 0, 0⟩ ∧ (cs l).map (·.1) = [] := by
      obtain ⟨h1, h2⟩ := (AccL.sl aF).nil hnil
      exact ⟨h1, h2⟩
    obtain ⟨rfl, hnl⟩ := hw
    have hrc : [] = rcs (cs l) := by
      rw [List.map_eq_nil_iff.1 hnl]; rfl
    have e86 : Ok (r86 (appA (k + 2)) ⟨true, 0, 0, 0, 0, 0⟩ (.fn 87 [] []) F) fun _ H' => H' = F := by
      unfold r86
      obtain ⟨x, e, _⟩ := r109_small (n := 0) (by decide) F
      refine Ok.ld e ?_
      unfold r108
      rw [show FUEL = 18446744073709551615 + 1 from rfl, r108_l0]
      refine Ok.bind (P := fun _ H' => H' = F) (Ok.pos (by decide +kernel) (Ok.bind (P := fun _ H' => H' = F) ?_ fun _ _ h => Ok.ret h)) fun _ _ h => Ok.ret h
      unfold r114
      rw [show FUEL = 18446744073709551615 + 1 from rfl, r114_l0]
      exact Ok.neg (by decide +kernel) (Ok.ret rfl)
    refine Ok.bind e86 fun _ G hG => ?_
    subst hG
    refine Ok.ld (ldSl_get sF rfl) ?_
    unfold r90
    refine Ok.bind (P := fun u H' => H' = G ∧ u = ⟨true, 0, 0, 0, 0, 0⟩) (Ok.pos (by decide) (Ok.ret ⟨rfl, rfl⟩)) fun u I ⟨hI1, hu⟩ => ?_
    subst hI1 hu
    exact fin _ _ [] (show A.n + 3 ≤ I.n by omega) gF dF (fun h => by cases h) .nilS hrc
  | false =>
    have hown : Own F w ((cs l).map (·.1)) ∧ A.n + 3 ≤ w.b := by
      have hlen := AccL.len aF
      rcases aF with ⟨rfl, e⟩ | ⟨h1, h2, h3, h4, h5, h6', h7⟩
      · cases hnil
      · exact ⟨⟨h1, h2, hlen, by omega, .inr h3, h6'⟩, h5⟩
    obtain ⟨ow, hwb⟩ := hown
    have hbig : 12 < ((cs l).map (·.1)).length → ∃ P, ∀ x ∈ (cs l).map (·.1), x = P := fun h => by
      rw [List.length_map] at h
      obtain ⟨P, hP⟩ := cs_big hs h6 h
      refine ⟨P, fun x hx => ?_⟩
      obtain ⟨c, hc, rfl⟩ := List.mem_map.1 hx
      exact hP c hc
    refine Ok.bind (r86_ok (k := k + 1) (says87 (k + 1)) hqp hq15 hbig ow) fun _ G ⟨q', oG, onG, hperm, hso⟩ => ?_
    have hwF := Hp.get_lt ow.get
    have sG : G.get A.n = some (.cells [.sl w] false) := by rw [onG.2 _ (by omega) (by omega)]; exact sF
    refine Ok.ld (ldSl_get sG rfl) ?_
    refine Ok.bind (r90_ok oG (by have := hperm.length_eq; omega) hso) fun u I ⟨⟨onI, hub⟩, r, hr, hsrt, hrm⟩ => ?_
    have on := onG.trans onI
    have dI : I.get (A.n + 1) = some .dfr := by rw [on.2 _ (by omega) (by omega)]; exact dF
    have gI : Gr A I := ⟨Nat.le_trans gF.1 on.1, fun b hb => by rw [on.2 b (by omega) (by omega)]; exact gF.2 b hb⟩
    refine fin u I r (by have := on.1; omega) gI dI ?_ hr (srt_uniq hsrt (rcs_srt _) fun x => by rw [hrm, hperm.mem_iff, hmem])
    intro _
    rw [hub]; omega
end Go.Lt.P2

namespace Go.Lt.P2
open Go Go.Lt Go.Proofs
/-- Bound -/
theorem r55_ok {k : Nat} {H : Hp} {v : Sl} {l : List Sd} {a b : Int} (hv : SL H v l) (hb : l.length ≤ 1000) : Ok (r55 (appA (k + 2)) v a b H) fun r H' => Gr H H' ∧ (¬ (plateP l ∧ near9 a b) → r = (0, 0, 2)) ∧ (plateP l ∧ near9 a b → (rcs (cs l) = [] → r = (0, 0, 4)) ∧ (rcs (cs l) ≠ [] → ∃ m, isMxQ (atq a b) (rcs (cs l)) m ∧ r = ((fq m).1, (fq m).2, 0))) := by
  unfold r55
  refine Ok.box (.nil H) fun A gA c => Ok.bind (r63_ok (k := k + 1) (hv.gr gA) hb) fun z B ⟨gB, hz⟩ => ?_
  subst hz
  have c := c.gr gB
  have bad : ∀ {B : Hp}, ¬ (plateP l ∧ near9 a b) → Cx H B [(H.n, [.int .i64 0, .int .i64 0])] → Ok (r55_j1 (appA (k + 2)) v a b H.n true B) fun r H' => Gr H H' ∧ (¬ (plateP l ∧ near9 a b) → r = (0, 0, 2)) ∧ (plateP l ∧ near9 a b → (rcs (cs l) = [] → r = (0, 0, 4)) ∧ (rcs (cs l) ≠ [] → ∃ m, isMxQ (atq a b) (rcs (cs l)) m ∧ r = ((fq m).1, (fq m).2, 0))) := fun {B} hn c => by
    unfold r55_j1
    exact Ok.pos rfl (Ok.cst c 0 rfl rfl fun D _ _ c => Ok.cld c (.head _) rfl (Ok.cld c (.head _) rfl (Ok.ret ⟨c.g, fun _ => rfl, fun h => absurd h hn⟩)))
  by_cases hp : plateP l
  case neg =>
    rw [decide_eq_false hp]
    exact Ok.neg (by simp) (bad (fun q => hp q.1) c)
  rw [decide_eq_true hp]
  have gp := Gr.push B (.cells [.int .i64 a, .int .i64 b] false)
  have hs : SL (T := Int) (B.push (.cells [.int .i64 a, .int .i64 b] false)) ⟨false, B.n, 0, 2, 2, 0⟩ [a, b] := .of_get (ro := false) (Hp.get_push_new _ _) rfl rfl (Nat.le_refl _) (.inl rfl) rfl
  refine Ok.pos rfl (Ok.bind (r79_ok (k := k + 1) (c := 9) (by omega) hs (by simp)) fun r C ⟨gC, hr⟩ => ?_)
  subst hr
  have c := c.gr (gp.trans gC)
  rw [Bool.not_not]
  by_cases h1 : ∃ y ∈ [a, b], y < -9 ∨ 9 < y
  · rw [decide_eq_true h1]
    refine bad (fun hn => ?_) c
    have h9 := hn.2
    unfold near9 at h9
    obtain ⟨y, hy, h2⟩ := h1
    simp only [List.mem_cons, List.not_mem_nil, or_false] at hy
    rcases hy with rfl | rfl <;> omega
  rw [decide_eq_false h1]
  have q1 : ¬ (a < -9 ∨ 9 < a) := fun q => h1 ⟨a, by simp, q⟩
  have q2 : ¬ (b < -9 ∨ 9 < b) := fun q => h1 ⟨b, by simp, q⟩
  have h9 : near9 a b := by unfold near9; omega
  have tt : plateP l ∧ near9 a b := ⟨hp, h9⟩
  unfold r55_j1
  refine Ok.neg (by simp) (Ok.bind (r51_ok (k := k) (hv.gr c.g) hb) fun y D ⟨gD, hy⟩ => ?_)
  rw [if_pos hp] at hy
  have c := c.gr gD
  have hsl := hy.1
  have hlen := hsl.len
  have hqp : ∀ p ∈ rcs (cs l), qp p := rcs_qp hp.2.1 fun _ h => h
  have hrl : (rcs (cs l)).length ≤ 15 := Nat.le_trans (rcs_len _) (cs_len15 hp.1.2)
  generalize rcs (cs l) = P at *
  dsimp only
  rw [hlen]
  by_cases h0 : P = []
  · subst h0
    refine Ok.pos rfl (Ok.cst c 0 rfl rfl fun E _ _ c => Ok.cld c (.head _) rfl (Ok.cld c (.head _) rfl (Ok.ret ⟨c.g, fun h => absurd tt h, fun _ => ⟨fun _ => rfl, fun h => absurd rfl h⟩⟩)))
  have hpos := List.length_pos_iff.2 h0
  have l0 := hsl.ldI (i := 0) (j := 0) hpos rfl
  have l1 := hsl.ldI (i := 0) (j := 1) hpos rfl
  have l2 := hsl.ldI (i := 0) (j := 2) hpos rfl
  have l3 := hsl.ldI (i := 0) (j := 3) hpos rfl
  have m0 := List.getElem_mem hpos
  have hcap := hsl.cap
  have hopn := hsl.opn
  have es : El.sz Pq = 4 := rfl
  rw [es] at hopn
  have qbA : ∀ {p : Pq}, qp p → qb 48000000 10000 (atq a b p) := fun {p} h => atq_qb (by omega) (by omega) h
  refine Ok.neg (by omega) (Ok.ck (by omega) (Ok.ld l0 (Ok.ld l1 (Ok.ld l2 (Ok.ld l3 (Ok.own (r69_q (by omega) (by omega) (hqp _ m0)) fun _ => Ok.alo c fun E gE c => Ok.ck ⟨by omega, hopn⟩ ?_))))))
  have hcut := (hsl.gr gE).cut (lo := 1) (hi := P.length) (by omega) (by omega)
  have ecut : (P.drop 1).take (P.length - 1) = P.drop 1 := List.take_of_length_le (by simp)
  rw [ecut] at hcut
  have hcl := hcut.len
  rw [List.length_drop] at hcl
  rw [show (1 : Int).toNat = 1 from rfl, Int.toNat_natCast]
  have hcl' : (y.1.cut 4 1 P.length).len = P.length - 1 := hcl
  rw [hcl']
  refine Ok.loop (L := fun K (s : Int) H2 => r55_l0 (appA (k + 2)) K a b H.n D.n (y.1.cut 4 1 P.length) ((P.length - 1 : Nat) : Int) s H2) (fun m s H' => ∃ (i : Nat) (mx : Rat), s = i ∧ i + 1 + m = P.length ∧ Cx H H' [(D.n, [.int .i64 (fq mx).1, .int .i64 (fq mx).2]), (H.n, [.int .i64 0, .int .i64 0])] ∧ (∃ p ∈ P, atq a b p = mx) ∧ (∀ p ∈ P.take (i + 1), atq a b p ≤ mx) ∧ SL H' (y.1.cut 4 1 P.length) (P.drop 1)) ?_ FUEL (P.length - 1) 0 E (by unfold FUEL; omega) ⟨0, atq a b P[0], rfl, by omega, c, ⟨_, m0, rfl⟩, fun p hp => ?_, hcut⟩
  rotate_left
  · rw [List.take_succ_eq_append_getElem hpos, List.take_zero, List.nil_append, List.mem_singleton] at hp
    subst hp; exact Rat.le_refl
  rintro K m s H1 ⟨i, mx, rfl, hm, c, ⟨pm, hpm, em⟩, hmx, hcut⟩ ih
  try dsimp only at *
  rw [r55_l0]
  by_cases h : i + 1 < P.length
  · have hi : i < (P.drop 1).length := by rw [List.length_drop]; omega
    have ei : (P.drop 1)[i] = P[i + 1] := by rw [List.getElem_drop]; congr 1; omega
    have k0 := hcut.ldI (i := i) (j := 0) (n := (fq P[i + 1].1).1) hi (by rw [ei]; rfl)
    have k1 := hcut.ldI (i := i) (j := 1) (n := (fq P[i + 1].1).2) hi (by rw [ei]; rfl)
    have k2 := hcut.ldI (i := i) (j := 2) (n := (fq P[i + 1].2).1) hi (by rw [ei]; rfl)
    have k3 := hcut.ldI (i := i) (j := 3) (n := (fq P[i + 1].2).2) hi (by rw [ei]; rfl)
    have mi := List.getElem_mem h
    have e2 := List.take_succ_eq_append_getElem h
    have hqi := hqp _ mi
    have hmq : qb 48000000 10000 mx := by rw [← em]; exact qbA (hqp _ hpm)
    refine Ok.pos (by omega) (Ok.ck (by omega) (Ok.ld k0 (Ok.ld k1 (Ok.ld k2 (Ok.ld k3 (Ok.alo c fun F gF c => Ok.cld c (.head _) rfl (Ok.cld c (.head _) rfl (Ok.cld c (.head _) rfl (Ok.cld c (.head _) rfl (Ok.own (r69_q (by omega) (by omega) hqi) fun _ => Ok.alo c fun G gG c => ?_))))))))))
    have hcutG := hcut.gr (gF.trans gG)
    refine Ok.cld c (.head _) rfl (Ok.cld c (.head _) rfl (Ok.cld c (.tail _ (.tail _ (.head _))) rfl (Ok.cld c (.tail _ (.tail _ (.head _))) rfl (Ok.own (r89_q (qbA hqi) hmq (by decide) (by decide)) fun _ => ?_))))
    dsimp only
    rw [w64_succ (by omega)]
    refine Ok.ite (fun hc => ?_) fun hc => ?_
    · have hlt := cmp_gt.1 hc
      refine Ok.cld c (.head _) rfl (Ok.cld c (.head _) rfl (Ok.cst c 2 rfl rfl fun I nI oI c => ?_))
      have hne : (y.1.cut 4 1 P.length).nil = false → (y.1.cut 4 1 P.length).b ≠ D.n := fun hn => by
        have hnn : y.1.nil = false := by
          unfold Sl.cut at hn; split at hn <;> simp_all
        have : (y.1.cut 4 1 P.length).b = y.1.b := by unfold Sl.cut; rw [if_neg (by simp [hnn])]
        rw [this]
        have := SL.blt hsl h0
        omega
      refine ih (m - 1) _ I (by omega) ⟨i + 1, atq a b P[i + 1], rfl, by omega, c.weak (.cons _ (.cons _ (.refl _))), ⟨_, mi, rfl⟩, fun p hp => ?_, ?_⟩
      · rw [e2] at hp
        rcases List.mem_append.1 hp with hp | hp
        · have := hmx p hp; grind
        · rw [List.mem_singleton] at hp; subst hp; exact Rat.le_refl
      · cases hn : (y.1.cut 4 1 P.length).nil with
        | true =>
          have := (hcutG.nil hn).2
          rw [this] at hi; simp at hi
        | false => exact SL.congr hcutG (oI _ (hne hn))
    · have hle : ¬ mx < atq a b P[i + 1] := fun q => hc (cmp_gt.2 q)
      refine ih (m - 1) _ G (by omega) ⟨i + 1, mx, rfl, by omega, c.weak (.cons _ (.cons _ (.refl _))), ⟨pm, hpm, em⟩, fun p hp => ?_, hcutG⟩
      rw [e2] at hp
      rcases List.mem_append.1 hp with hp | hp
      · exact hmx p hp
      · rw [List.mem_singleton] at hp; subst hp; grind
  · rw [List.take_of_length_le (by omega)] at hmx
    refine Ok.neg (by omega) (Ok.cld c (.head _) rfl (Ok.cld c (.head _) rfl (Ok.cst c 1 rfl rfl fun I nI oI c => Ok.cld c (.tail _ (.head _)) rfl (Ok.cld c (.tail _ (.head _)) rfl (Ok.ret ⟨c.g, fun h => absurd tt h, fun _ => ⟨fun h => absurd h h0, fun _ => ⟨mx, ⟨⟨pm, hpm, em⟩, hmx⟩, rfl⟩⟩⟩)))))
end Go.Lt.P2

namespace Go.Lt.P2
open Go Go.Lt Go.Proofs
theorem atq_dv {a b x y d e : Int} (hd : 0 < d) (he : 0 < e) : atq a b (dv x d, dv y e) = dv (a * x * e + b * y * d) (d * e) := by
  have h0 := cast_pos hd
  have h1 := cast_pos he
  have h0' : ((d : Int) : Rat) ≠ 0 := by grind
  have h1' : ((e : Int) : Rat) ≠ 0 := by grind
  unfold atq dv
  push_cast
  grind
end Go.Lt.P2

namespace Go.Lt.P2
open Go Go.Lt Go.Proofs
theorem r56_l0_q {x y : Int} (hx : x.natAbs < 9223372036854775808) (hy0 : 0 < y) (hy : y < 9223372036854775808) {c : Nat} {E : List (Nat × List AV)} {u w : AV} {H1 H : Hp} (hc : Cx H1 H ((c, [u, w]) :: E)) : ∀ (K : Nat) (a b : Int), 0 ≤ a → 0 ≤ b → b.natAbs < K → Nat.gcd a.natAbs b.natAbs = Nat.gcd x.natAbs y.natAbs →
    Ok (r56_l0 K x y c a b H) fun r _ => r = fq (dv x y) := by
  intro K
  induction K with
  | zero => intro a b _ _ h; omega
  | succ K ih =>
    intro a b ha0 hb0 h hg
    have hpos : 0 < Nat.gcd x.natAbs y.natAbs := Nat.gcd_pos_of_pos_right _ (by omega)
    rw [r56_l0]
    by_cases h0 : b = 0
    · subst h0
      rw [Int.natAbs_zero, Nat.gcd_zero_right] at hg
      have ea : a = ((Nat.gcd x.natAbs y.natAbs : Nat) : Int) := by omega
      subst ea
      rw [tdivSmall hx, tdivSmall (by omega)]
      refine Ok.neg (by simp) (Ok.ck (by omega) (Ok.ck (by omega) (Ok.cst hc 0 rfl rfl fun D _ _ c => ?_)))
      refine Ok.cld c (.head _) rfl (Ok.cld c (.head _) rfl (Ok.ret ?_))
      rw [fq_gcdv hy0]
    · have hm := Nat.mod_lt a.natAbs (show 0 < b.natAbs by omega)
      have e := Int.natAbs_tmod a b
      have hn := Int.tmod_nonneg b ha0
      exact Ok.pos h0 (Ok.ck h0 (ih b (Int.tmod a b) hb0 hn (by omega) (by rw [e]; exact (gcd_step _ _).trans hg)))
/-- Frac -/
theorem r56_q {a b : Int} (ha : a.natAbs < 9223372036854775808) (hb : 0 < b) (hb2 : b < 9223372036854775808) (H : Hp) : Ok (r56 a b H) fun r _ => r = fq (dv a b) := by
  unfold r56
  refine Ok.box (.nil H) fun A _ c => Ok.neg (by omega) ?_
  unfold r56_j1
  rw [w64Abs ha]
  exact r56_l0_q ha hb hb2 c FUEL _ b (by omega) (by omega) (by unfold FUEL; omega) (by simp)
end Go.Lt.P2

namespace Go.Lt.P2
open Go Go.Lt Go.Proofs
/-- Less -/
theorem r57_q {N D N' D' : Int} {p q : Rat} (hp : qb N D p) (hq : qb N' D' q) (h1 : N * D' < 9223372036854775808) (h2 : N' * D < 9223372036854775808) : Ok (r57 (fq p).1 (fq p).2 (fq q).1 (fq q).2 H0) fun r _ => r = decide (p < q) := by
  obtain ⟨a1, a2, a3⟩ := hp
  obtain ⟨k1, k2, k3⟩ := hq
  have ap := fq_pos p
  have kp := fq_pos q
  have b1 := mulBd (A := N) (B := D') (x := (fq p).1) (y := (fq q).2) a1 a2 (by omega) k3
  have b3 := mulBd (A := N') (B := D) (x := (fq q).1) (y := (fq p).2) k1 k2 (by omega) a3
  unfold r57
  refine Ok.box2 (.nil H0) fun A _ c => Ok.cld c (.tail _ (.head _)) rfl (Ok.cld c (.head _) rfl (Ok.cld c (.head _) rfl (Ok.cld c (.tail _ (.head _)) rfl ?_)))
  rw [w64_id (by omega) (by omega), w64_id (by omega) (by omega)]
  exact Ok.ret (decide_eq_decide.2 fq_lt)
end Go.Lt.P2

namespace Go.Lt.P2
open Go Go.Lt Go.Proofs
/-- near -/
theorem r48_ok {a b : Int} : Ok (r48 a b H0) fun r _ => r = decide (near9 a b) := by
  have no : ¬ near9 a b → Ok (some (false, H0)) fun r _ => r = decide (near9 a b) := fun h => Ok.ret (by rw [decide_eq_false h])
  unfold r48
  refine Ok.ite (fun h1 => Ok.ite (fun h2 => Ok.ite (fun h3 => Ok.ret ?_) fun h => no fun q => h q.2.1) fun h => no fun q => h q.1.2) fun h => no fun q => h q.1.1
  refine decide_eq_decide.2 ?_
  unfold near9
  omega
end Go.Lt.P2

namespace Go.Lt.P2
open Go Go.Lt Go.Proofs
/-- Of -/
theorem r18_ok {H : Hp} {v : Sl} {l : List Sd} (hv : SL H v l) (hb : l.length < 9223372036854775808) : Ok (r18 v H) fun w H' => Gr H H' ∧ SL H' w (l.take 9) := by
  unfold r18
  have hlen := hv.len
  rw [hlen]
  refine Ok.loop (L := fun K (s : Sl × Int) H2 => r18_l0 K s.1 v l.length s.2 H2) (fun m s H' => Gr H H' ∧ ∃ i : Nat, s.2 = i ∧ i + m = l.length ∧ AccL H.n H' s.1 ((l.take i).take 9)) ?_ FUEL l.length (⟨true, 0, 0, 0, 0, 0⟩, 0) H (by unfold FUEL; omega) ⟨.refl _, 0, rfl, by omega, by simpa using AccL.nilS⟩
  rintro K m ⟨w, s⟩ H1 ⟨g1, i, rfl, hm, ha⟩ ih
  try dsimp only at *
  rw [r18_l0]
  by_cases h : i < l.length
  · have hg := hv.gr g1
    obtain ⟨E, hE, hE', gE, nE⟩ := sts3 H1 (.int .i64 l[i].1) (.int .i64 l[i].2.1) (.int .i64 l[i].2.2) (.int .i64 0) (.int .i64 0) (.int .i64 0)
    have gB := g1.trans gE
    refine Ok.pos (by omega) (Ok.ck (by omega) (Ok.ld (hg.ldI (i := i) (j := 0) h rfl) (Ok.ld (hg.ldI (i := i) (j := 1) h rfl) (Ok.ld (hg.ldI (i := i) (j := 2) h rfl) (Ok.ld hE ?_)))))
    refine Ok.ite (fun c => Ok.ld (ldI_get hE' rfl) (Ok.ld (ldI_get hE' rfl) (Ok.ld (ldI_get hE' rfl) ?_))) fun c => ?_
    · have ha' := ha.gr gE
      rw [List.take_of_length_le (by rw [List.length_take]; omega)] at ha'
      refine Ok.bind (ha'.push gB l[i] rfl rfl (by rw [List.length_take]; omega)) fun w2 H3 ⟨ha3, g3, _⟩ => ?_
      rw [w64_succ (by omega)]
      refine ih (m - 1) (w2, _) H3 (by omega) ⟨g3, i + 1, rfl, by omega, ?_⟩
      rw [List.take_succ_eq_append_getElem h, List.take_of_length_le (by simp; omega)]
      exact ha3
    · rw [w64_succ (by omega)]
      refine ih (m - 1) (w, _) E (by omega) ⟨gB, i + 1, rfl, by omega, ?_⟩
      rw [List.take_take, Nat.min_eq_left (by omega)] at ha ⊢
      exact ha.gr gE
  · have hi : i = l.length := by omega
    subst hi
    rw [List.take_length] at ha
    exact Ok.neg (by omega) (Ok.ret ⟨g1, ha.sl⟩)
end Go.Lt.P2

namespace Go.Lt.P2
open Go Go.Lt Go.Proofs
def onP (l : List Sd) (s : Sd) (g : Int) : Prop := ∀ t ∈ l, g * (t.2.1 * s.1 - t.1 * s.2.1) ≤ 0
instance (l : List Sd) (s : Sd) (g : Int) : Decidable (onP l s g) := by unfold onP; infer_instance
theorem onP_one {l : List Sd} {s : Sd} : ¬ onP l s 1 ↔ dirP l (-s.2.1, s.1) := by
  unfold onP dirP
  simp only [Classical.not_forall]
  constructor
  · rintro ⟨t, ht, h⟩
    refine ⟨t, ht, ?_⟩
    try dsimp only
    rw [Int.mul_neg]
    omega
  · rintro ⟨t, ht, h⟩
    refine ⟨t, ht, ?_⟩
    try dsimp only at h
    rw [Int.mul_neg] at h
    omega
theorem onP_neg {l : List Sd} {s : Sd} : ¬ onP l s (-1) ↔ dirP l (s.2.1, -s.1) := by
  unfold onP dirP
  simp only [Classical.not_forall]
  constructor
  · rintro ⟨t, ht, h⟩
    refine ⟨t, ht, ?_⟩
    try dsimp only
    rw [Int.mul_neg]
    omega
  · rintro ⟨t, ht, h⟩
    refine ⟨t, ht, ?_⟩
    try dsimp only at h
    rw [Int.mul_neg] at h
    omega
section
variable {Q : Bool → Hp → Prop}
theorem r19_l5_ok {H : Hp} {v vv : Sl} {l : List Sd} {sb : Nat} {s : Sd} {g ln iv : Int} (hv : SL H v l) (hb : l.length ≤ 6) (hs : ∀ s ∈ l, sideP s) (hss : sideP s) (hg : g = 1 ∨ g = -1) (hsb : H.get sb = some (.cells [.int .i64 s.1, .int .i64 s.2.1, .int .i64 s.2.2] false))
    {kt4 : Sl → Nat → Int → Sl → Int → Int → Hp → Option (Bool × Hp)} (kf : ∀ H', Gr H H' → onP l s g → Q false H') (k : ∀ H', Gr H H' → ¬ onP l s g → Ok (kt4 v sb (w64 (g + 2)) vv ln iv H') Q) : Ok (r19_l5 kt4 FUEL v sb g true vv ln iv v l.length 0 H) Q := by
  have hlen := hv.len
  refine Ok.loop (L := fun K (t : Bool × Int) H2 => r19_l5 kt4 K v sb g t.1 vv ln iv v l.length t.2 H2) (fun m t H' => ∃ i : Nat, t.2 = i ∧ i + m = l.length ∧ Gr H H' ∧ t.1 = decide (onP (l.take i) s g)) ?_ FUEL l.length (true, 0) H (by unfold FUEL; omega) ⟨0, rfl, by omega, .refl _, by simp [onP]⟩
  rintro K m ⟨b, t⟩ H1 ⟨i, rfl, hm, g1, hbb⟩ ih
  try dsimp only at *
  subst hbb
  rw [r19_l5]
  by_cases h : i < l.length
  · have hgl := hv.gr g1
    have hx := hs _ (List.getElem_mem h)
    obtain ⟨E, hE, hE', gE, nE⟩ := sts3 H1 (.int .i64 l[i].1) (.int .i64 l[i].2.1) (.int .i64 l[i].2.2) (.int .i64 0) (.int .i64 0) (.int .i64 0)
    have gB := g1.trans gE
    have hsE : E.get sb = some (.cells [.int .i64 s.1, .int .i64 s.2.1, .int .i64 s.2.2] false) := by rw [gB.2 _ (Hp.get_lt hsb)]; exact hsb
    have ek : onP (l.take (i + 1)) s g ↔ onP (l.take i) s g ∧ g * (l[i].2.1 * s.1 - l[i].1 * s.2.1) ≤ 0 := by
      unfold onP
      constructor
      · intro q
        rw [List.take_succ_eq_append_getElem h] at q
        exact ⟨fun t ht => q t (List.mem_append_left _ ht), q _ (List.mem_append_right _ (List.mem_singleton.2 rfl))⟩
      · rintro ⟨q1, q2⟩
        exact forall_take h q1 q2
    refine Ok.pos (by omega) (Ok.ck (by omega) (Ok.ld (hgl.ldI (i := i) (j := 0) h rfl) (Ok.ld (hgl.ldI (i := i) (j := 1) h rfl) (Ok.ld (hgl.ldI (i := i) (j := 2) h rfl) (Ok.ld hE ?_)))))
    by_cases c : onP (l.take i) s g
    · rw [decide_eq_true c]
      refine Ok.pos rfl (Ok.ld (ldI_get hE' rfl) (Ok.ld (ldI_get hsE rfl) (Ok.ld (ldI_get hE' rfl) (Ok.ld (ldI_get hsE rfl) ?_))))
      unfold sideP at hss hx
      have b1 := mul_bd (A := 4) (B := 4) (x := l[i].2.1) (y := s.1) (by omega) (by omega) (by omega) (by omega)
      have b2 := mul_bd (A := 4) (B := 4) (x := l[i].1) (y := s.2.1) (by omega) (by omega) (by omega) (by omega)
      rw [w64_id (n := l[i].2.1 * s.1) (by omega) (by omega), w64_id (n := l[i].1 * s.2.1) (by omega) (by omega), w64_id (n := l[i].2.1 * s.1 - l[i].1 * s.2.1) (by omega) (by omega), w64_id (n := g * (l[i].2.1 * s.1 - l[i].1 * s.2.1)) (by rcases hg with rfl | rfl <;> omega) (by rcases hg with rfl | rfl <;> omega), w64_succ (by omega)]
      exact ih (m - 1) (_, _) E (by omega) ⟨i + 1, rfl, by omega, gB, decide_eq_decide.2 (by rw [ek]; exact ⟨fun q => ⟨c, q⟩, fun q => q.2⟩)⟩
    · rw [decide_eq_false c]
      refine Ok.neg (by simp) ?_
      rw [w64_succ (by omega)]
      exact ih (m - 1) (_, _) E (by omega) ⟨i + 1, rfl, by omega, gB, (decide_eq_false (fun q => c (ek.1 q).1)).symm⟩
  · rw [List.take_of_length_le (by omega)]
    refine Ok.neg (by omega) ?_
    by_cases c : onP l s g
    · rw [decide_eq_true c]; exact Ok.pos rfl (Ok.ret (kf H1 g1 c))
    · rw [decide_eq_false c]; exact Ok.neg (by simp) (k H1 g1 c)
end
/-- the directions -/
theorem r19_l3_ok {H0' H : Hp} {v : Sl} {l : List Sd} (hv : SL H v l) (hb : l.length ≤ 6) (hs : ∀ s ∈ l, sideP s) (g : Gr H0' H) : Ok (r19_l3 FUEL v v l.length 0 H) fun r H' => Gr H0' H' ∧ r = decide (∀ s ∈ l, dirP l (-s.2.1, s.1) ∧ dirP l (s.2.1, -s.1)) := by
  have hlen := hv.len
  refine Ok.loop (L := fun K (s : Int) H2 => r19_l3 K v v l.length s H2) (fun m s H' => Gr H H' ∧ ∃ i : Nat, s = i ∧ i + m = l.length ∧ ∀ s ∈ l.take i, dirP l (-s.2.1, s.1) ∧ dirP l (s.2.1, -s.1)) ?_ FUEL l.length 0 H (by unfold FUEL; omega) ⟨.refl _, 0, rfl, by omega, by simp⟩
  rintro K m s H1 ⟨g1, i, rfl, hm, ht⟩ ih
  try dsimp only at *
  rw [r19_l3]
  by_cases h : i < l.length
  · have hg := hv.gr g1
    have hmem : l[i] ∈ l := List.getElem_mem h
    have hsd := hs _ hmem
    obtain ⟨E, hE, hE', gE, nE⟩ := sts3 H1 (.int .i64 l[i].1) (.int .i64 l[i].2.1) (.int .i64 l[i].2.2) (.int .i64 0) (.int .i64 0) (.int .i64 0)
    refine Ok.pos (by omega) (Ok.ck (by omega) (Ok.ld (hg.ldI (i := i) (j := 0) h rfl) (Ok.ld (hg.ldI (i := i) (j := 1) h rfl) (Ok.ld (hg.ldI (i := i) (j := 2) h rfl) (Ok.ld hE ?_)))))
    have gB := g1.trans gE
    have bad : ∀ H', Gr E H' → ¬ (dirP l (-l[i].2.1, l[i].1) ∧ dirP l (l[i].2.1, -l[i].1)) → Gr H0' H' ∧ false = decide (∀ s ∈ l, dirP l (-s.2.1, s.1) ∧ dirP l (s.2.1, -s.1)) := fun H' gH hno => ⟨g.trans (gB.trans gH), by rw [decide_eq_false (fun q => hno (q _ hmem))]⟩
    rw [show FUEL = 18446744073709551613 + 1 + 1 + 1 from rfl, r19_l4]
    refine Ok.pos (by decide) ?_
    rw [hlen]
    refine r19_l5_ok (hv.gr gB) hb hs hsd (.inr rfl) hE' (fun H' gH hon => bad H' gH fun q => (onP_neg.2 q.2) hon) fun H2 g2 hn1 => ?_
    rw [show w64 (-1 + 2) = 1 by decide +kernel, r19_l4]
    refine Ok.pos (by decide) ?_
    rw [hlen]
    refine r19_l5_ok (hv.gr (gB.trans g2)) hb hs hsd (.inl rfl) (by rw [g2.2 _ (Hp.get_lt hE')]; exact hE') (fun H' gH hon => bad H' (g2.trans gH) fun q => (onP_one.2 q.1) hon) fun H3 g3 hn2 => ?_
    rw [show w64 (1 + 2) = 3 by decide +kernel, r19_l4]
    refine Ok.neg (by decide) ?_
    rw [w64_succ (by omega)]
    exact ih (m - 1) _ H3 (by omega) ⟨gB.trans (g2.trans g3), i + 1, rfl, by omega, forall_take h ht ⟨onP_one.1 hn2, onP_neg.1 hn1⟩⟩
  · rw [List.take_of_length_le (by omega)] at ht
    exact Ok.neg (by omega) (Ok.ret ⟨g.trans g1, by rw [decide_eq_true ht]⟩)
/-- Plate of the reference -/
theorem r19_ok {H : Hp} {v : Sl} {l : List Sd} (hv : SL H v l) : Ok (r19 v H) fun r H' => Gr H H' ∧ r = decide (plateP l) := by
  unfold r19
  have hlen := hv.len
  by_cases h3 : l.length < 3
  · refine Ok.pos (by omega) ?_
    unfold r19_j0
    exact Ok.pos rfl (Ok.ret ⟨.refl _, by rw [decide_eq_false (fun h => by have := h.1.1; omega)]⟩)
  · refine Ok.neg (by omega) ?_
    unfold r19_j0
    by_cases h6 : 6 < l.length
    · exact Ok.pos (by rw [decide_eq_true_iff]; omega) (Ok.ret ⟨.refl _, by rw [decide_eq_false (fun h => by have := h.1.2; omega)]⟩)
    · refine Ok.neg (by rw [decide_eq_true_iff]; omega) ?_
      rw [hlen]
      refine Ok.loop (L := fun K (s : Int) H2 => r19_l1 K v v l.length s H2) (fun m s H' => Gr H H' ∧ ∃ i : Nat, s = i ∧ i + m = l.length ∧ ∀ s ∈ l.take i, sideP s) ?_ FUEL l.length 0 H (by unfold FUEL; omega) ⟨.refl _, 0, rfl, by omega, by simp⟩
      rintro K m s H1 ⟨g1, i, rfl, hm, ht⟩ ih
      try dsimp only at *
      rw [r19_l1]
      by_cases h : i < l.length
      · have hg := hv.gr g1
        have hmem : l[i] ∈ l := List.getElem_mem h
        obtain ⟨E, hE, hE', gE, nE⟩ := sts3 H1 (.int .i64 l[i].1) (.int .i64 l[i].2.1) (.int .i64 l[i].2.2) (.int .i64 0) (.int .i64 0) (.int .i64 0)
        have gB := g1.trans gE
        have j2 : ∀ b, b = !decide (sideP l[i]) → Ok (r19_j2 (fun v1_ v2_ v3_ v4_ H_ => r19_l1 K v1_ v2_ v3_ v4_ H_) v v l.length i b E) fun r H' => Gr H H' ∧ r = decide (plateP l) := fun b hbb => by
          subst hbb
          unfold r19_j2
          by_cases c : sideP l[i]
          · rw [decide_eq_true c]
            refine Ok.neg (by simp) ?_
            rw [w64_succ (by omega)]
            exact ih (m - 1) _ E (by omega) ⟨gB, i + 1, rfl, by omega, forall_take h ht c⟩
          · rw [decide_eq_false c]
            exact Ok.pos rfl (Ok.ret ⟨gB, by rw [decide_eq_false (fun q => c (q.2.1 _ hmem))]⟩)
        have no : ¬ sideP l[i] → true = !decide (sideP l[i]) := fun q => by rw [decide_eq_false q]; rfl
        refine Ok.pos (by omega) (Ok.ck (by omega) (Ok.ld (hg.ldI (i := i) (j := 0) h rfl) (Ok.ld (hg.ldI (i := i) (j := 1) h rfl) (Ok.ld (hg.ldI (i := i) (j := 2) h rfl) (Ok.ld hE (Ok.ld (ldI_get hE' rfl) ?_))))))
        refine Ok.ite (fun c => j2 _ (no fun q => by unfold sideP at q; omega)) fun c1 => Ok.ld (ldI_get hE' rfl) ?_
        refine Ok.ite (fun c => j2 _ (no fun q => by unfold sideP at q; omega)) fun c2 => Ok.ld (ldI_get hE' rfl) ?_
        refine Ok.ite (fun c => j2 _ (no fun q => by unfold sideP at q; omega)) fun c3 => Ok.ld (ldI_get hE' rfl) ?_
        refine Ok.ite (fun c => j2 _ (no fun q => by unfold sideP at q; omega)) fun c4 => Ok.ld (ldI_get hE' rfl) ?_
        have last : ¬ (l[i].1 = 0 ∧ l[i].2.1 = 0) → Ok (if l[i].2.2 < -40 then r19_j2 (fun v1_ v2_ v3_ v4_ H_ => r19_l1 K v1_ v2_ v3_ v4_ H_) v v l.length i true E else (E.ldI .i64 H1.n (0 + 2)).bind fun x => r19_j2 (fun v1_ v2_ v3_ v4_ H_ => r19_l1 K v1_ v2_ v3_ v4_ H_) v v l.length i (decide (40 < x)) E) fun r H' => Gr H H' ∧ r = decide (plateP l) := fun hne => by
          refine Ok.ite (fun c => j2 _ (no fun q => by unfold sideP at q; omega)) fun c5 => Ok.ld (ldI_get hE' rfl) (j2 _ ?_)
          refine Bool.eq_iff_iff.2 ?_
          rw [Bool.not_eq_true', decide_eq_false_iff_not, decide_eq_true_iff]
          unfold sideP
          constructor
          · intro q w; omega
          · intro q
            by_cases w : 40 < l[i].2.2
            · exact w
            · exact absurd ⟨⟨by omega, by omega⟩, ⟨by omega, by omega⟩, hne, by omega, by omega⟩ q
        refine Ok.ite (fun c0 => Ok.ld (ldI_get hE' rfl) (Ok.ite (fun c5 => j2 _ (no fun q => q.2.2.1 ⟨c0, c5⟩)) fun c5 => Ok.ld (ldI_get hE' rfl) (last fun q => c5 q.2))) fun c0 => Ok.ld (ldI_get hE' rfl) (last fun q => c0 q.1)
      · rw [List.take_of_length_le (by omega)] at ht
        refine Ok.neg (by omega) ?_
        rw [hlen]
        refine (r19_l3_ok (hv.gr g1) (by omega) ht g1).mono fun r H' hh => ⟨hh.1, ?_⟩
        rw [hh.2]
        exact decide_eq_decide.2 ⟨fun q => ⟨⟨by omega, by omega⟩, ht, q⟩, fun q => q.2.2⟩
end Go.Lt.P2

namespace Go.Lt.P2
open Go Go.Lt Go.Proofs
theorem plate_take {p : List Sd} : plateP (p.take 9) ↔ plateP p := by
  by_cases h : p.length ≤ 9
  · rw [List.take_of_length_le h]
  · constructor
    · intro c; have b := c.1.2; rw [List.length_take] at b; omega
    · intro c; have b := c.1.2; omega
theorem plate_eq {p : List Sd} (h : plateP p) : p.take 9 = p := List.take_of_length_le (by have := h.1.2; omega)
theorem awk (k : Nat) (H : Hp) : appA k 21 [] H = some (.bool true, H) := rfl
end Go.Lt.P2
