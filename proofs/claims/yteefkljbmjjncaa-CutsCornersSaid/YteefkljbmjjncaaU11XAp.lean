/- PLAIN LAWS OF WHAT IS COMPUTED, for the statement 'CutsCorners'. Nothing is asked of the input. -/
import Derived.Test.YteefkljbmjjncaaU11XSf
import Derived.Test.YteefkljbmjjncaaLB
set_option linter.unusedVariables false
set_option linter.unusedSimpArgs false
namespace Go.Lt.P2
open Go Go.Lt Go.Proofs
/-! ### with more than twelve pairs of sides at corners, all corners are one -/
theorem sq_nn (x : Int) : 0 ≤ x * x := by
  rcases Int.le_total 0 x with h | h
  · exact Int.mul_nonneg h h
  · have := Int.mul_nonneg (show 0 ≤ -x by omega) (show 0 ≤ -x by omega)
    rw [Int.neg_mul_neg] at this; exact this
theorem sq_pos {x : Int} (h : x ≠ 0) : 0 < x * x := by
  have := sq_nn x
  have h2 : x * x ≠ 0 := fun e => h (by rcases Int.mul_eq_zero.1 e with h | h <;> exact h)
  omega
def on (s : Sd) (z : Pq) : Prop := atq s.1 s.2.1 z = (s.2.2 : Rat)
theorem crI_rat (s t : Sd) : ((crI s t : Int) : Rat) = (s.1 : Rat) * t.2.1 - (s.2.1 : Rat) * t.1 := by unfold crI; push_cast; rfl
theorem meet_uniq {s t : Sd} {z : Pq} (h : crI s t ≠ 0) (h1 : on s z) (h2 : on t z) : z = meetq s t := by
  have m := meet_on h
  have h0 := cast_ne h
  rw [crI_rat] at h0
  unfold on atq at *
  refine Prod.ext ?_ ?_
  · have : ((s.1 : Rat) * t.2.1 - (s.2.1 : Rat) * t.1) * (z.1 - (meetq s t).1) = 0 := by grind
    rcases Rat.mul_eq_zero.1 this with h | h
    · exact absurd h h0
    · grind
  · have : ((s.1 : Rat) * t.2.1 - (s.2.1 : Rat) * t.1) * (z.2 - (meetq s t).2) = 0 := by grind
    rcases Rat.mul_eq_zero.1 this with h | h
    · exact absurd h h0
    · grind
section
variable {l : List Sd}
def Ed (l : List Sd) (s t : Sd) : Prop := crI s t ≠ 0 ∧ inP l (meetq s t)
theorem Ed.sym {s t : Sd} (h : Ed l s t) : Ed l t s := ⟨by rw [crI_sym]; have := h.1; omega, by rw [meet_sym]; exact h.2⟩
/-- along a side -/
def al (s : Sd) (z : Pq) : Rat := (s.1 : Rat) * z.2 - (s.2.1 : Rat) * z.1
theorem al_inj {s : Sd} (hs : ¬ (s.1 = 0 ∧ s.2.1 = 0)) {z w : Pq} (h1 : on s z) (h2 : on s w) (h : al s z = al s w) : z = w := by
  unfold on al atq at *
  have hn : (s.1 : Rat) * s.1 + (s.2.1 : Rat) * s.2.1 ≠ 0 := by
    have h3 : 0 < s.1 * s.1 + s.2.1 * s.2.1 := by
      have a := sq_nn s.1
      have b := sq_nn s.2.1
      by_cases c : s.1 = 0
      · have d : s.2.1 ≠ 0 := fun d => hs ⟨c, d⟩
        have := sq_pos d
        omega
      · have := sq_pos c
        omega
    have := cast_ne (b := s.1 * s.1 + s.2.1 * s.2.1) (by omega)
    rw [Rat.intCast_add, Rat.intCast_mul, Rat.intCast_mul] at this
    exact this
  refine Prod.ext ?_ ?_
  · have : ((s.1 : Rat) * s.1 + (s.2.1 : Rat) * s.2.1) * (z.1 - w.1) = 0 := by grind
    rcases Rat.mul_eq_zero.1 this with h | h
    · exact absurd h hn
    · grind
  · have : ((s.1 : Rat) * s.1 + (s.2.1 : Rat) * s.2.1) * (z.2 - w.2) = 0 := by grind
    rcases Rat.mul_eq_zero.1 this with h | h
    · exact absurd h hn
    · grind
/-- what a side says grows or falls along another one -/
theorem al_step {s t : Sd} {z w : Pq} (h1 : on s z) (h2 : on s w) : ((s.1 : Rat) * s.1 + (s.2.1 : Rat) * s.2.1) * (atq t.1 t.2.1 z - atq t.1 t.2.1 w) = (crI s t : Rat) * (al s z - al s w) := by
  rw [crI_rat]
  unfold on al atq at *
  grind
/-- no corner on a side is between two other points of the plate on it -/
theorem no_mid {s t : Sd} (h : Ed l s t) (ht : t ∈ l) {p q : Pq} (hp : on s p) (hq : on s q) (ip : inP l p) (iq : inP l q) (h1 : al s p < al s (meetq s t)) (h2 : al s (meetq s t) < al s q) : False := by
  have m := meet_on h.1
  have a := al_step (t := t) hp m.1
  have b := al_step (t := t) hq m.1
  have kp := ip t ht
  have kq := iq t ht
  unfold lqs at kp kq
  have hn : 0 ≤ (s.1 : Rat) * s.1 + (s.2.1 : Rat) * s.2.1 := by
    have a := sq_nn s.1
    have b := sq_nn s.2.1
    have := castLe.2 (show (0 : Int) ≤ s.1 * s.1 + s.2.1 * s.2.1 by omega)
    rw [Rat.intCast_add, Rat.intCast_mul, Rat.intCast_mul] at this
    exact this
  have e1 := Rat.mul_nonneg hn (show 0 ≤ atq t.1 t.2.1 (meetq s t) - atq t.1 t.2.1 p by rw [m.2]; grind)
  have e2 := Rat.mul_nonneg hn (show 0 ≤ atq t.1 t.2.1 (meetq s t) - atq t.1 t.2.1 q by rw [m.2]; grind)
  have f1 : (crI s t : Rat) * (al s p - al s (meetq s t)) ≤ 0 := by grind
  have f2 : (crI s t : Rat) * (al s q - al s (meetq s t)) ≤ 0 := by grind
  by_cases hc : 0 < crI s t
  · have hc' : (0 : Rat) < (crI s t : Rat) := castLt.2 hc
    have := Rat.mul_pos hc' (show 0 < al s q - al s (meetq s t) by grind)
    grind
  · have hc' : (0 : Rat) < ((-crI s t : Int) : Rat) := castLt.2 (show (0 : Int) < -crI s t by have := h.1; omega)
    have := Rat.mul_pos hc' (show 0 < al s (meetq s t) - al s p by grind)
    rw [Rat.intCast_neg] at this
    grind
/-- of three corners on a side two are one -/
theorem two_of {s t u w : Sd} (hs : s ∈ l) (hp : ∀ s ∈ l, sideP s) (ht : t ∈ l) (hu : u ∈ l) (hw : w ∈ l) (h1 : Ed l s t) (h2 : Ed l s u) (h3 : Ed l s w) : meetq s t = meetq s u ∨ meetq s t = meetq s w ∨ meetq s u = meetq s w := by
  have hs0 : ¬ (s.1 = 0 ∧ s.2.1 = 0) := (hp s hs).2.2.1
  have m1 := (meet_on h1.1).1
  have m2 := (meet_on h2.1).1
  have m3 := (meet_on h3.1).1
  refine Classical.byContradiction fun hc => ?_
  have n1 : al s (meetq s t) ≠ al s (meetq s u) := fun e => hc (.inl (al_inj hs0 m1 m2 e))
  have n2 : al s (meetq s t) ≠ al s (meetq s w) := fun e => hc (.inr (.inl (al_inj hs0 m1 m3 e)))
  have n3 : al s (meetq s u) ≠ al s (meetq s w) := fun e => hc (.inr (.inr (al_inj hs0 m2 m3 e)))
  have k1 := fun p q hp hq ip iq => no_mid (p := p) (q := q) h1 ht hp hq ip iq
  have k2 := fun p q hp hq ip iq => no_mid (p := p) (q := q) h2 hu hp hq ip iq
  have k3 := fun p q hp hq ip iq => no_mid (p := p) (q := q) h3 hw hp hq ip iq
  have a1 := k1 _ _ m2 m3 h2.2 h3.2
  have a2 := k1 _ _ m3 m2 h3.2 h2.2
  have b1 := k2 _ _ m1 m3 h1.2 h3.2
  have b2 := k2 _ _ m3 m1 h3.2 h1.2
  have c1 := k3 _ _ m1 m2 h1.2 h2.2
  have c2 := k3 _ _ m2 m1 h2.2 h1.2
  clear k1 k2 k3
  generalize al s (meetq s t) = A at *
  generalize al s (meetq s u) = B at *
  generalize al s (meetq s w) = C at *
  grind
/-- two sides at one corner of a side, that meet a third side from another of its corners, go along -/
theorem no_two {u x x' y : Sd} (hp : ∀ s ∈ l, sideP s) (hu : u ∈ l) (hx : x ∈ l) (hx' : x' ∈ l) (hy : y ∈ l) (h1 : Ed l u x) (h2 : Ed l u x') (h3 : Ed l u y) (e : meetq u x = meetq u x') (ne : meetq u y ≠ meetq u x) (k1 : Ed l x y) (k2 : Ed l x' y) : ¬ Ed l x x' := by
  intro k
  have a1 := meet_on h1.1
  have a2 := meet_on h2.1
  have a3 := meet_on h3.1
  have b1 := meet_on k1.1
  have b2 := meet_on k2.1
  -- on y: the corner with u, with x, with x'
  have c1 : meetq y x ≠ meetq y u := fun q => by
    rw [meet_sym x y, meet_sym u y] at q
    exact ne (meet_uniq h1.1 a3.1 (by rw [← q]; exact b1.1))
  have c2 : meetq y x' ≠ meetq y u := fun q => by
    rw [meet_sym x' y, meet_sym u y] at q
    have := meet_uniq h2.1 a3.1 (by rw [← q]; exact b2.1)
    exact ne (by rw [this, e])
  rcases two_of hy hp hu hx hx' h3.sym k1.sym k2.sym with q | q | q
  · exact c1 q.symm
  · exact c2 q.symm
  · rw [meet_sym x y, meet_sym x' y] at q
    have d1 := meet_uniq k.1 b1.1 (by rw [q]; exact b2.1)
    have d2 := meet_uniq k.1 a1.2 (by rw [e]; exact a2.2)
    have d3 : meetq x y = meetq u x := by rw [d1, d2]
    have := meet_uniq h3.1 (by rw [← d3] at a1; exact a1.1) b1.2
    exact ne (by rw [← this, d3])
end
/-- of booleans alone -/
def T (s s' t a b c : Bool) : Bool := (s == s') && (s != t) && a && b && c
theorem bools : ∀ s2 s3 s4 s5 e12 e13 e14 e15 e23 e24 e25 e34 e35 e45 : Bool, 8 ≤ e12.toNat + e13.toNat + e14.toNat + e15.toNat + e23.toNat + e24.toNat + e25.toNat + e34.toNat + e35.toNat + e45.toNat → (T true s2 s3 e13 e23 e12 || T true s2 s4 e14 e24 e12 || T true s2 s5 e15 e25 e12 || T true s3 s2 e12 e23 e13 || T true s3 s4 e14 e34 e13 || T true s3 s5 e15 e35 e13 || T true s4 s2 e12 e24 e14 || T true s4 s3 e13 e34 e14 || T true s4 s5 e15 e45 e14 || T true s5 s2 e12 e25 e15 || T true s5 s3 e13 e35 e15 || T true s5 s4 e14 e45 e15 || T s2 s3 true e12 e13 e23 || T s2 s3 s4 e24 e34 e23 || T s2 s3 s5 e25 e35 e23 || T s2 s4 true e12 e14 e24 || T s2 s4 s3 e23 e34 e24 || T s2 s4 s5 e25 e45 e24 || T s2 s5 true e12 e15 e25 || T s2 s5 s3 e23 e35 e25 || T s2 s5 s4 e24 e45 e25 || T s3 s4 true e13 e14 e34 || T s3 s4 s2 e23 e24 e34 || T s3 s4 s5 e35 e45 e34 || T s3 s5 true e13 e15 e35 || T s3 s5 s2 e23 e25 e35 || T s3 s5 s4 e34 e45 e35 || T s4 s5 true e14 e15 e45 || T s4 s5 s2 e24 e25 e45 || T s4 s5 s3 e34 e35 e45) = false → (s2 && s3 && s4 && s5) = true := by decide +kernel
/-- one side meets all others -/
theorem bools6 : ∀ a1 a2 a3 a4 a5 b2 b3 b4 b5 c3 c4 c5 d4 d5 e5 : Bool, 13 ≤ a1.toNat + a2.toNat + a3.toNat + a4.toNat + a5.toNat + b2.toNat + b3.toNat + b4.toNat + b5.toNat + c3.toNat + c4.toNat + c5.toNat + d4.toNat + d5.toNat + e5.toNat →
    ((a1 && a2 && a3 && a4 && a5) || (a1 && b2 && b3 && b4 && b5) || (a2 && b2 && c3 && c4 && c5) || (a3 && b3 && c3 && d4 && d5) || (a4 && b4 && c4 && d4 && e5) || (a5 && b5 && c5 && d5 && e5)) = true := by decide +kernel
def ed (l : List Sd) (s t : Sd) : Bool := decide (crI s t ≠ 0 ∧ inP l (meetq s t))
theorem ed_iff {l : List Sd} {s t : Sd} : ed l s t = true ↔ Ed l s t := decide_eq_true_iff
theorem ed_symm (l : List Sd) (s t : Sd) : ed l s t = ed l t s := by
  refine Bool.eq_iff_iff.2 ?_
  rw [ed_iff, ed_iff]
  exact ⟨Ed.sym, Ed.sym⟩
section
variable {l : List Sd}
theorem colour (hp : ∀ s ∈ l, sideP s) {u x1 : Sd} (hu : u ∈ l) (h1 : x1 ∈ l) (E1 : Ed l u x1) {x x' y : Sd} (hx : x ∈ l) (hx' : x' ∈ l) (hy : y ∈ l) (ex : Ed l u x) (ex' : Ed l u x') (ey : Ed l u y) :
    T (decide (meetq u x = meetq u x1)) (decide (meetq u x' = meetq u x1)) (decide (meetq u y = meetq u x1)) (ed l x y) (ed l x' y) (ed l x x') = false := by
  refine Bool.eq_false_iff.2 fun h => ?_
  unfold T at h
  simp only [Bool.and_eq_true, beq_iff_eq, bne_iff_ne, ne_eq] at h
  obtain ⟨⟨⟨⟨a, b⟩, k1⟩, k2⟩, k3⟩ := h
  have hab : meetq u x = meetq u x' := by
    by_cases c : meetq u x = meetq u x1
    · have : meetq u x' = meetq u x1 := of_decide_eq_true (by rw [← a]; exact decide_eq_true c)
      rw [c, this]
    · have c' : ¬ meetq u x' = meetq u x1 := of_decide_eq_false (by rw [← a]; exact decide_eq_false c)
      rcases two_of hu hp hx hx' h1 ex ex' E1 with q | q | q
      · exact q
      · exact absurd q c
      · exact absurd q c'
  have hne : meetq u y ≠ meetq u x := fun q => b (by rw [q])
  exact no_two hp hu hx hx' hy ex ex' ey hab hne (ed_iff.1 k1) (ed_iff.1 k2) (ed_iff.1 k3)
theorem one_pt (hp : ∀ s ∈ l, sideP s) {u x1 x2 x3 x4 x5 : Sd} (hu : u ∈ l) (h1 : x1 ∈ l) (h2 : x2 ∈ l) (h3 : x3 ∈ l) (h4 : x4 ∈ l) (h5 : x5 ∈ l) (E1 : Ed l u x1) (E2 : Ed l u x2) (E3 : Ed l u x3) (E4 : Ed l u x4) (E5 : Ed l u x5)
    (hc : 8 ≤ (ed l x1 x2).toNat + (ed l x1 x3).toNat + (ed l x1 x4).toNat + (ed l x1 x5).toNat + (ed l x2 x3).toNat + (ed l x2 x4).toNat + (ed l x2 x5).toNat + (ed l x3 x4).toNat + (ed l x3 x5).toNat + (ed l x4 x5).toNat) : ∀ x ∈ [u, x1, x2, x3, x4, x5], on x (meetq u x1) := by
  have key := bools (decide (meetq u x2 = meetq u x1)) (decide (meetq u x3 = meetq u x1)) (decide (meetq u x4 = meetq u x1)) (decide (meetq u x5 = meetq u x1)) (ed l x1 x2) (ed l x1 x3) (ed l x1 x4) (ed l x1 x5) (ed l x2 x3) (ed l x2 x4) (ed l x2 x5) (ed l x3 x4) (ed l x3 x5) (ed l x4 x5) hc ?_
  · simp only [Bool.and_eq_true, decide_eq_true_iff] at key
    obtain ⟨⟨⟨k2, k3⟩, k4⟩, k5⟩ := key
    intro x hx
    simp only [List.mem_cons, List.not_mem_nil, or_false] at hx
    rcases hx with rfl | rfl | rfl | rfl | rfl | rfl
    · exact (meet_on E1.1).1
    · exact (meet_on E1.1).2
    · rw [← k2]; exact (meet_on E2.1).2
    · rw [← k3]; exact (meet_on E3.1).2
    · rw [← k4]; exact (meet_on E4.1).2
    · rw [← k5]; exact (meet_on E5.1).2
  · have z : true = decide (meetq u x1 = meetq u x1) := (decide_eq_true rfl).symm
    have t123 : T true (decide (meetq u x2 = meetq u x1)) (decide (meetq u x3 = meetq u x1)) (ed l x1 x3) (ed l x2 x3) (ed l x1 x2) = false := by
      have f := colour hp hu h1 E1 h1 h2 h3 E1 E2 E3
      rw [← z] at f
      exact f
    have t124 : T true (decide (meetq u x2 = meetq u x1)) (decide (meetq u x4 = meetq u x1)) (ed l x1 x4) (ed l x2 x4) (ed l x1 x2) = false := by
      have f := colour hp hu h1 E1 h1 h2 h4 E1 E2 E4
      rw [← z] at f
      exact f
    have t125 : T true (decide (meetq u x2 = meetq u x1)) (decide (meetq u x5 = meetq u x1)) (ed l x1 x5) (ed l x2 x5) (ed l x1 x2) = false := by
      have f := colour hp hu h1 E1 h1 h2 h5 E1 E2 E5
      rw [← z] at f
      exact f
    have t132 : T true (decide (meetq u x3 = meetq u x1)) (decide (meetq u x2 = meetq u x1)) (ed l x1 x2) (ed l x2 x3) (ed l x1 x3) = false := by
      have f := colour hp hu h1 E1 h1 h3 h2 E1 E3 E2
      rw [← z, ed_symm l x3 x2] at f
      exact f
    have t134 : T true (decide (meetq u x3 = meetq u x1)) (decide (meetq u x4 = meetq u x1)) (ed l x1 x4) (ed l x3 x4) (ed l x1 x3) = false := by
      have f := colour hp hu h1 E1 h1 h3 h4 E1 E3 E4
      rw [← z] at f
      exact f
    have t135 : T true (decide (meetq u x3 = meetq u x1)) (decide (meetq u x5 = meetq u x1)) (ed l x1 x5) (ed l x3 x5) (ed l x1 x3) = false := by
      have f := colour hp hu h1 E1 h1 h3 h5 E1 E3 E5
      rw [← z] at f
      exact f
    have t142 : T true (decide (meetq u x4 = meetq u x1)) (decide (meetq u x2 = meetq u x1)) (ed l x1 x2) (ed l x2 x4) (ed l x1 x4) = false := by
      have f := colour hp hu h1 E1 h1 h4 h2 E1 E4 E2
      rw [← z, ed_symm l x4 x2] at f
      exact f
    have t143 : T true (decide (meetq u x4 = meetq u x1)) (decide (meetq u x3 = meetq u x1)) (ed l x1 x3) (ed l x3 x4) (ed l x1 x4) = false := by
      have f := colour hp hu h1 E1 h1 h4 h3 E1 E4 E3
      rw [← z, ed_symm l x4 x3] at f
      exact f
    have t145 : T true (decide (meetq u x4 = meetq u x1)) (decide (meetq u x5 = meetq u x1)) (ed l x1 x5) (ed l x4 x5) (ed l x1 x4) = false := by
      have f := colour hp hu h1 E1 h1 h4 h5 E1 E4 E5
      rw [← z] at f
      exact f
    have t152 : T true (decide (meetq u x5 = meetq u x1)) (decide (meetq u x2 = meetq u x1)) (ed l x1 x2) (ed l x2 x5) (ed l x1 x5) = false := by
      have f := colour hp hu h1 E1 h1 h5 h2 E1 E5 E2
      rw [← z, ed_symm l x5 x2] at f
      exact f
    have t153 : T true (decide (meetq u x5 = meetq u x1)) (decide (meetq u x3 = meetq u x1)) (ed l x1 x3) (ed l x3 x5) (ed l x1 x5) = false := by
      have f := colour hp hu h1 E1 h1 h5 h3 E1 E5 E3
      rw [← z, ed_symm l x5 x3] at f
      exact f
    have t154 : T true (decide (meetq u x5 = meetq u x1)) (decide (meetq u x4 = meetq u x1)) (ed l x1 x4) (ed l x4 x5) (ed l x1 x5) = false := by
      have f := colour hp hu h1 E1 h1 h5 h4 E1 E5 E4
      rw [← z, ed_symm l x5 x4] at f
      exact f
    have t231 : T (decide (meetq u x2 = meetq u x1)) (decide (meetq u x3 = meetq u x1)) true (ed l x1 x2) (ed l x1 x3) (ed l x2 x3) = false := by
      have f := colour hp hu h1 E1 h2 h3 h1 E2 E3 E1
      rw [← z, ed_symm l x2 x1, ed_symm l x3 x1] at f
      exact f
    have t234 : T (decide (meetq u x2 = meetq u x1)) (decide (meetq u x3 = meetq u x1)) (decide (meetq u x4 = meetq u x1)) (ed l x2 x4) (ed l x3 x4) (ed l x2 x3) = false := by
      have f := colour hp hu h1 E1 h2 h3 h4 E2 E3 E4
      exact f
    have t235 : T (decide (meetq u x2 = meetq u x1)) (decide (meetq u x3 = meetq u x1)) (decide (meetq u x5 = meetq u x1)) (ed l x2 x5) (ed l x3 x5) (ed l x2 x3) = false := by
      have f := colour hp hu h1 E1 h2 h3 h5 E2 E3 E5
      exact f
    have t241 : T (decide (meetq u x2 = meetq u x1)) (decide (meetq u x4 = meetq u x1)) true (ed l x1 x2) (ed l x1 x4) (ed l x2 x4) = false := by
      have f := colour hp hu h1 E1 h2 h4 h1 E2 E4 E1
      rw [← z, ed_symm l x2 x1, ed_symm l x4 x1] at f
      exact f
    have t243 : T (decide (meetq u x2 = meetq u x1)) (decide (meetq u x4 = meetq u x1)) (decide (meetq u x3 = meetq u x1)) (ed l x2 x3) (ed l x3 x4) (ed l x2 x4) = false := by
      have f := colour hp hu h1 E1 h2 h4 h3 E2 E4 E3
      rw [ed_symm l x4 x3] at f
      exact f
    have t245 : T (decide (meetq u x2 = meetq u x1)) (decide (meetq u x4 = meetq u x1)) (decide (meetq u x5 = meetq u x1)) (ed l x2 x5) (ed l x4 x5) (ed l x2 x4) = false := by
      have f := colour hp hu h1 E1 h2 h4 h5 E2 E4 E5
      exact f
    have t251 : T (decide (meetq u x2 = meetq u x1)) (decide (meetq u x5 = meetq u x1)) true (ed l x1 x2) (ed l x1 x5) (ed l x2 x5) = false := by
      have f := colour hp hu h1 E1 h2 h5 h1 E2 E5 E1
      rw [← z, ed_symm l x2 x1, ed_symm l x5 x1] at f
      exact f
    have t253 : T (decide (meetq u x2 = meetq u x1)) (decide (meetq u x5 = meetq u x1)) (decide (meetq u x3 = meetq u x1)) (ed l x2 x3) (ed l x3 x5) (ed l x2 x5) = false := by
      have f := colour hp hu h1 E1 h2 h5 h3 E2 E5 E3
      rw [ed_symm l x5 x3] at f
      exact f
    have t254 : T (decide (meetq u x2 = meetq u x1)) (decide (meetq u x5 = meetq u x1)) (decide (meetq u x4 = meetq u x1)) (ed l x2 x4) (ed l x4 x5) (ed l x2 x5) = false := by
      have f := colour hp hu h1 E1 h2 h5 h4 E2 E5 E4
      rw [ed_symm l x5 x4] at f
      exact f
    have t341 : T (decide (meetq u x3 = meetq u x1)) (decide (meetq u x4 = meetq u x1)) true (ed l x1 x3) (ed l x1 x4) (ed l x3 x4) = false := by
      have f := colour hp hu h1 E1 h3 h4 h1 E3 E4 E1
      rw [← z, ed_symm l x3 x1, ed_symm l x4 x1] at f
      exact f
    have t342 : T (decide (meetq u x3 = meetq u x1)) (decide (meetq u x4 = meetq u x1)) (decide (meetq u x2 = meetq u x1)) (ed l x2 x3) (ed l x2 x4) (ed l x3 x4) = false := by
      have f := colour hp hu h1 E1 h3 h4 h2 E3 E4 E2
      rw [ed_symm l x3 x2, ed_symm l x4 x2] at f
      exact f
    have t345 : T (decide (meetq u x3 = meetq u x1)) (decide (meetq u x4 = meetq u x1)) (decide (meetq u x5 = meetq u x1)) (ed l x3 x5) (ed l x4 x5) (ed l x3 x4) = false := by
      have f := colour hp hu h1 E1 h3 h4 h5 E3 E4 E5
      exact f
    have t351 : T (decide (meetq u x3 = meetq u x1)) (decide (meetq u x5 = meetq u x1)) true (ed l x1 x3) (ed l x1 x5) (ed l x3 x5) = false := by
      have f := colour hp hu h1 E1 h3 h5 h1 E3 E5 E1
      rw [← z, ed_symm l x3 x1, ed_symm l x5 x1] at f
      exact f
    have t352 : T (decide (meetq u x3 = meetq u x1)) (decide (meetq u x5 = meetq u x1)) (decide (meetq u x2 = meetq u x1)) (ed l x2 x3) (ed l x2 x5) (ed l x3 x5) = false := by
      have f := colour hp hu h1 E1 h3 h5 h2 E3 E5 E2
      rw [ed_symm l x3 x2, ed_symm l x5 x2] at f
      exact f
    have t354 : T (decide (meetq u x3 = meetq u x1)) (decide (meetq u x5 = meetq u x1)) (decide (meetq u x4 = meetq u x1)) (ed l x3 x4) (ed l x4 x5) (ed l x3 x5) = false := by
      have f := colour hp hu h1 E1 h3 h5 h4 E3 E5 E4
      rw [ed_symm l x5 x4] at f
      exact f
    have t451 : T (decide (meetq u x4 = meetq u x1)) (decide (meetq u x5 = meetq u x1)) true (ed l x1 x4) (ed l x1 x5) (ed l x4 x5) = false := by
      have f := colour hp hu h1 E1 h4 h5 h1 E4 E5 E1
      rw [← z, ed_symm l x4 x1, ed_symm l x5 x1] at f
      exact f
    have t452 : T (decide (meetq u x4 = meetq u x1)) (decide (meetq u x5 = meetq u x1)) (decide (meetq u x2 = meetq u x1)) (ed l x2 x4) (ed l x2 x5) (ed l x4 x5) = false := by
      have f := colour hp hu h1 E1 h4 h5 h2 E4 E5 E2
      rw [ed_symm l x4 x2, ed_symm l x5 x2] at f
      exact f
    have t453 : T (decide (meetq u x4 = meetq u x1)) (decide (meetq u x5 = meetq u x1)) (decide (meetq u x3 = meetq u x1)) (ed l x3 x4) (ed l x3 x5) (ed l x4 x5) = false := by
      have f := colour hp hu h1 E1 h4 h5 h3 E4 E5 E3
      rw [ed_symm l x4 x3, ed_symm l x5 x3] at f
      exact f
    rw [t123, t124, t125, t132, t134, t135, t142, t143, t145, t152, t153, t154, t231, t234, t235, t241, t243, t245, t251, t253, t254, t341, t342, t345, t351, t352, t354, t451, t452, t453]
    rfl
end
end Go.Lt.P2

namespace Go.Lt.P2
open Go Go.Lt Go.Proofs
theorem r56_l0_q {x y : Int} (hx : x.natAbs < 9223372036854775808) (hy0 : 0 < y) (hy : y < 9223372036854775808) {c : Nat} {E : List (Nat × List AV)} {u w : AV} {H1 H : Hp} (hc : Cx H1 H ((c, [u, w]) :: E)) : ∀ (K : Nat) (a b : Int), 0 ≤ a → 0 ≤ b → b.natAbs < K → Nat.gcd a.natAbs b.natAbs = Nat.gcd x.natAbs y.natAbs →
    Ok (r56_l0 K x y c a b H) fun r _ => r = fq (dv x y) := by
  intro K
  induction K with
  | zero => intro a b _ _ h; omega
  | succ K ih =>
    intro a b ha0 hb0 h hg
    have hpos : 0 < Nat.gcd x.natAbs y.natAbs := Nat.gcd_pos_of_pos_right _ (by omega)
    rw [r56_l0]
    by_cases h0 : b = 0
    · subst h0
      rw [Int.natAbs_zero, Nat.gcd_zero_right] at hg
      have ea : a = ((Nat.gcd x.natAbs y.natAbs : Nat) : Int) := by omega
      subst ea
      rw [tdivSmall hx, tdivSmall (by omega)]
      refine Ok.neg (by simp) (Ok.ck (by omega) (Ok.ck (by omega) (Ok.cst hc 0 rfl rfl fun D _ _ c => ?_)))
      refine Ok.cld c (.head _) rfl (Ok.cld c (.head _) rfl (Ok.ret ?_))
      rw [fq_gcdv hy0]
    · have hm := Nat.mod_lt a.natAbs (show 0 < b.natAbs by omega)
      have e := Int.natAbs_tmod a b
      have hn := Int.tmod_nonneg b ha0
      exact Ok.pos h0 (Ok.ck h0 (ih b (Int.tmod a b) hb0 hn (by omega) (by rw [e]; exact (gcd_step _ _).trans hg)))
/-- Frac -/
theorem r56_q {a b : Int} (ha : a.natAbs < 9223372036854775808) (hb : 0 < b) (hb2 : b < 9223372036854775808) (H : Hp) : Ok (r56 a b H) fun r _ => r = fq (dv a b) := by
  unfold r56
  refine Ok.box (.nil H) fun A _ c => Ok.neg (by omega) ?_
  unfold r56_j1
  rw [w64Abs ha]
  exact r56_l0_q ha hb hb2 c FUEL _ b (by omega) (by omega) (by unfold FUEL; omega) (by simp)
end Go.Lt.P2

namespace Go.Lt.P2
open Go Go.Lt Go.Proofs
/-- keeps of the reference -/
theorem r75_ok {a b c x y d : Int} (hs : sideP (a, b, c)) (hx : -1000000 ≤ x ∧ x ≤ 1000000) (hy : -1000000 ≤ y ∧ y ≤ 1000000) (hd : -1000000 ≤ d ∧ d ≤ 1000000) : Ok (r75 a b c x y d H0) fun r _ => r = decide (a * x + b * y ≤ c * d) := by
  unfold sideP at hs
  dsimp only at hs
  have b1 := mul_bd (A := 4) (B := 1000000) (x := a) (y := x) (by omega) (by omega) (by omega) (by omega)
  have b2 := mul_bd (A := 4) (B := 1000000) (x := b) (y := y) (by omega) (by omega) (by omega) (by omega)
  have b3 := mul_bd (A := 40) (B := 1000000) (x := c) (y := d) (by omega) (by omega) (by omega) (by omega)
  unfold r75
  refine Ok.box (.nil H0) fun A _ c => Ok.cld c (.head _) rfl (Ok.cld c (.head _) rfl (Ok.cld c (.head _) rfl ?_))
  rw [w64_id (n := _ * x) (by omega) (by omega), w64_id (n := _ * y) (by omega) (by omega), w64_id (n := _ * d) (by omega) (by omega), w64_id (by omega) (by omega)]
  exact Ok.ret rfl
end Go.Lt.P2

namespace Go.Lt.P2
open Go Go.Lt Go.Proofs
/-- what one appends to, or an empty literal -/
def AccE {T : Type} [El T] (n0 : Nat) (H : Hp) (v : Sl) (l : List T) : Prop := AccL n0 H v l ∨ (l = [] ∧ v.nil = false ∧ v.o = 0 ∧ v.len = 0 ∧ v.cap = 0 ∧ v.opn = 0)
theorem appE {T : Type} [El T] {H : Hp} (x : List T) {es k : Nat} {cs : List AV} (hes : es = El.sz T) (hcs : cs = encs x) (hk : k = x.length) (hb : x.length ≤ 4294967296) : Ok ((H.push (.cells [] false)).app es ⟨false, H.n, 0, 0, 0, 0⟩ cs k) fun v' H' => Gr H H' ∧ AccE H.n H' v' x := by
  subst hes; subst hcs; subst hk
  by_cases h0 : x = []
  · subst h0
    unfold Hp.app
    simp only [List.length_nil, Nat.zero_add, Nat.zero_le, if_true, Nat.le_refl, encs, List.flatMap_nil, Hp.sts, Option.map_some]
    rw [if_neg (by simp)]
    exact Ok.ret ⟨.push _ _, .inr ⟨rfl, rfl, rfl, rfl, rfl, rfl⟩⟩
  · have hp := List.length_pos_iff.2 h0
    obtain ⟨w, H', h1, g, h2, h3, h4, h5, h6, h7, h8⟩ := app_new (H := H) (xs := encs x) (es := El.sz T) (k := x.length) El.pos (encs_len x) hb
    have ho : w.opn = El.sz T := by
      unfold Hp.app at h1
      simp only [Nat.zero_add] at h1
      rw [if_pos hb] at h1
      split at h1
      · rename_i h; exact absurd h (by omega)
      · simp only [Nat.zero_mul, Hp.lds, Option.bind_some, if_true] at h1
        cases h1; rfl
    exact ⟨w, H', h1, g, .inl (.inr ⟨h3, h4, ho, by omega, h7, h2, by rw [encs_len, h5]⟩)⟩
theorem AccE.push {T : Type} [El T] {H0 H : Hp} {v : Sl} {l : List T} (h : AccE H0.n H v l) (g : Gr H0 H) (x : T) {es : Nat} {cs : List AV} (hes : es = El.sz T) (hcs : cs = El.enc x) (hb : l.length < 4294967296) : Ok (H.apN es v cs 1) fun v' H' => AccL H0.n H' v' (l ++ [x]) ∧ Gr H0 H' := by
  rcases h with h | ⟨rfl, h1, h2, h3, h4, h5⟩
  · exact (AccL.push h g x hes hcs hb).mono fun _ _ h => ⟨h.1, h.2.1⟩
  · subst hes; subst hcs
    unfold Hp.apN Hp.app
    rw [h3, h4, h5]
    simp only [Nat.zero_add, Nat.zero_mul, Hp.lds, Option.bind_some, if_true, List.nil_append]
    rw [if_pos (by omega), if_neg (by omega)]
    refine Ok.ret ⟨.inr ⟨rfl, rfl, rfl, rfl, ?_, ?_, ?_⟩, g.trans ((Gr.push _ _).trans (.push _ _))⟩
    · simp; have := g.1; omega
    · rw [encs_one]; exact Hp.get_push_new _ _
    · rw [encs_len]; rfl
theorem AccL.app0 {T : Type} [El T] {H0 H : Hp} {v : Sl} {l : List T} (h : AccL H0.n H v l) (g : Gr H0 H) (x : List T) {es n : Nat} {cs : List AV} (hes : es = El.sz T) (hcs : cs = encs x) (hn : n = x.length) (hb : l.length + x.length ≤ 4294967296) : Ok (H.app es v cs n) fun v' H' => AccL H0.n H' v' (l ++ x) ∧ Gr H0 H' := by
  subst hes; subst hcs; subst hn
  have hl := h.len
  obtain ⟨v', H', h1, h2, h3, _⟩ := Acc.app (k := x.length) h El.pos (encs_len x) (by rw [hl]; exact hb) g.1
  refine ⟨v', H', h1, ?_, h3.gr h g⟩
  unfold AccL
  rw [encs_append]
  exact h2
theorem wth_skip {p : Pq} : ∀ {l : List Pq} {i : Nat}, (∀ x ∈ l.take i, ptlt x p) → wth p l = l.take i ++ wth p (l.drop i)
  | _, 0, _ => rfl
  | [], i + 1, _ => by simp [wth]
  | q :: l, i + 1, h => by
    rw [wth, if_pos (h q (by simp)), List.take_succ_cons, List.drop_succ_cons, List.cons_append]
    congr 1
    exact wth_skip fun x hx => h x (by rw [List.take_succ_cons]; exact .tail _ hx)
theorem pc_beq {q p : Pq} : ((((fq q.1).1 == (fq p.1).1) && ((fq q.1).2 == (fq p.1).2)) && (((fq q.2).1 == (fq p.2).1) && ((fq q.2).2 == (fq p.2).2))) = decide (q = p) := by
  rw [fq_beq, fq_beq]
  refine Bool.eq_iff_iff.2 ?_
  simp only [Bool.and_eq_true, decide_eq_true_iff]
  exact ⟨fun h => Prod.ext h.1 h.2, fun h => by rw [h]; exact ⟨rfl, rfl⟩⟩
/-- with -/
theorem r91_ok {H : Hp} {v : Sl} {l : List Pq} {p : Pq} (hv : SL H v l) (hb : l.length ≤ 1000000) (hl : ∀ x ∈ l, qp x) (hp : qp p) : Ok (r91 v (fq p.1).1 (fq p.1).2 (fq p.2).1 (fq p.2).2 H) fun w H' => Gr H H' ∧ SL H' w (wth p l) := by
  unfold r91
  refine Ok.box (.nil H) fun A gA c => ?_
  have hvA := hv.gr gA
  have hlen := hv.len
  have hcap := hv.cap
  have hopn := hv.opn
  have es : El.sz Pq = 4 := rfl
  rw [es] at hopn
  refine Ok.loop (L := fun K (s : Int) H2 => r91_l0 K v H.n s H2) (fun m s H' => H' = A ∧ ∃ i : Nat, s = i ∧ i + m = l.length ∧ ∀ x ∈ l.take i, ptlt x p) ?_ FUEL l.length 0 A (by unfold FUEL; omega) ⟨rfl, 0, rfl, by omega, by simp⟩
  rintro K m s H1 ⟨rfl, i, rfl, hm, ht⟩ ih
  try dsimp only at *
  rw [r91_l0]
  have hw := wth_skip ht
  have ins : (h : i ≤ l.length) → wth p l = l.take i ++ p :: l.drop i → Ok (r91_j2 v H.n i false H1) fun w H' => Gr H H' ∧ SL H' w (wth p l) := fun hi hw => by
    unfold r91_j2
    have c1 := hvA.cut (lo := 0) (hi := i) (by omega) (by omega)
    rw [List.drop_zero, Nat.sub_zero] at c1
    have c2 := hvA.cut (lo := i) (hi := l.length) (by omega) (by omega)
    have e2 : (l.drop i).take (l.length - i) = l.drop i := List.take_of_length_le (by simp)
    rw [e2] at c2
    have l1 := c1.len
    have l2 := c2.len
    rw [Int.toNat_natCast, hlen, Int.toNat_natCast]
    refine Ok.neg (by simp) (Ok.ck ⟨by omega, hopn⟩ ?_)
    have g0 := Gr.push H1 (.cells [] false)
    refine Ok.ld ((c1.gr g0).lds) (Ok.ck (encs_all _) ?_)
    refine Ok.bind (appE (H := H1) (l.take i) rfl rfl l1 (by rw [List.length_take]; omega)) fun w1 B ⟨gB, hw1⟩ => ?_
    have cB := c.gr gB
    refine Ok.cld cB (.head _) rfl (Ok.cld cB (.head _) rfl (Ok.cld cB (.head _) rfl (Ok.cld cB (.head _) rfl ?_)))
    refine Ok.bind (hw1.push gB p rfl rfl (by rw [List.length_take]; omega)) fun w2 C ⟨hw2, gC⟩ => ?_
    refine Ok.ck ⟨by omega, hopn⟩ ?_
    refine Ok.ld ((c2.gr gC).lds) (Ok.ck (encs_all _) ?_)
    refine Ok.bind (AccL.app0 hw2 gC (l.drop i) rfl rfl l2 (by simp only [List.length_append, List.length_take, List.length_drop, List.length_singleton]; omega)) fun w3 D ⟨hw3, gD⟩ => ?_
    have c0 := c.gr g0
    refine Ok.cck c (.head _) rfl (Ok.cck c (.head _) rfl (Ok.cck c (.head _) rfl (Ok.cck c (.head _) rfl (Ok.cck c0 (.head _) rfl (Ok.cck c0 (.head _) rfl (Ok.cck c0 (.head _) rfl (Ok.cck c0 (.head _) rfl (Ok.ret ⟨c.g.trans gD, ?_⟩))))))))
    rw [hw]
    have := AccL.sl hw3
    rw [List.append_assoc] at this
    exact this
  by_cases h : i < l.length
  · have hx := hl _ (List.getElem_mem h)
    have l0 := hvA.ldI (i := i) (j := 0) h rfl
    have l1 := hvA.ldI (i := i) (j := 1) h rfl
    have l2 := hvA.ldI (i := i) (j := 2) h rfl
    have l3 := hvA.ldI (i := i) (j := 3) h rfl
    refine Ok.pos (by omega) (Ok.ck (by omega) (Ok.ld l0 (Ok.ld l1 (Ok.ld l2 (Ok.ld l3 (Ok.cld c (.head _) rfl (Ok.cld c (.head _) rfl (Ok.cld c (.head _) rfl (Ok.cld c (.head _) rfl (Ok.own (r110_q hx hp) fun X => ?_)))))))))) 
    unfold r91_j1
    refine Ok.ite (fun hc => ?_) fun hc => ?_
    · rw [w64_succ (by omega)]
      refine ih (m - 1) _ _ (by omega) ⟨rfl, i + 1, rfl, by omega, fun x hx => ?_⟩
      rw [List.take_succ_eq_append_getElem h] at hx
      rcases List.mem_append.1 hx with hx | hx
      · exact ht x hx
      · rw [List.mem_singleton] at hx; subst hx; exact of_decide_eq_true hc
    · have hnlt : ¬ ptlt l[i] p := fun q => hc (decide_eq_true q)
      refine Ok.pos (by omega) (Ok.ck (by omega) (Ok.ld l0 (Ok.ld l1 (Ok.ld l2 (Ok.ld l3 (Ok.cld c (.head _) rfl (Ok.cld c (.head _) rfl (Ok.cld c (.head _) rfl (Ok.cld c (.head _) rfl ?_))))))))) 
      rw [pc_beq]
      rw [List.drop_eq_getElem_cons h, wth, if_neg hnlt] at hw
      by_cases he : l[i] = p
      · rw [decide_eq_true he]
        rw [if_pos he, ← List.drop_eq_getElem_cons h, List.take_append_drop] at hw
        unfold r91_j2
        rw [hw]
        exact Ok.pos rfl (Ok.ret ⟨c.g, hvA⟩)
      · rw [decide_eq_false he]
        rw [if_neg he, ← List.drop_eq_getElem_cons h] at hw
        exact ins (by omega) hw
  · refine Ok.neg (by omega) ?_
    unfold r91_j1
    refine Ok.neg (by simp) (Ok.neg (by omega) (ins (by omega) ?_))
    rw [List.drop_of_length_le (by omega)] at hw ⊢
    exact hw
end Go.Lt.P2

namespace Go.Lt.P2
open Go Go.Lt Go.Proofs
/-- the corners as the reference makes them -/
def rcs (q : List Cn) : List Pq := q.foldl (fun acc c => wth c.1 acc) []
theorem rcs_srt (q : List Cn) : (rcs q).Pairwise ptlt := by
  unfold rcs
  have key : ∀ (q : List Cn) (acc : List Pq), acc.Pairwise ptlt → (q.foldl (fun acc c => wth c.1 acc) acc).Pairwise ptlt := by
    intro q
    induction q with
    | nil => intro acc h; exact h
    | cons c q ih => intro acc h; exact ih _ (wth_srt h)
  exact key q [] .nil
theorem mem_rcs {q : List Cn} {p : Pq} : p ∈ rcs q ↔ ∃ c ∈ q, c.1 = p := by
  unfold rcs
  have key : ∀ (q : List Cn) (acc : List Pq), p ∈ q.foldl (fun acc c => wth c.1 acc) acc ↔ p ∈ acc ∨ ∃ c ∈ q, c.1 = p := by
    intro q
    induction q with
    | nil => intro acc; simp
    | cons c q ih =>
      intro acc
      rw [List.foldl_cons, ih, mem_wth]
      constructor
      · rintro ((rfl | h) | ⟨d, hd, h⟩)
        · exact .inr ⟨c, .head _, rfl⟩
        · exact .inl h
        · exact .inr ⟨d, .tail _ hd, h⟩
      · rintro (h | ⟨d, hd, h⟩)
        · exact .inl (.inr h)
        · rcases List.mem_cons.1 hd with rfl | hd
          · exact .inl (.inl h.symm)
          · exact .inr ⟨d, hd, h⟩
  rw [key]
  simp
theorem wth_len {p : Pq} : ∀ {l : List Pq}, (wth p l).length ≤ l.length + 1
  | [] => by simp [wth]
  | q :: l => by
    rw [wth]
    have := wth_len (p := p) (l := l)
    split
    · simp only [List.length_cons]; omega
    · split
      · simp
      · simp
theorem rcs_len (q : List Cn) : (rcs q).length ≤ q.length := by
  unfold rcs
  have key : ∀ (q : List Cn) (acc : List Pq), (q.foldl (fun acc c => wth c.1 acc) acc).length ≤ acc.length + q.length := by
    intro q
    induction q with
    | nil => intro acc; simp
    | cons c q ih =>
      intro acc
      rw [List.foldl_cons, List.length_cons]
      have := ih (wth c.1 acc)
      have := wth_len (p := c.1) (l := acc)
      omega
  have := key q []
  simpa using this
theorem rcs_snoc (q : List Cn) (c : Cn) : rcs (q ++ [c]) = wth c.1 (rcs q) := by unfold rcs; rw [List.foldl_append]; rfl
theorem cno_len (l : List Sd) (i : Nat) : (cno l i).length ≤ i := by
  unfold cno
  exact Nat.le_trans (List.length_filterMap_le _ _) (by rw [List.length_take]; omega)
theorem flatm_len {β : Type} {f : Nat → List β} {k : Nat} : ∀ {l : List Nat}, (∀ x ∈ l, (f x).length ≤ k) → (l.flatMap f).length ≤ l.length * k
  | [], _ => by simp
  | x :: l, h => by
    rw [List.flatMap_cons, List.length_append, List.length_cons, Nat.add_mul, Nat.one_mul]
    have a := h x (.head _)
    have b := flatm_len (l := l) fun y hy => h y (.tail _ hy)
    omega
theorem lqs_dv {u : Sd} {x y d : Int} (hd : 0 < d) : lqs u (dv x d, dv y d) ↔ u.1 * x + u.2.1 * y ≤ u.2.2 * d := by
  have h0 := cast_pos hd
  have e : atq u.1 u.2.1 (dv x d, dv y d) = dv (u.1 * x + u.2.1 * y) d := by
    unfold atq dv
    push_cast
    grind
  unfold lqs
  rw [e, ← dv_int, dv_le_iff hd (by decide), Int.mul_one]
section
variable {l : List Sd} {v : Sl}
theorem r54_l2_ok {B H : Hp} {w wv : Sl} {q : List Cn} {s t : Sd} {X Y D lu iu lw jw : Int} {c : Nat} {kt : Sl → Sl → Nat → Sl → Int → Int → Sl → Int → Int → Hp → Option (Sl × Hp)} {Q : Sl → Hp → Prop}
    (hv : SL B v l) (hb : l.length ≤ 1000) (hs : ∀ s ∈ l, sideP s) (g : Gr B H) (hw : SL H w (rcs q)) (hq : (rcs q).length ≤ 1000000) (hqp : ∀ p ∈ rcs q, qp p) (hD : 0 < D ∧ D ≤ 32) (hX : -320 ≤ X ∧ X ≤ 320) (hY : -320 ≤ Y ∧ Y ≤ 320) (hm : meetq s t = (dv X D, dv Y D)) (h0 : crI s t ≠ 0) (hj : 0 ≤ jw ∧ jw < 1000000)
    (kN : ∀ w' H', Gr H H' → SL H' w' (rcs (q ++ (cn l s t).toList)) → Ok (kt v w' c v lu iu wv lw (jw + 1) H') Q) :
    Ok (r54_j3 kt v w c D X Y v lu iu wv lw jw H) Q := by
  unfold r54_j3
  have hlen := hv.len
  rw [hlen]
  have e : qp (meetq s t) := by
    rw [hm]
    exact ⟨(qb_dv hD.1 (by omega) (by omega) (by omega)).mono (N := 320) (D := 32) (by decide) (by decide), (qb_dv hD.1 (by omega) (by omega) (by omega)).mono (N := 320) (D := 32) (by decide) (by decide)⟩
  refine Ok.loop (L := fun K (s : Bool × Int) H2 => r54_l2 kt K v w c D X Y s.1 v lu iu wv lw jw v l.length s.2 H2) (fun m s' H' => Gr H H' ∧ ∃ i : Nat, s'.2 = i ∧ i + m = l.length ∧ s'.1 = decide (inP (l.take i) (meetq s t))) ?_ FUEL l.length (true, 0) H (by unfold FUEL; omega) ⟨.refl _, 0, rfl, by omega, by simp [inP]⟩
  rintro K m ⟨fl, j⟩ H1 ⟨g1, i, rfl, hm', hfl⟩ ih
  try dsimp only at *
  subst hfl
  rw [r54_l2]
  by_cases h : i < l.length
  · have hg := hv.gr (g.trans g1)
    have hx := hs _ (List.getElem_mem h)
    have c0 : Cx H1 H1 [] := .nil H1
    refine Ok.pos (by omega) (Ok.ck (by omega) (Ok.ld (hg.ldI (i := i) (j := 0) h rfl) (Ok.ld (hg.ldI (i := i) (j := 1) h rfl) (Ok.ld (hg.ldI (i := i) (j := 2) h rfl) (Ok.alo c0 fun E gE cx => ?_)))))
    have nxt : ∀ b, b = decide (inP (l.take (i + 1)) (meetq s t)) → Ok (r54_l2 kt K v w c D X Y b v lu iu wv lw jw v l.length (w64 ((i : Int) + 1)) E) Q := fun b hbb => by
      rw [w64_succ (by omega)]
      exact ih (m - 1) (b, _) E (by omega) ⟨g1.trans gE, i + 1, rfl, by omega, hbb⟩
    refine Ok.ite (fun hc => ?_) fun hc => nxt _ ?_
    · refine Ok.cld cx (.head _) rfl (Ok.cld cx (.head _) rfl (Ok.cld cx (.head _) rfl (Ok.own (r75_ok hx (by omega) (by omega) (by omega)) fun _ => nxt _ ?_)))
      have hc := of_decide_eq_true hc
      refine decide_eq_decide.2 ?_
      have e1 : lqs l[i] (meetq s t) ↔ l[i].1 * X + l[i].2.1 * Y ≤ l[i].2.2 * D := by rw [hm]; exact lqs_dv hD.1
      rw [List.take_succ_eq_append_getElem h]
      constructor
      · intro k u hu
        rcases List.mem_append.1 hu with hu | hu
        · exact hc u hu
        · rw [List.mem_singleton] at hu; subst hu; exact e1.2 k
      · intro k; exact e1.1 (k _ (List.mem_append_right _ (List.mem_singleton_self _)))
    · symm
      rw [decide_eq_false_iff_not]
      intro k
      exact hc (decide_eq_true fun u hu => k u (by rw [List.take_succ_eq_append_getElem h]; exact List.mem_append_left _ hu))
  · rw [List.take_of_length_le (by omega)]
    refine Ok.neg (by omega) (Ok.ite (fun hc => ?_) fun hc => ?_)
    · have hin : inP l (meetq s t) := of_decide_eq_true hc
      have ecn : cn l s t = some (meetq s t, s, t) := by unfold cn; rw [if_pos ⟨h0, hin⟩]
      refine Ok.own (r56_q (by omega) hD.1 (by omega) H0) fun _ => Ok.own (r56_q (by omega) hD.1 (by omega) H0) fun _ => ?_
      have e1 : (meetq s t).1 = dv X D := by rw [hm]
      have e2 : (meetq s t).2 = dv Y D := by rw [hm]
      rw [← e1, ← e2]
      refine Ok.bind (r91_ok (hw.gr g1) hq hqp e) fun w' E ⟨gE, hw'⟩ => ?_
      rw [w64_id (by omega) (by omega)]
      refine kN w' E (g1.trans gE) ?_
      rw [ecn]
      show SL E w' (rcs (q ++ [(meetq s t, s, t)]))
      rw [rcs_snoc]
      exact hw'
    · have ecn : cn l s t = none := by
        unfold cn
        rw [if_neg]
        intro k
        exact hc (decide_eq_true k.2)
      rw [w64_id (by omega) (by omega)]
      refine kN w H1 g1 ?_
      rw [ecn]
      simpa using hw.gr g1
theorem rcs_qp {q : List Cn} (hs : ∀ s ∈ l, sideP s) (h : ∀ c ∈ q, c ∈ cs l) : ∀ p ∈ rcs q, qp p := fun p hp => by
  obtain ⟨c, hc, rfl⟩ := mem_rcs.1 hp
  have k := cs_mem (h c hc)
  rw [k.2.2.2.1]
  exact meet_qp (hs _ k.1) (hs _ k.2.1) k.2.2.1
theorem cs_len {l : List Sd} (hb : l.length ≤ 1000) : (cs l).length ≤ 1000000 := by
  unfold cs
  have := flatm_len (f := cno l) (l := List.range l.length) (k := l.length) fun i hi => Nat.le_trans (cno_len l i) (by rw [List.mem_range] at hi; omega)
  rw [List.length_range] at this
  have h2 := Nat.mul_le_mul hb hb
  omega
theorem pre_cs {l : List Sd} {i : Nat} (h : i < l.length) : (List.range i).flatMap (cno l) ++ cno l i <+: cs l := by
  rw [← range_succ_flatMap]
  unfold cs
  have : l.length = (i + 1) + (l.length - (i + 1)) := by omega
  rw [this, List.range_add (n := i + 1), List.flatMap_append]
  exact List.prefix_append _ _
/-- Corners of the reference -/
theorem r54_ok {H : Hp} (hv : SL H v l) (hb : l.length ≤ 1000) (hs : ∀ s ∈ l, sideP s) : Ok (r54 v H) fun w H' => Gr H H' ∧ SL H' w (rcs (cs l)) := by
  unfold r54
  have hlen := hv.len
  rw [hlen]
  have pl : ∀ {q : List Cn}, q <+: cs l → (rcs q).length ≤ 1000000 ∧ ∀ p ∈ rcs q, qp p := fun {q} h => by
    have h1 := rcs_len q
    have h2 := h.length_le
    have h3 := cs_len hb
    exact ⟨by omega, rcs_qp hs fun c hc => h.subset hc⟩
  refine Ok.loop (L := fun K (s : Sl × Int) H2 => r54_l0 K v s.1 v l.length s.2 H2) (fun m s H' => Gr H H' ∧ ∃ i : Nat, s.2 = i ∧ i + m = l.length ∧ SL H' s.1 (rcs ((List.range i).flatMap (cno l)))) ?_ FUEL l.length (⟨true, 0, 0, 0, 0, 0⟩, 0) H (by unfold FUEL; omega) ⟨.refl _, 0, rfl, by omega, .nilS⟩
  rintro K m ⟨w, s⟩ H1 ⟨g1, i, rfl, hm, hw⟩ ih
  try dsimp only at *
  rw [r54_l0]
  by_cases h : i < l.length
  · have hg := hv.gr g1
    have c0 : Cx H1 H1 [] := .nil H1
    have hcap := hv.cap
    have hopn := hv.opn
    have es : El.sz Sd = 3 := rfl
    rw [es] at hopn
    refine Ok.pos (by omega) (Ok.ck (by omega) (Ok.ld (hg.ldI (i := i) (j := 0) h rfl) (Ok.ld (hg.ldI (i := i) (j := 1) h rfl) (Ok.ld (hg.ldI (i := i) (j := 2) h rfl) (Ok.alo c0 fun D gD cx => Ok.ck ⟨by omega, hopn⟩ ?_)))))
    have hcut := hg.cut (lo := 0) (hi := i) (by omega) (by omega)
    rw [List.drop_zero, Nat.sub_zero] at hcut
    have hil : (l.take i).length = i := by rw [List.length_take]; omega
    have hcl := hcut.len
    rw [hil] at hcl
    rw [Int.toNat_natCast]
    have e3 : (v.cut 3 (0 : Int).toNat i).len = i := hcl
    rw [e3]
    have hsd := cx.e _ (.head _)
    have hcut := hcut.gr gD
    have hsl := hs _ (List.getElem_mem h)
    refine Ok.loop (L := fun K' (s : Sl × Int) H2 => r54_l1 (fun v1_ v2_ v3_ v4_ v5_ H_ => r54_l0 K v1_ v2_ v3_ v4_ v5_ H_) K' v s.1 H1.n v l.length i (v.cut 3 (0 : Int).toNat i) i s.2 H2) (fun m s H' => Gr D H' ∧ ∃ j : Nat, s.2 = j ∧ j + m = i ∧ SL H' s.1 (rcs ((List.range i).flatMap (cno l) ++ ((l.take i).take j).filterMap (cn l l[i])))) ?_ FUEL i (w, 0) D (by unfold FUEL; omega) ⟨.refl _, 0, rfl, by omega, by simpa using hw.gr gD⟩
    rintro K' m' ⟨w', s'⟩ H2 ⟨g2, j, rfl, hm', hw'⟩ ih'
    try dsimp only at *
    rw [r54_l1]
    have pre : ∀ j', ((List.range i).flatMap (cno l) ++ ((l.take i).take j').filterMap (cn l l[i])) <+: cs l := fun j' => by
      refine List.IsPrefix.trans ?_ (pre_cs h)
      refine (List.prefix_append_right_inj _).2 ?_
      unfold cno
      rw [getElem!_pos l i h]
      conv => rhs; rw [← List.take_append_drop j' (l.take i), List.filterMap_append]
      exact List.prefix_append _ _
    by_cases h2 : j < i
    · have hg2 := hcut.gr g2
      have hj : j < (l.take i).length := by omega
      have et : (l.take i)[j] = l[j] := by rw [List.getElem_take]
      have htl := hs _ (List.getElem_mem (show j < l.length by omega))
      have l0 := hg2.ldI (i := j) (j := 0) (n := l[j].1) hj (by rw [et]; rfl)
      have l1 := hg2.ldI (i := j) (j := 1) (n := l[j].2.1) hj (by rw [et]; rfl)
      have l2 := hg2.ldI (i := j) (j := 2) (n := l[j].2.2) hj (by rw [et]; rfl)
      have cE : Cx H2 H2 [] := .nil H2
      have bd := meet_bd hsl htl
      have eq1 : ((l.take i).take (j + 1)).filterMap (cn l l[i]) = ((l.take i).take j).filterMap (cn l l[i]) ++ (cn l l[i] l[j]).toList := by
        rw [List.take_succ_eq_append_getElem hj, List.filterMap_append, et]
        cases h : cn l l[i] l[j] <;> simp [h]
      refine Ok.pos (by omega) (Ok.ck (by omega) (Ok.ld l0 (Ok.ld l1 (Ok.ld l2 (Ok.alo cE fun E gE cE => ?_)))))
      have sE : E.get H1.n = some (.cells (sc l[i]) false) := by rw [(g2.trans gE).2 _ (Hp.get_lt hsd)]; exact hsd
      refine Ok.ld (ldI_get sE rfl) (Ok.cld cE (.head _) rfl (Ok.cld cE (.head _) rfl (Ok.ld (ldI_get sE rfl) ?_)))
      have ecr : l[i].1 * l[j].2.1 - l[j].1 * l[i].2.1 = crI l[i] l[j] := by unfold crI; rw [Int.mul_comm l[j].1]
      have m1 : -16 ≤ l[i].1 * l[j].2.1 ∧ l[i].1 * l[j].2.1 ≤ 16 := mul_bd (A := 4) (B := 4) hsl.1.1 hsl.1.2 htl.2.1.1 htl.2.1.2
      have m2 : -16 ≤ l[j].1 * l[i].2.1 ∧ l[j].1 * l[i].2.1 ≤ 16 := mul_bd (A := 4) (B := 4) htl.1.1 htl.1.2 hsl.2.1.1 hsl.2.1.2
      rw [w64_id (n := l[i].1 * l[j].2.1) (by omega) (by omega), w64_id (n := l[j].1 * l[i].2.1) (by omega) (by omega), w64_id (n := _ - l[j].1 * l[i].2.1) (by omega) (by omega), ecr]
      refine Ok.ite (fun h0 => ?_) fun h0 => ?_
      · rw [w64_succ (by omega)]
        refine ih' (m' - 1) (w', _) E (by omega) ⟨g2.trans gE, j + 1, rfl, by omega, ?_⟩
        have : cn l l[i] l[j] = none := by unfold cn; rw [if_neg (fun q => q.1 h0)]
        rw [eq1, this]
        simpa using hw'.gr gE
      · refine Ok.ld (ldI_get sE rfl) (Ok.cld cE (.head _) rfl (Ok.cld cE (.head _) rfl (Ok.ld (ldI_get sE rfl) (Ok.ld (ldI_get sE rfl) (Ok.cld cE (.head _) rfl (Ok.cld cE (.head _) rfl (Ok.ld (ldI_get sE rfl) ?_)))))))
        rw [w64_id (n := l[i].2.2 * l[j].2.1) (by omega) (by omega), w64_id (n := l[j].2.2 * l[i].2.1) (by omega) (by omega), w64_id (n := l[i].1 * l[j].2.2) (by omega) (by omega), w64_id (n := l[j].1 * l[i].2.2) (by omega) (by omega), w64_id (n := _ - l[j].2.2 * l[i].2.1) (by omega) (by omega), w64_id (n := _ - l[j].1 * l[i].2.2) (by omega) (by omega)]
        have pj := pl (pre j)
        have kN : ∀ w'' H'', Gr E H'' → SL H'' w'' (rcs (((List.range i).flatMap (cno l) ++ ((l.take i).take j).filterMap (cn l l[i])) ++ (cn l l[i] l[j]).toList)) → Ok (r54_l1 (fun v1_ v2_ v3_ v4_ v5_ H_ => r54_l0 K v1_ v2_ v3_ v4_ v5_ H_) K' v w'' H1.n v l.length i (v.cut 3 (0 : Int).toNat i) i ((j : Int) + 1) H'') fun w H' => Gr H H' ∧ SL H' w (rcs (cs l)) := fun w'' H'' g'' hw'' => by
          refine ih' (m' - 1) (w'', _) H'' (by omega) ⟨g2.trans (gE.trans g''), j + 1, by simp, by omega, ?_⟩
          rw [eq1, ← List.append_assoc]
          exact hw''
        have gB := g1.trans (gD.trans (g2.trans gE))
        refine Ok.ite (fun hneg => ?_) fun hneg => ?_
        · rw [w64_id (n := 0 - crI _ _) (by omega) (by omega), w64_id (n := 0 - (l[i].2.2 * l[j].2.1 - l[j].2.2 * l[i].2.1)) (by omega) (by omega), w64_id (n := 0 - (l[i].1 * l[j].2.2 - l[j].1 * l[i].2.2)) (by omega) (by omega)]
          refine r54_l2_ok (s := l[i]) (t := l[j]) hv hb hs gB (hw'.gr gE) pj.1 pj.2 (by omega) (by omega) (by omega) ?_ h0 (by omega) kN
          unfold meetq
          rw [Int.zero_sub, Int.zero_sub, Int.zero_sub, dv_neg, dv_neg]
        · exact r54_l2_ok (s := l[i]) (t := l[j]) hv hb hs gB (hw'.gr gE) pj.1 pj.2 (by omega) (by omega) (by omega) rfl h0 (by omega) kN
    · refine Ok.neg (by omega) ?_
      rw [w64_succ (by omega)]
      refine ih (m - 1) (w', _) H2 (by omega) ⟨g1.trans (gD.trans g2), i + 1, rfl, by omega, ?_⟩
      rw [range_succ_flatMap]
      have : (l.take i).take j = l.take i := List.take_of_length_le (by omega)
      rw [this] at hw'
      unfold cno
      rw [getElem!_pos l i h]
      exact hw'
  · have : i = l.length := by omega
    subst this
    exact Ok.neg (by omega) (Ok.ret ⟨g1, hw⟩)
end
end Go.Lt.P2

namespace Go.Lt.P2
open Go Go.Lt Go.Proofs
theorem fm_len (l : List Sd) (s x : Sd) (xs : List Sd) : ((x :: xs).filterMap (cn l s)).length = (ed l s x).toNat + (xs.filterMap (cn l s)).length := by
  rw [List.filterMap_cons]
  unfold ed cn
  split
  · rename_i h
    split at h
    · cases h
    · rename_i hc
      rw [decide_eq_false hc]; simp
  · rename_i h
    split at h
    · rename_i hc
      rw [decide_eq_true hc, List.length_cons]; simp; omega
    · cases h
def tri : Nat → Nat
  | 0 => 0
  | n + 1 => tri n + n
theorem cs_tri (l : List Sd) : ∀ n, ((List.range n).flatMap (cno l)).length ≤ tri n
  | 0 => by simp
  | n + 1 => by
    rw [range_succ_flatMap, List.length_append]
    have := cs_tri l n
    have := cno_len l n
    show _ ≤ tri n + n
    omega
theorem cs_all {l : List Sd} {P : Pq} (h : ∀ x ∈ l, on x P) : ∀ c ∈ cs l, c.1 = P := fun c hc => by
  have m := cs_mem hc
  rw [m.2.2.2.1]
  exact (meet_uniq m.2.2.1 (h _ m.1) (h _ m.2.1)).symm
/-- more than twelve pairs: all at one point -/
theorem cs_big {l : List Sd} (hp : ∀ s ∈ l, sideP s) (h6 : l.length ≤ 6) (hn : 12 < (cs l).length) : ∃ P, ∀ c ∈ cs l, c.1 = P := by
  have ht := cs_tri l l.length
  have hcs : (cs l).length ≤ tri l.length := ht
  by_cases hl : l.length ≤ 5
  · have : tri l.length ≤ 10 := by
      rcases (show l.length = 0 ∨ l.length = 1 ∨ l.length = 2 ∨ l.length = 3 ∨ l.length = 4 ∨ l.length = 5 by omega) with h | h | h | h | h | h <;> rw [h] <;> decide
    omega
  have hl : l.length = 6 := by omega
  obtain ⟨a, b, c, d, e, f, rfl⟩ : ∃ a b c d e f, l = [a, b, c, d, e, f] := by
    match l, hl with
    | [a, b, c, d, e, f], _ => exact ⟨a, b, c, d, e, f, rfl⟩
  generalize hL : [a, b, c, d, e, f] = L at *
  have l1 : (cno L 1).length = (ed L a b).toNat := by
    rw [← hL]
    show ([a].filterMap (cn [a, b, c, d, e, f] b)).length = _
    simp only [fm_len, List.filterMap_nil, List.length_nil, Nat.add_zero, ed_symm [a, b, c, d, e, f] b]
    try omega
  have l2 : (cno L 2).length = (ed L a c).toNat + (ed L b c).toNat := by
    rw [← hL]
    show ([a, b].filterMap (cn [a, b, c, d, e, f] c)).length = _
    simp only [fm_len, List.filterMap_nil, List.length_nil, Nat.add_zero, ed_symm [a, b, c, d, e, f] c]
    try omega
  have l3 : (cno L 3).length = (ed L a d).toNat + (ed L b d).toNat + (ed L c d).toNat := by
    rw [← hL]
    show ([a, b, c].filterMap (cn [a, b, c, d, e, f] d)).length = _
    simp only [fm_len, List.filterMap_nil, List.length_nil, Nat.add_zero, ed_symm [a, b, c, d, e, f] d]
    try omega
  have l4 : (cno L 4).length = (ed L a e).toNat + (ed L b e).toNat + (ed L c e).toNat + (ed L d e).toNat := by
    rw [← hL]
    show ([a, b, c, d].filterMap (cn [a, b, c, d, e, f] e)).length = _
    simp only [fm_len, List.filterMap_nil, List.length_nil, Nat.add_zero, ed_symm [a, b, c, d, e, f] e]
    try omega
  have l5 : (cno L 5).length = (ed L a f).toNat + (ed L b f).toNat + (ed L c f).toNat + (ed L d f).toNat + (ed L e f).toNat := by
    rw [← hL]
    show ([a, b, c, d, e].filterMap (cn [a, b, c, d, e, f] f)).length = _
    simp only [fm_len, List.filterMap_nil, List.length_nil, Nat.add_zero, ed_symm [a, b, c, d, e, f] f]
    try omega
  have hsum : (cs L).length = (cno L 0).length + ((cno L 1).length + ((cno L 2).length + ((cno L 3).length + ((cno L 4).length + (cno L 5).length)))) := by
    unfold cs
    rw [hl, show List.range 6 = [0, 1, 2, 3, 4, 5] from rfl]
    simp only [List.flatMap_cons, List.flatMap_nil, List.length_append, List.length_nil, Nat.add_zero]
  have l0 : (cno L 0).length = 0 := by
    have := cno_len L 0; omega
  have m0 : a ∈ L := by rw [← hL]; simp
  have m1 : b ∈ L := by rw [← hL]; simp
  have m2 : c ∈ L := by rw [← hL]; simp
  have m3 : d ∈ L := by rw [← hL]; simp
  have m4 : e ∈ L := by rw [← hL]; simp
  have m5 : f ∈ L := by rw [← hL]; simp
  have q01 := Bool.toNat_le (ed L a b)
  have q02 := Bool.toNat_le (ed L a c)
  have q03 := Bool.toNat_le (ed L a d)
  have q04 := Bool.toNat_le (ed L a e)
  have q05 := Bool.toNat_le (ed L a f)
  have q12 := Bool.toNat_le (ed L b c)
  have q13 := Bool.toNat_le (ed L b d)
  have q14 := Bool.toNat_le (ed L b e)
  have q15 := Bool.toNat_le (ed L b f)
  have q23 := Bool.toNat_le (ed L c d)
  have q24 := Bool.toNat_le (ed L c e)
  have q25 := Bool.toNat_le (ed L c f)
  have q34 := Bool.toNat_le (ed L d e)
  have q35 := Bool.toNat_le (ed L d f)
  have q45 := Bool.toNat_le (ed L e f)
  have key := bools6 (ed L a b) (ed L a c) (ed L a d) (ed L a e) (ed L a f) (ed L b c) (ed L b d) (ed L b e) (ed L b f) (ed L c d) (ed L c e) (ed L c f) (ed L d e) (ed L d f) (ed L e f) (by omega)
  simp only [Bool.or_eq_true, Bool.and_eq_true, ed_iff] at key
  rcases key with (((((⟨⟨⟨⟨k1, k2⟩, k3⟩, k4⟩, k5⟩ | ⟨⟨⟨⟨k1, k2⟩, k3⟩, k4⟩, k5⟩) | ⟨⟨⟨⟨k1, k2⟩, k3⟩, k4⟩, k5⟩) | ⟨⟨⟨⟨k1, k2⟩, k3⟩, k4⟩, k5⟩) | ⟨⟨⟨⟨k1, k2⟩, k3⟩, k4⟩, k5⟩) | ⟨⟨⟨⟨k1, k2⟩, k3⟩, k4⟩, k5⟩)
  · have h := one_pt (x1 := b) (x2 := c) (x3 := d) (x4 := e) (x5 := f) hp m0 m1 m2 m3 m4 m5 k1 k2 k3 k4 k5 (by omega)
    exact ⟨_, cs_all fun x hx => h x (by rw [← hL] at hx; simp only [List.mem_cons, List.not_mem_nil, or_false] at hx ⊢; rcases hx with rfl | rfl | rfl | rfl | rfl | rfl <;> simp)⟩
  · have h := one_pt (x1 := a) (x2 := c) (x3 := d) (x4 := e) (x5 := f) hp m1 m0 m2 m3 m4 m5 k1.sym k2 k3 k4 k5 (by omega)
    exact ⟨_, cs_all fun x hx => h x (by rw [← hL] at hx; simp only [List.mem_cons, List.not_mem_nil, or_false] at hx ⊢; rcases hx with rfl | rfl | rfl | rfl | rfl | rfl <;> simp)⟩
  · have h := one_pt (x1 := a) (x2 := b) (x3 := d) (x4 := e) (x5 := f) hp m2 m0 m1 m3 m4 m5 k1.sym k2.sym k3 k4 k5 (by omega)
    exact ⟨_, cs_all fun x hx => h x (by rw [← hL] at hx; simp only [List.mem_cons, List.not_mem_nil, or_false] at hx ⊢; rcases hx with rfl | rfl | rfl | rfl | rfl | rfl <;> simp)⟩
  · have h := one_pt (x1 := a) (x2 := b) (x3 := c) (x4 := e) (x5 := f) hp m3 m0 m1 m2 m4 m5 k1.sym k2.sym k3.sym k4 k5 (by omega)
    exact ⟨_, cs_all fun x hx => h x (by rw [← hL] at hx; simp only [List.mem_cons, List.not_mem_nil, or_false] at hx ⊢; rcases hx with rfl | rfl | rfl | rfl | rfl | rfl <;> simp)⟩
  · have h := one_pt (x1 := a) (x2 := b) (x3 := c) (x4 := d) (x5 := f) hp m4 m0 m1 m2 m3 m5 k1.sym k2.sym k3.sym k4.sym k5 (by omega)
    exact ⟨_, cs_all fun x hx => h x (by rw [← hL] at hx; simp only [List.mem_cons, List.not_mem_nil, or_false] at hx ⊢; rcases hx with rfl | rfl | rfl | rfl | rfl | rfl <;> simp)⟩
  · have h := one_pt (x1 := a) (x2 := b) (x3 := c) (x4 := d) (x5 := e) hp m5 m0 m1 m2 m3 m4 k1.sym k2.sym k3.sym k4.sym k5.sym (by omega)
    exact ⟨_, cs_all fun x hx => h x (by rw [← hL] at hx; simp only [List.mem_cons, List.not_mem_nil, or_false] at hx ⊢; rcases hx with rfl | rfl | rfl | rfl | rfl | rfl <;> simp)⟩
end Go.Lt.P2

namespace Go.Lt.P2
open Go Go.Lt Go.Proofs
def inB (s : Sd) : Prop := (-4 ≤ s.1 ∧ s.1 ≤ 4) ∧ (-4 ≤ s.2.1 ∧ s.2.1 ≤ 4) ∧ (-40 ≤ s.2.2 ∧ s.2.2 ≤ 40)
instance (s : Sd) : Decidable (inB s) := by unfold inB; infer_instance
theorem tail63 {k c : Nat} {s : Sd} {E : Hp} {Q : Bool → Hp → Prop} {F : Bool → Hp → Option (Bool × Hp)} (hc : E.get c = some (.cells [.int .i64 s.1, .int .i64 s.2.1, .int .i64 s.2.2] false)) (kF : ∀ H' b, Gr E H' → b = !decide (inB s) → Ok (F b H') Q) :
    Ok ((r79 (appA (k + 1)) 4 ⟨false, E.n, 0, 2, 2, 0⟩ (E.push (.cells [.int .i64 s.1, .int .i64 s.2.1] false))).bind fun p => if p.1 = true then ((p.2.ldI .i64 c (0 + 2)).bind fun x => (r79 (appA (k + 1)) 40 ⟨false, p.2.n, 0, 1, 1, 0⟩ (p.2.push (.cells [.int .i64 x] false))).bind fun q => F (!q.1) q.2) else F true p.2) Q := by
  have gp := Gr.push E (.cells [.int .i64 s.1, .int .i64 s.2.1] false)
  have hs : SL (T := Int) (E.push (.cells [.int .i64 s.1, .int .i64 s.2.1] false)) ⟨false, E.n, 0, 2, 2, 0⟩ [s.1, s.2.1] := .of_get (ro := false) (Hp.get_push_new _ _) rfl rfl (Nat.le_refl _) (.inl rfl) rfl
  generalize E.push (.cells [.int .i64 s.1, .int .i64 s.2.1] false) = A at *
  refine Ok.bind (r79_ok (by omega) hs (by simp)) fun r B ⟨gB, hr⟩ => ?_
  subst hr
  by_cases h1 : ∃ x ∈ [s.1, s.2.1], x < -4 ∨ 4 < x
  · rw [decide_eq_true h1]
    refine Ok.neg (by simp) (kF _ _ (gp.trans gB) ?_)
    symm
    rw [decide_eq_false]
    · rfl
    · intro hb
      obtain ⟨x, hx, h2⟩ := h1
      unfold inB at hb
      simp only [List.mem_cons, List.not_mem_nil, or_false] at hx
      rcases hx with rfl | rfl <;> omega
  · rw [decide_eq_false h1]
    have g2 := gp.trans gB
    have hcB : B.get c = some (.cells [.int .i64 s.1, .int .i64 s.2.1, .int .i64 s.2.2] false) := by rw [g2.2 _ (Hp.get_lt hc)]; exact hc
    refine Ok.pos (by simp) (Ok.ld (ldI_get hcB rfl) ?_)
    have gq := Gr.push B (.cells [.int .i64 s.2.2] false)
    have hs2 : SL (T := Int) (B.push (.cells [.int .i64 s.2.2] false)) ⟨false, B.n, 0, 1, 1, 0⟩ [s.2.2] := .of_get (ro := false) (Hp.get_push_new _ _) rfl rfl (Nat.le_refl _) (.inl rfl) rfl
    refine Ok.bind (r79_ok (k := k) (c := 40) (by omega) hs2 (by simp)) fun r C ⟨gC, hr⟩ => ?_
    subst hr
    refine kF _ _ (g2.trans (gq.trans gC)) ?_
    congr 1
    refine Bool.eq_iff_iff.2 ?_
    rw [Bool.not_eq_true', decide_eq_false_iff_not, decide_eq_true_iff]
    unfold inB
    have q1 : ¬ (s.1 < -4 ∨ 4 < s.1) := fun q => h1 ⟨s.1, by simp, q⟩
    have q2 : ¬ (s.2.1 < -4 ∨ 4 < s.2.1) := fun q => h1 ⟨s.2.1, by simp, q⟩
    constructor
    · intro q
      have : ¬ (s.2.2 < -40 ∨ 40 < s.2.2) := fun w => q ⟨s.2.2, by simp, w⟩
      omega
    · rintro q ⟨x, hx, h2⟩
      rw [List.mem_singleton] at hx
      subst hx
      omega
theorem side_in {s : Sd} : sideP s ↔ ¬ (s.1 = 0 ∧ s.2.1 = 0) ∧ inB s := by
  unfold sideP inB
  constructor
  · intro h; exact ⟨h.2.2.1, h.1, h.2.1, h.2.2.2⟩
  · intro h; exact ⟨h.2.1, h.2.2.1, h.1, h.2.2.2⟩
/-- the directions -/
theorem r63_l3_ok {k : Nat} {H0' H : Hp} {v : Sl} {l : List Sd} (hv : SL H v l) (hb : l.length ≤ 6) (hs : ∀ s ∈ l, sideP s) (g : Gr H0' H) : Ok (r63_l3 (appA (k + 1)) FUEL v v l.length 0 H) fun r H' => Gr H0' H' ∧ r = decide (∀ s ∈ l, dirP l (-s.2.1, s.1) ∧ dirP l (s.2.1, -s.1)) := by
  have hlen := hv.len
  refine Ok.loop (L := fun K (s : Int) H2 => r63_l3 (appA (k + 1)) K v v l.length s H2) (fun m s H' => Gr H H' ∧ ∃ i : Nat, s = i ∧ i + m = l.length ∧ ∀ s ∈ l.take i, dirP l (-s.2.1, s.1) ∧ dirP l (s.2.1, -s.1)) ?_ FUEL l.length 0 H (by unfold FUEL; omega) ⟨.refl _, 0, rfl, by omega, by simp⟩
  rintro K m s H1 ⟨g1, i, rfl, hm, ht⟩ ih
  try dsimp only at *
  rw [r63_l3]
  by_cases h : i < l.length
  · have hg := hv.gr g1
    have hmem : l[i] ∈ l := List.getElem_mem h
    have hsd := hs _ hmem
    unfold sideP at hsd
    obtain ⟨E, hE, hE', gE, nE⟩ := sts3 H1 (.int .i64 l[i].1) (.int .i64 l[i].2.1) (.int .i64 l[i].2.2) (.int .i64 0) (.int .i64 0) (.int .i64 0)
    refine Ok.pos (by omega) (Ok.ck (by omega) (Ok.ld (hg.ldI (i := i) (j := 0) h rfl) (Ok.ld (hg.ldI (i := i) (j := 1) h rfl) (Ok.ld (hg.ldI (i := i) (j := 2) h rfl) (Ok.ld hE (Ok.ld (ldI_get hE' rfl) (Ok.ld (ldI_get hE' rfl) (Ok.ld (ldI_get hE' rfl) (Ok.ld (ldI_get hE' rfl) (Ok.lt ?_))))))))))
    have e1 : w64 (0 - l[i].2.1) = -l[i].2.1 := by rw [w64_id (by omega) (by omega)]; omega
    have e2 : w64 (0 - l[i].1) = -l[i].1 := by rw [w64_id (by omega) (by omega)]; omega
    rw [e1, e2]
    have gq := Gr.push E (.cells [.int .i64 (-l[i].2.1), .int .i64 l[i].1, .int .i64 l[i].2.1, .int .i64 (-l[i].1)] false)
    have hds : SL (T := Pr) (E.push (.cells [.int .i64 (-l[i].2.1), .int .i64 l[i].1, .int .i64 l[i].2.1, .int .i64 (-l[i].1)] false)) ⟨false, E.n, 0, 2, 2, 0⟩ [(-l[i].2.1, l[i].1), (l[i].2.1, -l[i].1)] := .of_get (ro := false) (Hp.get_push_new _ _) rfl rfl (Nat.le_refl _) (.inl rfl) rfl
    generalize E.push (.cells [.int .i64 (-l[i].2.1), .int .i64 l[i].1, .int .i64 l[i].2.1, .int .i64 (-l[i].1)] false) = C at *
    have gC := g1.trans (gE.trans gq)
    show Ok (r63_l4 (appA (k + 1)) _ FUEL v v l.length i ⟨false, E.n, 0, 2, 2, 0⟩ 2 0 C) _
    have hall : (dirP l (-l[i].2.1, l[i].1) ∧ dirP l (l[i].2.1, -l[i].1)) ↔ ∀ d ∈ [(-l[i].2.1, l[i].1), (l[i].2.1, -l[i].1)], dirP l d := by simp
    have hdb : ∀ d ∈ [(-l[i].2.1, l[i].1), (l[i].2.1, -l[i].1)], (-4 ≤ d.1 ∧ d.1 ≤ 4) ∧ -4 ≤ d.2 ∧ d.2 ≤ 4 := by
      intro d hd
      simp only [List.mem_cons, List.not_mem_nil, or_false] at hd
      rcases hd with rfl | rfl <;> dsimp only <;> omega
    have two : [(-l[i].2.1, l[i].1), (l[i].2.1, -l[i].1)].length = 2 := rfl
    generalize [(-l[i].2.1, l[i].1), (l[i].2.1, -l[i].1)] = ds at *
    have hdl := hds.len
    refine Ok.loop (L := fun K2 (s : Int) H2 => r63_l4 (appA (k + 1)) (fun v1_ v2_ v3_ v4_ H_ => r63_l3 (appA (k + 1)) K v1_ v2_ v3_ v4_ H_) K2 v v l.length i ⟨false, E.n, 0, 2, 2, 0⟩ 2 s H2) (fun m s H' => Gr C H' ∧ ∃ j : Nat, s = j ∧ j + m = 2 ∧ ∀ d ∈ ds.take j, dirP l d) ?_ FUEL 2 0 C (by unfold FUEL; omega) ⟨.refl _, 0, rfl, rfl, by simp⟩
    rintro K2 m2 s2 H2 ⟨g2, j, rfl, hm2, ht2⟩ ih2
    try dsimp only at *
    rw [r63_l4]
    by_cases hj : j < 2
    · have hg2 := hds.gr g2
      have hdm : ds[j] ∈ ds := List.getElem_mem (by omega)
      obtain ⟨F, hF, hF', gF, nF⟩ := sts2 H2 (.int .i64 ds[j].1) (.int .i64 ds[j].2) (.int .i64 0) (.int .i64 0)
      have gX := gC.trans (g2.trans gF)
      refine Ok.pos (by omega) (Ok.ck (by dsimp only; omega) (Ok.ld (hg2.ldI (i := j) (j := 0) (by omega) rfl) (Ok.ld (hg2.ldI (i := j) (j := 1) (by omega) rfl) (Ok.ld hF ?_))))
      refine Ok.bind (r92_ok (says93 k hF' (hdb _ hdm)) (hv.gr gX) (by omega) hs) fun r G ⟨gG, hr⟩ => ?_
      subst hr
      by_cases hd : dirP l ds[j]
      · rw [decide_eq_true (show ∃ x ∈ l, 0 < x.1 * ds[j].1 + x.2.1 * ds[j].2 from hd)]
        refine Ok.pos rfl ?_
        rw [w64_succ (by omega)]
        exact ih2 (m2 - 1) _ G (by omega) ⟨g2.trans (gF.trans gG), j + 1, rfl, by omega, forall_take (by omega) ht2 hd⟩
      · rw [decide_eq_false (show ¬ ∃ x ∈ l, 0 < x.1 * ds[j].1 + x.2.1 * ds[j].2 from hd)]
        refine Ok.neg (by simp) (Ok.ret ⟨g.trans (gX.trans gG), ?_⟩)
        rw [decide_eq_false]
        intro hh
        exact hd (hall.1 (hh _ hmem) _ hdm)
    · rw [List.take_of_length_le (by omega)] at ht2
      refine Ok.neg (by omega) ?_
      rw [w64_succ (by omega)]
      exact ih (m - 1) _ H2 (by omega) ⟨gC.trans g2, i + 1, rfl, by omega, forall_take h ht (hall.2 ht2)⟩
  · rw [List.take_of_length_le (by omega)] at ht
    exact Ok.neg (by omega) (Ok.ret ⟨g.trans g1, by rw [decide_eq_true ht]⟩)
/-- valid -/
theorem r63_ok {k : Nat} {H : Hp} {v : Sl} {l : List Sd} (hv : SL H v l) (hb : l.length ≤ 1000) : Ok (r63 (appA (k + 1)) v H) fun r H' => Gr H H' ∧ r = decide (plateP l) := by
  unfold r63
  have hlen := hv.len
  by_cases h3 : l.length < 3
  · refine Ok.pos (by omega) ?_
    unfold r63_j0
    exact Ok.pos rfl (Ok.ret ⟨.refl _, by rw [decide_eq_false (fun h => by have := h.1.1; omega)]⟩)
  · refine Ok.neg (by omega) ?_
    unfold r63_j0
    by_cases h6 : 6 < l.length
    · exact Ok.pos (by rw [decide_eq_true_iff]; omega) (Ok.ret ⟨.refl _, by rw [decide_eq_false (fun h => by have := h.1.2; omega)]⟩)
    · refine Ok.neg (by rw [decide_eq_true_iff]; omega) ?_
      rw [hlen]
      refine Ok.loop (L := fun K (s : Int) H2 => r63_l1 (appA (k + 1)) K v v l.length s H2) (fun m s H' => Gr H H' ∧ ∃ i : Nat, s = i ∧ i + m = l.length ∧ ∀ s ∈ l.take i, sideP s) ?_ FUEL l.length 0 H (by unfold FUEL; omega) ⟨.refl _, 0, rfl, by omega, by simp⟩
      rintro K m s H1 ⟨g1, i, rfl, hm, ht⟩ ih
      try dsimp only at *
      rw [r63_l1]
      by_cases h : i < l.length
      · have hg := hv.gr g1
        have hmem : l[i] ∈ l := List.getElem_mem h
        obtain ⟨E, hE, hE', gE, nE⟩ := sts3 H1 (.int .i64 l[i].1) (.int .i64 l[i].2.1) (.int .i64 l[i].2.2) (.int .i64 0) (.int .i64 0) (.int .i64 0)
        have gB := g1.trans gE
        have j2 : ∀ b H', Gr E H' → b = !decide (sideP l[i]) → Ok (r63_j2 (appA (k + 1)) (fun v1_ v2_ v3_ v4_ H_ => r63_l1 (appA (k + 1)) K v1_ v2_ v3_ v4_ H_) v v l.length i b H') fun r H' => Gr H H' ∧ r = decide (plateP l) := fun b H' gH hbb => by
          subst hbb
          unfold r63_j2
          by_cases c : sideP l[i]
          · rw [decide_eq_true c]
            refine Ok.neg (by simp) ?_
            rw [w64_succ (by omega)]
            exact ih (m - 1) _ H' (by omega) ⟨gB.trans gH, i + 1, rfl, by omega, forall_take h ht c⟩
          · rw [decide_eq_false c]
            exact Ok.pos rfl (Ok.ret ⟨gB.trans gH, by rw [decide_eq_false (fun q => c (q.2.1 _ hmem))]⟩)
        have tl : ¬ (l[i].1 = 0 ∧ l[i].2.1 = 0) → ∀ H' b, Gr E H' → b = !decide (inB l[i]) → Ok (r63_j2 (appA (k + 1)) (fun v1_ v2_ v3_ v4_ H_ => r63_l1 (appA (k + 1)) K v1_ v2_ v3_ v4_ H_) v v l.length i b H') fun r H' => Gr H H' ∧ r = decide (plateP l) := fun hne H' b gH hbb => j2 b H' gH (by rw [hbb]; congr 1; exact decide_eq_decide.2 ⟨fun q => side_in.2 ⟨hne, q⟩, fun q => (side_in.1 q).2⟩)
        refine Ok.pos (by omega) (Ok.ck (by omega) (Ok.ld (hg.ldI (i := i) (j := 0) h rfl) (Ok.ld (hg.ldI (i := i) (j := 1) h rfl) (Ok.ld (hg.ldI (i := i) (j := 2) h rfl) (Ok.ld hE (Ok.ld (ldI_get hE' rfl) ?_))))))
        refine Ok.ite (fun c0 => Ok.ld (ldI_get hE' rfl) (Ok.ite (fun c1 => j2 _ _ (.refl _) ?_) fun c1 => Ok.ld (ldI_get hE' rfl) (Ok.ld (ldI_get hE' rfl) (tail63 (s := l[i]) hE' (tl fun q => c1 q.2))))) fun c0 => Ok.ld (ldI_get hE' rfl) (Ok.ld (ldI_get hE' rfl) (tail63 (s := l[i]) hE' (tl fun q => c0 q.1)))
        rw [decide_eq_false (fun q => (side_in.1 q).1 ⟨c0, c1⟩)]
        rfl
      · rw [List.take_of_length_le (by omega)] at ht
        refine Ok.neg (by omega) ?_
        rw [hlen]
        refine (r63_l3_ok (hv.gr g1) (by omega) ht g1).mono fun r H' hh => ⟨hh.1, ?_⟩
        rw [hh.2]
        exact decide_eq_decide.2 ⟨fun q => ⟨⟨by omega, by omega⟩, ht, q⟩, fun q => q.2.2⟩
end Go.Lt.P2

namespace Go.Lt.P2
open Go Go.Lt Go.Proofs
theorem cs_len15 {l : List Sd} (h6 : l.length ≤ 6) : (cs l).length ≤ 15 := by
  have h := cs_tri l l.length
  have : tri l.length ≤ 15 := by
    rcases (show l.length = 0 ∨ l.length = 1 ∨ l.length = 2 ∨ l.length = 3 ∨ l.length = 4 ∨ l.length = 5 ∨ l.length = 6 by omega) with h | h | h | h | h | h | h <;> rw [h] <;> decide
  exact Nat.le_trans h this
/-- Corners -/
theorem r51_ok {k : Nat} {H : Hp} {v : Sl} {l : List Sd} (hv : SL H v l) (hb : l.length ≤ 1000) : Ok (r51 (appA (k + 2)) v H) fun r H' => Gr H H' ∧ if plateP l then SL H' r.1 (rcs (cs l)) ∧ r.2 = 0 else r = (⟨true, 0, 0, 0, 0, 0⟩, 2) := by
  unfold r51
  refine Ok.bind (r63_ok (k := k + 1) hv hb) fun b A ⟨gA, hbb⟩ => ?_
  subst hbb
  by_cases hp : plateP l
  case neg =>
    rw [decide_eq_false hp]
    simp only [if_neg hp]
    exact Ok.neg (by simp) (Ok.ret ⟨gA, rfl⟩)
  rw [decide_eq_true hp]
  simp only [if_pos hp]
  have h6 := hp.1.2
  have hs := hp.2.1
  have hl15 := cs_len15 h6
  refine Ok.pos (by simp) (Ok.lt ?_)
  have hvA := hv.gr gA
  show Ok ((callr (appA (k + 2)) (.fn 66 [.sl v] []) ((A.push (cel [.sl ⟨true, 0, 0, 0, 0, 0⟩])).n + 1) (((A.push (cel [.sl ⟨true, 0, 0, 0, 0, 0⟩])).push .dfr).push (.loop .ready none 1 21 [(4, .ptr A.n 0)]))).bind _) _
  have c0 : Cb A A [] := .start (fun _ h => by cases h) .nil
  have c := ((c0.push (cel [.sl ⟨true, 0, 0, 0, 0, 0⟩])).push .dfr).push (.loop .ready none 1 21 [(4, .ptr A.n 0)])
  simp only [Hp.n_push] at c ⊢
  generalize ((A.push (cel [.sl ⟨true, 0, 0, 0, 0, 0⟩])).push .dfr).push (.loop .ready none 1 21 [(4, .ptr A.n 0)]) = D at *
  have gD : Gr A D := ⟨c.n, fun b hb => c.g b hb fun p hp => by simp only [List.mem_cons, List.not_mem_nil, or_false] at hp; rcases hp with rfl | rfl | rfl <;> dsimp only <;> omega⟩
  have lD := c.lt (.head _)
  have hI : ccI A (fun _ => False) [] ⟨true, 0, 0, 0, 0, 0⟩ D := ⟨gD, c.e _ (.tail _ (.tail _ (.head _))), c.e _ (.tail _ (.head _)), c.e _ (.head _), AccL.nilS, by dsimp only at lD; omega, fun _ h => h.elim⟩
  refine Ok.bind (P := fun _ H' => ∃ w, ccI A (fun _ => False) (cs l) w H') ?_ fun r E hE => ?_
  · show Ok ((r66 (app (k + 1)) v (.yld (A.n + 2)) D).map fun p => (AV.tup [], p.2)) _
    have h1 : Ok (r66 (app (k + 1)) v (.yld (A.n + 2)) D) fun _ H' => ∃ w, ccI A (fun _ => False) (cs l) w H' := by
      refine Ok.mono (r66_ok (a95 k) (ccY (k := k) (by omega) A) hvA hb hs (P := fun _ => False) ⟨_, hI⟩) fun _ H' h => ?_
      rcases h with h | ⟨_, _, h⟩
      · exact h
      · exact h.elim
    obtain ⟨r, H', e, h⟩ := h1
    rw [e]
    exact Ok.ret h
  obtain ⟨w, hE⟩ := hE
  have hn := hE.n
  have hend : E.lend (A.n + 2) = some (none, E.set (A.n + 2) .dead) := by unfold Hp.lend; rw [hE.l]
  refine Ok.ld hend (Ok.pos rfl ?_)
  dsimp only
  generalize hF : E.set (A.n + 2) .dead = F
  have oF : ∀ x, x ≠ A.n + 2 → F.get x = E.get x := fun x hx => by rw [← hF, Hp.get_set_other _ _ hx]
  have nF : F.n = E.n := by rw [← hF]; simp
  clear hF
  have sF : F.get A.n = some (.cells [.sl w] false) := by rw [oF _ (by omega)]; exact hE.o
  have dF : F.get (A.n + 1) = some .dfr := by rw [oF _ (by omega)]; exact hE.d
  have aF : AccL (A.n + 3) F w ((cs l).map (·.1)) := Acc.keep hE.a fun hn => oF _ (by have := low hE.a hn; omega)
  have gF : Gr A F := ⟨by have := hE.g.1; omega, fun b hb => by rw [oF _ (by omega)]; exact hE.g.2 b hb⟩
  have hq15 : ((cs l).map (·.1)).length ≤ 15 := by rw [List.length_map]; exact hl15
  have hqp : ∀ x ∈ (cs l).map (·.1), qp x := fun x hx => by
    obtain ⟨c, hc, rfl⟩ := List.mem_map.1 hx
    have m := cs_mem hc
    rw [m.2.2.2.1]
    exact meet_qp (hs _ m.1) (hs _ m.2.1) m.2.2.1
  have hmem : ∀ x, x ∈ rcs (cs l) ↔ x ∈ (cs l).map (·.1) := fun x => by
    rw [mem_rcs, List.mem_map]
  have hkill : ∀ {G : Hp}, G.get (A.n + 1) = some .dfr → Go.Lt.kill [A.n + 1] G = G.set (A.n + 1) .dead := fun _ => rfl
  -- the end
  have fin : ∀ (u : Sl) (G : Hp) (r : List Pq), A.n + 3 ≤ G.n → Gr A G → G.get (A.n + 1) = some .dfr → (u.nil = false → u.b ≠ A.n + 1) → SL G u r → r = rcs (cs l) → Ok (ck (dfrB [A.n + 1] G = true) (some ((u, (0 : Int)), Go.Lt.kill [A.n + 1] G))) fun r H' => Gr H H' ∧ SL H' r.1 (rcs (cs l)) ∧ r.2 = 0 := fun u G r nG gG dG hu hsl hr => by
    subst hr
    refine Ok.ck (by simp [dfrB, Hp.isDfr, dG]) (Ok.ret ⟨gA.trans ⟨?_, fun b hb => ?_⟩, ?_, rfl⟩)
    · show A.n ≤ (G.set (A.n + 1) .dead).n
      simp; omega
    · show (G.set (A.n + 1) .dead).get b = _
      rw [Hp.get_set_other _ _ (by omega)]; exact gG.2 b hb
    · show SL (G.set (A.n + 1) .dead) u _
      cases hnn : u.nil with
      | true =>
        obtain ⟨rfl, hr⟩ := hsl.nil hnn
        rw [hr]; exact .nilS
      | false => exact SL.congr hsl (Hp.get_set_other _ _ (hu hnn))
  refine Ok.ld (ldSl_get sF rfl) ?_
  cases hnil : w.nil with
  | true =>
    have hw : w = ⟨true, 0, 0, 0, 0, 0⟩ ∧ (cs l).map (·.1) = [] := by
      obtain ⟨h1, h2⟩ := (AccL.sl aF).nil hnil
      exact ⟨h1, h2⟩
    obtain ⟨rfl, hnl⟩ := hw
    have hrc : [] = rcs (cs l) := by
      rw [List.map_eq_nil_iff.1 hnl]; rfl
    have e86 : Ok (r86 (appA (k + 2)) ⟨true, 0, 0, 0, 0, 0⟩ (.fn 87 [] []) F) fun _ H' => H' = F := by
      unfold r86
      obtain ⟨x, e, _⟩ := r109_small (n := 0) (by decide) F
      refine Ok.ld e ?_
      unfold r108
      rw [show FUEL = 18446744073709551615 + 1 from rfl, r108_l0]
      refine Ok.bind (P := fun _ H' => H' = F) (Ok.pos (by decide +kernel) (Ok.bind (P := fun _ H' => H' = F) ?_ fun _ _ h => Ok.ret h)) fun _ _ h => Ok.ret h
      unfold r114
      rw [show FUEL = 18446744073709551615 + 1 from rfl, r114_l0]
      exact Ok.neg (by decide +kernel) (Ok.ret rfl)
    refine Ok.bind e86 fun _ G hG => ?_
    subst hG
    refine Ok.ld (ldSl_get sF rfl) ?_
    unfold r90
    refine Ok.bind (P := fun u H' => H' = G ∧ u = ⟨true, 0, 0, 0, 0, 0⟩) (Ok.pos (by decide) (Ok.ret ⟨rfl, rfl⟩)) fun u I ⟨hI1, hu⟩ => ?_
    subst hI1 hu
    exact fin _ _ [] (show A.n + 3 ≤ I.n by omega) gF dF (fun h => by cases h) .nilS hrc
  | false =>
    have hown : Own F w ((cs l).map (·.1)) ∧ A.n + 3 ≤ w.b := by
      have hlen := AccL.len aF
      rcases aF with ⟨rfl, e⟩ | ⟨h1, h2, h3, h4, h5, h6', h7⟩
      · cases hnil
      · exact ⟨⟨h1, h2, hlen, by omega, .inr h3, h6'⟩, h5⟩
    obtain ⟨ow, hwb⟩ := hown
    have hbig : 12 < ((cs l).map (·.1)).length → ∃ P, ∀ x ∈ (cs l).map (·.1), x = P := fun h => by
      rw [List.length_map] at h
      obtain ⟨P, hP⟩ := cs_big hs h6 h
      refine ⟨P, fun x hx => ?_⟩
      obtain ⟨c, hc, rfl⟩ := List.mem_map.1 hx
      exact hP c hc
    refine Ok.bind (r86_ok (k := k + 1) (says87 (k + 1)) hqp hq15 hbig ow) fun _ G ⟨q', oG, onG, hperm, hso⟩ => ?_
    have hwF := Hp.get_lt ow.get
    have sG : G.get A.n = some (.cells [.sl w] false) := by rw [onG.2 _ (by omega) (by omega)]; exact sF
    refine Ok.ld (ldSl_get sG rfl) ?_
    refine Ok.bind (r90_ok oG (by have := hperm.length_eq; omega) hso) fun u I ⟨⟨onI, hub⟩, r, hr, hsrt, hrm⟩ => ?_
    have on := onG.trans onI
    have dI : I.get (A.n + 1) = some .dfr := by rw [on.2 _ (by omega) (by omega)]; exact dF
    have gI : Gr A I := ⟨Nat.le_trans gF.1 on.1, fun b hb => by rw [on.2 b (by omega) (by omega)]; exact gF.2 b hb⟩
    refine fin u I r (by have := on.1; omega) gI dI ?_ hr (srt_uniq hsrt (rcs_srt _) fun x => by rw [hrm, hperm.mem_iff, hmem])
    intro _
    rw [hub]; omega
end Go.Lt.P2

namespace Go.Lt.P2
open Go Go.Lt Go.Proofs
/-- points of the law -/
theorem r53_ok {H : Hp} {v : Sl} {l : List Pq} (hv : SL H v l) (hb : l.length ≤ 1000) : Ok (r53 v H) fun w H' => Gr H H' ∧ SL H' w l := by
  unfold r53
  have hlen := hv.len
  rw [hlen]
  refine Ok.loop (L := fun K (s : Sl × Int) H2 => r53_l0 K s.1 v l.length s.2 H2) (fun m s H' => Gr H H' ∧ ∃ i : Nat, s.2 = i ∧ i + m = l.length ∧ AccL H.n H' s.1 (l.take i)) ?_ FUEL l.length (⟨true, 0, 0, 0, 0, 0⟩, 0) H (by unfold FUEL; omega) ⟨.refl _, 0, rfl, by omega, by simpa using AccL.nilS⟩
  rintro K m ⟨w, s⟩ H1 ⟨g1, i, rfl, hm, ha⟩ ih
  try dsimp only at *
  rw [r53_l0]
  by_cases h : i < l.length
  · have hg := hv.gr g1
    have c0 : Cx H1 H1 [] := .nil H1
    refine Ok.pos (by omega) (Ok.ck (by omega) (Ok.ld (hg.ldI (i := i) (j := 0) h rfl) (Ok.ld (hg.ldI (i := i) (j := 1) h rfl) (Ok.ld (hg.ldI (i := i) (j := 2) h rfl) (Ok.ld (hg.ldI (i := i) (j := 3) h rfl) (Ok.alo c0 fun E gE cx => ?_))))))
    refine Ok.cld cx (.head _) rfl (Ok.cld cx (.head _) rfl (Ok.cld cx (.head _) rfl (Ok.cld cx (.head _) rfl ?_)))
    refine Ok.bind ((ha.gr gE).push (g1.trans gE) l[i] rfl rfl (by rw [List.length_take]; omega)) fun w2 H3 ⟨ha3, g3, _⟩ => ?_
    rw [w64_succ (by omega)]
    refine ih (m - 1) (w2, _) H3 (by omega) ⟨g3, i + 1, rfl, by omega, ?_⟩
    rw [List.take_succ_eq_append_getElem h]
    exact ha3
  · rw [List.take_of_length_le (by omega)] at ha
    exact Ok.neg (by omega) (Ok.ret ⟨g1, ha.sl⟩)
/-- Equal of points -/
theorem r52_ok {l l' : List Pq} {H : Hp} {v w : Sl} (hv : SL H v l) (hw : SL H w l') (hb : l.length ≤ 1000000) : Ok (r52 v w H) fun b H' => H' = H ∧ b = decide (l = l') := by
  have pb : ∀ {q p : Pq}, ((((fq q.1).1 == (fq p.1).1) && ((fq q.1).2 == (fq p.1).2)) && (((fq q.2).1 == (fq p.2).1) && ((fq q.2).2 == (fq p.2).2))) = decide (q = p) := fun {q p} => by
    have e : ∀ {p q : Rat}, (((fq p).1 == (fq q).1) && ((fq p).2 == (fq q).2)) = decide (p = q) := fun {p q} => by
      refine Bool.eq_iff_iff.2 ?_
      simp only [Bool.and_eq_true, beq_iff_eq, decide_eq_true_iff]
      exact ⟨fun h => fq_inj (Prod.ext h.1 h.2), fun h => by rw [h]; exact ⟨rfl, rfl⟩⟩
    rw [e, e]
    refine Bool.eq_iff_iff.2 ?_
    simp only [Bool.and_eq_true, decide_eq_true_iff]
    exact ⟨fun h => Prod.ext h.1 h.2, fun h => by rw [h]; exact ⟨rfl, rfl⟩⟩
  unfold r52
  have h1 := hv.len
  have h2 := hw.len
  by_cases hl : l.length = l'.length
  · refine Ok.neg (by omega) ?_
    rw [h1]
    refine Ok.loop (L := fun K (s : Int) H2 => r52_l0 K v w l.length s H2) (fun m s H' => H' = H ∧ ∃ i : Nat, s = i ∧ i + m = l.length ∧ l.take i = l'.take i) ?_ FUEL l.length 0 H (by unfold FUEL; omega) ⟨rfl, 0, rfl, by omega, rfl⟩
    rintro K m s H1 ⟨rfl, i, rfl, hm, ht⟩ ih
    try dsimp only at *
    rw [r52_l0]
    by_cases h : i < l.length
    · have h' : i < l'.length := by omega
      refine Ok.pos (by omega) (Ok.ck (by omega) (Ok.ld (hv.ldI (i := i) (j := 0) h rfl) (Ok.ld (hv.ldI (i := i) (j := 1) h rfl) (Ok.ld (hv.ldI (i := i) (j := 2) h rfl) (Ok.ld (hv.ldI (i := i) (j := 3) h rfl) (Ok.ck (by omega) (Ok.ld (hw.ldI (i := i) (j := 0) h' rfl) (Ok.ld (hw.ldI (i := i) (j := 1) h' rfl) (Ok.ld (hw.ldI (i := i) (j := 2) h' rfl) (Ok.ld (hw.ldI (i := i) (j := 3) h' rfl) ?_))))))))))
      rw [pb]
      refine Ok.ite (fun hc => ?_) fun hc => Ok.ret ⟨rfl, ?_⟩
      · rw [w64_succ (by omega)]
        refine ih (m - 1) _ _ (by omega) ⟨rfl, i + 1, rfl, by omega, ?_⟩
        rw [List.take_succ_eq_append_getElem h, List.take_succ_eq_append_getElem h', ht]
        congr 2
        exact of_decide_eq_true hc
      · symm
        rw [decide_eq_false_iff_not]
        rintro rfl
        exact hc (by simp)
    · refine Ok.neg (by omega) (Ok.ret ⟨rfl, ?_⟩)
      symm
      rw [decide_eq_true_iff]
      rw [List.take_of_length_le (by omega), List.take_of_length_le (by omega)] at ht
      exact ht
  · refine Ok.pos (by omega) (Ok.ret ⟨rfl, ?_⟩)
    symm
    rw [decide_eq_false_iff_not]
    rintro rfl
    exact hl rfl
end Go.Lt.P2

namespace Go.Lt.P2
open Go Go.Lt Go.Proofs
/-- down -/
theorem r68_q {q : Rat} {N D : Int} (hq : qb N D q) (hN : N < 1000000000000000000) (hD : D < 1000000000000000000) : Ok (r68 (fq q).1 (fq q).2 H0) fun r _ => r = q.floor := by
  obtain ⟨h1, h2, h3⟩ := hq
  have hp := fq_pos q
  have e1 := Int.mul_tdiv_add_tmod (fq q).1 (fq q).2
  have e2 := Int.tmod_lt_of_pos (fq q).1 hp
  have e3 := Int.lt_tmod_of_pos (fq q).1 hp
  have hf : ∀ f : Int, f * (fq q).2 ≤ (fq q).1 → (fq q).1 < (f + 1) * (fq q).2 → f = q.floor := fun f h1 h2 => by
    have := (floor_iff (f := f) (n := (fq q).1) hp).2 ⟨h1, h2⟩
    rw [dv_fq] at this
    exact this
  have hm0 : 0 ≤ (fq q).1 → 0 ≤ Int.tmod (fq q).1 (fq q).2 := fun h => Int.tmod_nonneg _ h
  have hm1 : (fq q).1 < 0 → Int.tmod (fq q).1 (fq q).2 ≤ 0 := fun h => by
    have := Int.tmod_nonneg (a := -(fq q).1) (fq q).2 (by omega)
    rw [Int.neg_tmod] at this
    omega
  have hab : (Int.tdiv (fq q).1 (fq q).2).natAbs ≤ (fq q).1.natAbs := by
    rw [Int.natAbs_tdiv]; exact Nat.div_le_self _ _
  have hmul : (fq q).2 * Int.tdiv (fq q).1 (fq q).2 = Int.tdiv (fq q).1 (fq q).2 * (fq q).2 := Int.mul_comm _ _
  rw [hmul] at e1
  have e4 : (Int.tdiv (fq q).1 (fq q).2 + 1) * (fq q).2 = Int.tdiv (fq q).1 (fq q).2 * (fq q).2 + (fq q).2 := by rw [Int.add_mul, Int.one_mul]
  have e5 : (Int.tdiv (fq q).1 (fq q).2 - 1) * (fq q).2 = Int.tdiv (fq q).1 (fq q).2 * (fq q).2 - (fq q).2 := by rw [Int.sub_mul, Int.one_mul]
  have e6 : (Int.tdiv (fq q).1 (fq q).2 - 1 + 1) * (fq q).2 = Int.tdiv (fq q).1 (fq q).2 * (fq q).2 := by rw [Int.sub_add_cancel]
  unfold r68
  refine Ok.box (.nil H0) fun A _ c => Ok.cld c (.head _) rfl (Ok.cld c (.head _) rfl (Ok.ck (by omega) (Ok.cld c (.head _) rfl ?_)))
  have hw : w64 (Int.tdiv (fq q).1 (fq q).2) = Int.tdiv (fq q).1 (fq q).2 := w64_id (by omega) (by omega)
  rw [hw]
  generalize Int.tdiv (fq q).1 (fq q).2 = n at *
  generalize Int.tmod (fq q).1 (fq q).2 = m at *
  refine Ok.ite (fun hneg => Ok.cld c (.head _) rfl (Ok.cld c (.head _) rfl ?_)) fun hneg => ?_
  · have := hm1 hneg
    rw [w64_id (n := n * _) (by omega) (by omega)]
    unfold r68_j0
    refine Ok.ite (fun hc => Ok.ret ?_) fun hc => Ok.ret ?_
    · rw [w64_id (by omega) (by omega)]
      have hc' := of_decide_eq_true hc
      refine hf _ (by omega) (by omega)
    · have hc' : n * (fq q).2 = (fq q).1 := Classical.byContradiction fun q => hc (decide_eq_true q)
      exact hf _ (by omega) (by omega)
  · have := hm0 (by omega)
    unfold r68_j0
    exact Ok.neg (by simp) (Ok.ret (hf _ (by omega) (by omega)))
end Go.Lt.P2

namespace Go.Lt.P2
open Go Go.Lt Go.Proofs
/-- low, high, ok -/
abbrev Bst := Pr × Pr × Bool
def nlo (ok : Bool) (x l : Int) : Int := if ok = true ∧ ¬ x < l then l else x
def nhi (ok : Bool) (x h : Int) : Int := if ok = true ∧ ¬ h < x then h else x
def bxE (n : Nat) (st : Bst) (ls : LoopState) : List (Nat × Blk) := [(n, cel [.int .i64 st.1.1, .int .i64 st.1.2]), (n + 1, cel [.int .i64 st.2.1.1, .int .i64 st.2.1.2]), (n + 2, cel [.bool st.2.2]), (n + 3, .dfr), (n + 4, .loop ls none 0 59 [(2, .ptr n 0), (3, .ptr (n + 1) 0), (4, .ptr (n + 2) 0)])]
def up0 (st : Bst) (f : Pr) : Bst := ((nlo st.2.2 f.1 st.1.1, st.1.2), (nhi st.2.2 f.1 st.2.1.1, st.2.1.2), st.2.2)
def up1 (st : Bst) (f : Pr) : Bst := ((st.1.1, nlo st.2.2 f.2 st.1.2), (st.2.1.1, nhi st.2.2 f.2 st.2.1.2), st.2.2)
section
variable {α : Type} {a : App} {l n fb K : Nat} {H1 H : Hp} {st : Bst} {f : Pr} {y : Nat × Blk} {ls : LoopState} {Q : Option Code → Hp → Prop}
theorem it0 (c : Cb H1 H ((fb, cel [.int .i64 f.1, .int .i64 f.2]) :: y :: bxE n st ls)) (kk : ∀ A, A.n = H.n → Cb H1 A ((fb, cel [.int .i64 f.1, .int .i64 f.2]) :: y :: bxE n (up0 st f) ls) → Ok (r101q0_l0 a l K n (n + 1) (n + 2) fb 1 A) Q) : Ok (r101q0_l0 a l (K + 1) n (n + 1) (n + 2) fb 0 H) Q := by
  obtain ⟨⟨l0, l1⟩, ⟨h0, h1⟩, ok⟩ := st
  rw [r101q0_l0]
  refine Ok.pos (by decide) (Ok.kldB c (.tail _ (.tail _ (.tail _ (.tail _ (.head _))))) rfl ?_)
  have J1 : ∀ (b : Bool) (A : Hp) (l0' : Int), A.n = H.n → (b = true ↔ ¬ (ok = true ∧ ¬ h0 < f.1)) → l0' = nlo ok f.1 l0 → Cb H1 A ((fb, cel [.int .i64 f.1, .int .i64 f.2]) :: y :: bxE n ((l0', l1), (h0, h1), ok) ls) → Ok (r101q0_j1 a l (fun v1_ v2_ v3_ v4_ v5_ H_ => r101q0_l0 a l K v1_ v2_ v3_ v4_ v5_ H_) n (n + 1) (n + 2) fb 0 0 b A) Q := fun b A l0' nA hb hl c => by
    subst hl
    unfold r101q0_j1
    refine Ok.ite (fun hc => Ok.ck (by decide) (Ok.kld c (.head _) rfl (Ok.ck (by decide) (Ok.kst1 c 3 rfl (by show _ < 2; decide) fun D nD _ c => ?_)))) fun hc => ?_
    · have e : f.1 = nhi ok f.1 h0 := by unfold nhi; rw [if_neg (hb.1 hc)]
      refine kk D (by omega) ?_
      have c : Cb H1 D ((fb, cel [.int .i64 f.1, .int .i64 f.2]) :: y :: bxE n ((nlo ok f.1 l0, l1), (f.1, h1), ok) ls) := c
      rw [show up0 ((l0, l1), (h0, h1), ok) f = ((nlo ok f.1 l0, l1), (nhi ok f.1 h0, h1), ok) from rfl, ← e]
      exact c
    · have e : h0 = nhi ok f.1 h0 := by unfold nhi; rw [if_pos (Classical.byContradiction fun q => hc (hb.2 q))]
      refine kk A (by omega) ?_
      rw [show up0 ((l0, l1), (h0, h1), ok) f = ((nlo ok f.1 l0, l1), (nhi ok f.1 h0, h1), ok) from rfl, ← e]
      exact c
  have J2 : ∀ (A : Hp) (l0' : Int), A.n = H.n → l0' = nlo ok f.1 l0 → Cb H1 A ((fb, cel [.int .i64 f.1, .int .i64 f.2]) :: y :: bxE n ((l0', l1), (h0, h1), ok) ls) → Ok (r101q0_j2 a l (fun v1_ v2_ v3_ v4_ v5_ H_ => r101q0_l0 a l K v1_ v2_ v3_ v4_ v5_ H_) n (n + 1) (n + 2) fb 0 0 A) Q := fun A l0' nA hl c => by
    unfold r101q0_j2
    refine Ok.kldB c (.tail _ (.tail _ (.tail _ (.tail _ (.head _))))) rfl (Ok.ite (fun hok => Ok.ck (by decide) (Ok.kld c (.head _) rfl (Ok.ck (by decide) (Ok.kld c (.tail _ (.tail _ (.tail _ (.head _)))) rfl (J1 _ A l0' nA ?_ hl c))))) fun hok => J1 _ A l0' nA ?_ hl c)
    · dsimp only at hok
      rw [decide_eq_true_iff]
      constructor
      · intro h q; exact q.2 h
      · intro h; exact Classical.byContradiction fun q => h ⟨hok, q⟩
    · exact ⟨fun _ q => hok q.1, fun _ => rfl⟩
  have J3 : ∀ (b : Bool), (b = true ↔ ¬ (ok = true ∧ ¬ f.1 < l0)) → Ok (r101q0_j3 a l (fun v1_ v2_ v3_ v4_ v5_ H_ => r101q0_l0 a l K v1_ v2_ v3_ v4_ v5_ H_) n (n + 1) (n + 2) fb 0 0 b H) Q := fun b hb => by
    unfold r101q0_j3
    refine Ok.ite (fun hc => Ok.ck (by decide) (Ok.kld c (.head _) rfl (Ok.ck (by decide) (Ok.kst1 c 2 rfl (by show _ < 2; decide) fun D nD _ c => J2 D f.1 nD ?_ c)))) fun hc => J2 H l0 rfl ?_ c
    · unfold nlo; rw [if_neg (hb.1 hc)]
    · unfold nlo; rw [if_pos (Classical.byContradiction fun q => hc (hb.2 q))]
  refine Ok.ite (fun hok => Ok.ck (by decide) (Ok.kld c (.head _) rfl (Ok.ck (by decide) (Ok.kld c (.tail _ (.tail _ (.head _))) rfl (J3 _ ?_))))) fun hok => J3 _ ?_
  · dsimp only at hok
    rw [decide_eq_true_iff]
    constructor
    · intro h q; exact q.2 h
    · intro h; exact Classical.byContradiction fun q => h ⟨hok, q⟩
  · exact ⟨fun _ q => hok q.1, fun _ => rfl⟩
theorem it1 (c : Cb H1 H ((fb, cel [.int .i64 f.1, .int .i64 f.2]) :: y :: bxE n st ls)) (kk : ∀ A, A.n = H.n → Cb H1 A ((fb, cel [.int .i64 f.1, .int .i64 f.2]) :: y :: bxE n (up1 st f) ls) → Ok (r101q0_l0 a l K n (n + 1) (n + 2) fb 2 A) Q) : Ok (r101q0_l0 a l (K + 1) n (n + 1) (n + 2) fb 1 H) Q := by
  obtain ⟨⟨l0, l1⟩, ⟨h0, h1⟩, ok⟩ := st
  rw [r101q0_l0]
  refine Ok.pos (by decide) (Ok.kldB c (.tail _ (.tail _ (.tail _ (.tail _ (.head _))))) rfl ?_)
  have J1 : ∀ (b : Bool) (A : Hp) (l1' : Int), A.n = H.n → (b = true ↔ ¬ (ok = true ∧ ¬ h1 < f.2)) → l1' = nlo ok f.2 l1 → Cb H1 A ((fb, cel [.int .i64 f.1, .int .i64 f.2]) :: y :: bxE n ((l0, l1'), (h0, h1), ok) ls) → Ok (r101q0_j1 a l (fun v1_ v2_ v3_ v4_ v5_ H_ => r101q0_l0 a l K v1_ v2_ v3_ v4_ v5_ H_) n (n + 1) (n + 2) fb 1 1 b A) Q := fun b A l1' nA hb hl c => by
    subst hl
    unfold r101q0_j1
    refine Ok.ite (fun hc => Ok.ck (by decide) (Ok.kld c (.head _) rfl (Ok.ck (by decide) (Ok.kst1 c 3 rfl (by show _ < 2; decide) fun D nD _ c => ?_)))) fun hc => ?_
    · have e : f.2 = nhi ok f.2 h1 := by unfold nhi; rw [if_neg (hb.1 hc)]
      refine kk D (by omega) ?_
      have c : Cb H1 D ((fb, cel [.int .i64 f.1, .int .i64 f.2]) :: y :: bxE n ((l0, nlo ok f.2 l1), (h0, f.2), ok) ls) := c
      rw [show up1 ((l0, l1), (h0, h1), ok) f = ((l0, nlo ok f.2 l1), (h0, nhi ok f.2 h1), ok) from rfl, ← e]
      exact c
    · have e : h1 = nhi ok f.2 h1 := by unfold nhi; rw [if_pos (Classical.byContradiction fun q => hc (hb.2 q))]
      refine kk A (by omega) ?_
      rw [show up1 ((l0, l1), (h0, h1), ok) f = ((l0, nlo ok f.2 l1), (h0, nhi ok f.2 h1), ok) from rfl, ← e]
      exact c
  have J2 : ∀ (A : Hp) (l1' : Int), A.n = H.n → l1' = nlo ok f.2 l1 → Cb H1 A ((fb, cel [.int .i64 f.1, .int .i64 f.2]) :: y :: bxE n ((l0, l1'), (h0, h1), ok) ls) → Ok (r101q0_j2 a l (fun v1_ v2_ v3_ v4_ v5_ H_ => r101q0_l0 a l K v1_ v2_ v3_ v4_ v5_ H_) n (n + 1) (n + 2) fb 1 1 A) Q := fun A l1' nA hl c => by
    unfold r101q0_j2
    refine Ok.kldB c (.tail _ (.tail _ (.tail _ (.tail _ (.head _))))) rfl (Ok.ite (fun hok => Ok.ck (by decide) (Ok.kld c (.head _) rfl (Ok.ck (by decide) (Ok.kld c (.tail _ (.tail _ (.tail _ (.head _)))) rfl (J1 _ A l1' nA ?_ hl c))))) fun hok => J1 _ A l1' nA ?_ hl c)
    · dsimp only at hok
      rw [decide_eq_true_iff]
      constructor
      · intro h q; exact q.2 h
      · intro h; exact Classical.byContradiction fun q => h ⟨hok, q⟩
    · exact ⟨fun _ q => hok q.1, fun _ => rfl⟩
  have J3 : ∀ (b : Bool), (b = true ↔ ¬ (ok = true ∧ ¬ f.2 < l1)) → Ok (r101q0_j3 a l (fun v1_ v2_ v3_ v4_ v5_ H_ => r101q0_l0 a l K v1_ v2_ v3_ v4_ v5_ H_) n (n + 1) (n + 2) fb 1 1 b H) Q := fun b hb => by
    unfold r101q0_j3
    refine Ok.ite (fun hc => Ok.ck (by decide) (Ok.kld c (.head _) rfl (Ok.ck (by decide) (Ok.kst1 c 2 rfl (by show _ < 2; decide) fun D nD _ c => J2 D f.2 nD ?_ c)))) fun hc => J2 H l1 rfl ?_ c
    · unfold nlo; rw [if_neg (hb.1 hc)]
    · unfold nlo; rw [if_pos (Classical.byContradiction fun q => hc (hb.2 q))]
  refine Ok.ite (fun hok => Ok.ck (by decide) (Ok.kld c (.head _) rfl (Ok.ck (by decide) (Ok.kld c (.tail _ (.tail _ (.head _))) rfl (J3 _ ?_))))) fun hok => J3 _ ?_
  · dsimp only at hok
    rw [decide_eq_true_iff]
    constructor
    · intro h q; exact q.2 h
    · intro h; exact Classical.byContradiction fun q => h ⟨hok, q⟩
  · exact ⟨fun _ q => hok q.1, fun _ => rfl⟩
end
end Go.Lt.P2

namespace Go.Lt.P2
open Go Go.Lt Go.Proofs
/-- whole -/
theorem r80_q {x y : Int} (hx : -100000000 ≤ x ∧ x ≤ 100000000) (hy : -100000000 ≤ y ∧ y ≤ 100000000) : Ok (r80 x y H0) fun r _ => r = pt ((x : Rat), (y : Rat)) := by
  unfold r80
  refine Ok.box (.nil H0) fun A _ c => ?_
  refine Ok.own (r100_int (by omega) H0) fun X => Ok.own (r100_int (by omega) H0) fun X => ?_
  refine Ok.cst c 0 rfl rfl fun B _ _ c => ?_
  exact Ok.cld c (.head _) rfl (Ok.cld c (.head _) rfl (Ok.cld c (.head _) rfl (Ok.cld c (.head _) rfl (Ok.ret rfl))))
theorem lqs_int {s : Sd} {x y : Int} : lqs s ((x : Rat), (y : Rat)) ↔ s.1 * x + s.2.1 * y ≤ s.2.2 := by
  unfold lqs atq
  dsimp only
  rw [← Rat.intCast_mul, ← Rat.intCast_mul, ← Rat.intCast_add]
  exact Rat.intCast_le_intCast
theorem qp_int {x y : Int} (hx : -10000 ≤ x ∧ x ≤ 10000) (hy : -10000 ≤ y ∧ y ≤ 10000) : qp ((x : Rat), (y : Rat)) :=
  ⟨qb_int (by omega) (by omega) (by omega), qb_int (by omega) (by omega) (by omega)⟩
end Go.Lt.P2

namespace Go.Lt.P2
open Go Go.Lt Go.Proofs
/-- the first side that a whole point does not keep -/
def kp (x : Pr) (s : Sd) : Prop := s.1 * x.1 + s.2.1 * x.2 ≤ s.2.2
instance (x : Pr) (s : Sd) : Decidable (kp x s) := by unfold kp; infer_instance
def apt (x : Pr) : List Sd → Int × Int × Int × Int
  | [] => (0, 0, 0, 4)
  | s :: l => if kp x s then apt x l else (s.1, s.2.1, s.2.2, 0)
theorem apt_all {x : Pr} : ∀ {l : List Sd}, (∀ s ∈ l, kp x s) → apt x l = (0, 0, 0, 4)
  | [], _ => rfl
  | s :: l, h => by rw [apt, if_pos (h s (.head _))]; exact apt_all fun t ht => h t (.tail _ ht)
end Go.Lt.P2
