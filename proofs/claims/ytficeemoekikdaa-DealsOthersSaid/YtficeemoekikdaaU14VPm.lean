/- PLAIN LAWS OF WHAT IS COMPUTED, for the statement 'DealsOthers'. Nothing is asked of the input. -/
import Derived.Test.YtficeemoekikdaaU14VLm
set_option linter.unusedVariables false
set_option linter.unusedSimpArgs false
namespace Go.Lt.P5
open Go.Lt
/-- a point in quotients below a chain -/
def UQ (P R Q : Int) : List Pr → Prop
  | t :: u :: r => (t.1 - u.1) * (R - u.2 * Q) ≤ (t.2 - u.2) * (P - u.1 * Q) ∧ UQ P R Q (u :: r)
  | [b] => R ≤ b.2 * Q
  | [] => True
theorem uq_of {P R Q : Int} : ∀ (s : List Pr), (∀ j, j + 1 < s.length → ((at' s j).1 - (at' s (j + 1)).1) * (R - (at' s (j + 1)).2 * Q) ≤ ((at' s j).2 - (at' s (j + 1)).2) * (P - (at' s (j + 1)).1 * Q)) → (s ≠ [] → R ≤ (at' s (s.length - 1)).2 * Q) → UQ P R Q s := by
  intro s
  induction s with
  | nil => intro _ _; trivial
  | cons t s ih =>
    intro h hl
    cases s with
    | nil => exact hl (by simp)
    | cons u r => exact ⟨h 0 (by simp), ih (fun j hj => h (j + 1) (by simpa using hj)) fun _ => hl (by simp)⟩
/-- what holds at all corners holds below the chain -/
theorem uq_le {P R Q a b c : Int} (hQ : 0 < Q) (ha : 0 ≤ a) (hb : 0 ≤ b) : ∀ (s : List Pr), conv s → UQ P R Q s → (∀ o ∈ s, a * o.1 + b * o.2 ≤ c) → ∀ t r, s = t :: r → P ≤ t.1 * Q → a * P + b * R ≤ c * Q := by
  intro s
  induction s with
  | nil => intro _ _ _ t r e; cases e
  | cons t s ih =>
    intro hc hu hk t' r e hP
    injection e with e1 e2
    subst e1; subst e2
    cases s with
    | nil =>
      have hu : R ≤ t.2 * Q := hu
      have h1 := hk t (by simp)
      have m1 := Int.mul_le_mul_of_nonneg_left hP ha
      have m2 := Int.mul_le_mul_of_nonneg_left hu hb
      have m3 := Int.mul_le_mul_of_nonneg_right h1 (show 0 ≤ Q by omega)
      grind
    | cons u r =>
      obtain ⟨c1, c2, c3, c4⟩ := hc
      obtain ⟨u1, u2⟩ := hu
      by_cases hPu : P ≤ u.1 * Q
      · exact ih c4 u2 (fun o ho => hk o (by simp [List.mem_cons.1 ho])) u r rfl hPu
      · refine cancel (k := t.1 - u.1) (by omega) ?_
        have h1 := hk t (by simp)
        have h2 := hk u (by simp)
        have m1 := Int.mul_le_mul_of_nonneg_left u1 hb
        have m2 := Int.mul_le_mul_of_nonneg_left h1 (show 0 ≤ P - u.1 * Q by omega)
        have m3 := Int.mul_le_mul_of_nonneg_left h2 (show 0 ≤ t.1 * Q - P by omega)
        grind
theorem sat_q {t : Tr} {x y : Pr} : sat t x y ↔ t.1 * (x.1 * y.2) + t.2.1 * (y.1 * x.2) ≤ t.2.2 * (x.2 * y.2) := by
  unfold sat
  constructor <;> intro h <;> grind
theorem cands_nn {l : List Pr} : ∀ t ∈ cands l, 0 ≤ t.1 ∧ 0 ≤ t.2.1 := by
  intro t ht
  unfold cands at ht
  obtain ⟨o, ho, ht⟩ := List.mem_flatMap.1 ht
  unfold candF at ht
  rcases List.mem_cons.1 ht with rfl | ht
  · simp
  · rcases List.mem_cons.1 ht with rfl | ht
    · simp
    · obtain ⟨p, hp, ht⟩ := List.mem_flatMap.1 ht
      unfold candG at ht
      split at ht
      · rw [List.mem_singleton] at ht
        subst ht
        dsimp only
        omega
      · cases ht
theorem plainIsG {q l : List Pr} (hp : q.Perm l) (hs : q.Pairwise lexP) (hne : q ≠ []) {x y : Pr} (hx : 0 < x.2) (hy : 0 < y.2) : (∀ t ∈ linesF (chainF q).reverse, sat t x y) ↔ ∀ t ∈ limits l, sat t x y := by
  constructor
  · intro h t ht
    unfold limits at ht
    rw [List.mem_filter] at ht
    obtain ⟨hcd, hk⟩ := ht
    have hk := of_decide_eq_true hk
    have hnn := cands_nn t hcd
    have hc := chain_ok hs
    have hn := hc.ne hne
    generalize chainF q = s at *
    have hpos := List.length_pos_iff.2 hn
    rw [sat_q]
    have hQ : 0 < x.2 * y.2 := Int.mul_pos hx hy
    have hl0 := h (0, 1, (at' s.reverse 0).2) (by unfold linesF; simp)
    have hl1 := h (1, 0, (at' s.reverse (s.reverse.length - 1)).1) (by unfold linesF; simp)
    have hli : ∀ i, i < s.reverse.length - 1 → sat (lineB (at' s.reverse i) (at' s.reverse (i + 1))) x y := fun i hi => h _ (by
      unfold linesF
      exact List.mem_cons_of_mem _ (List.mem_cons_of_mem _ (List.mem_map.2 ⟨i, List.mem_range.2 hi, rfl⟩)))
    rw [List.length_reverse] at hli hl1
    rw [sat_q] at hl0 hl1
    rw [at_rev hpos, Nat.sub_zero] at hl0
    rw [at_rev (by omega), Nat.sub_self] at hl1
    dsimp only at hl0 hl1
    simp only [sat_q] at hli
    generalize x.1 * y.2 = P at *
    generalize y.1 * x.2 = R at *
    generalize x.2 * y.2 = Q at *
    have huq : UQ P R Q s := uq_of s (fun j hj => by
      have := hli (s.length - 1 - (j + 1)) (by omega)
      rw [at_rev (by omega), at_rev (by omega)] at this
      rw [show s.length - 1 - (s.length - 1 - (j + 1)) = j + 1 by omega, show s.length - 1 - (s.length - 1 - (j + 1) + 1) = j by omega] at this
      unfold lineB at this
      dsimp only at this
      generalize at' s (j + 1) = u at *
      generalize at' s j = t at *
      grind) (fun _ => by omega)
    match s, hn, hc, huq, hl1 with
    | a :: r, _, hc, huq, hl1 =>
      have e : at' (a :: r) 0 = a := rfl
      rw [e] at hl1
      exact uq_le hQ hnn.1 hnn.2 (a :: r) hc.cv huq (fun o ho => hk o (hp.mem_iff.1 (hc.sub o ho))) a r rfl (by omega)
  · intro h t ht
    exact h t (line_limit hp hs hne t ht)
end Go.Lt.P5
