/- PLAIN LAWS OF WHAT IS COMPUTED, for the statement 'DealsIs'. Nothing is asked of the input. -/
import Derived.Test.YtficeemoekikdaaU5VRf
set_option linter.unusedVariables false
set_option linter.unusedSimpArgs false
namespace Go.Lt.P5
open Go.Lt
theorem at_cons (t : Pr) (s : List Pr) (j : Nat) : at' (t :: s) (j + 1) = at' s j := rfl
theorem at_mem {s : List Pr} {j : Nat} (h : j < s.length) : at' s j ∈ s := by rw [← at_eq h]; exact List.getElem_mem h
theorem at_rev {s : List Pr} {i : Nat} (h : i < s.length) : at' s.reverse i = at' s (s.length - 1 - i) := by
  rw [← at_eq (by simpa using h), ← at_eq (by omega), List.getElem_reverse]
theorem conv_at : ∀ (s : List Pr), conv s → ∀ j, j + 1 < s.length → (at' s (j + 1)).1 < (at' s j).1 ∧ (at' s j).2 < (at' s (j + 1)).2 := by
  intro s
  induction s with
  | nil => intro _ j h; simp at h
  | cons t s ih =>
    intro hc j h
    cases s with
    | nil => simp at h
    | cons u r =>
      obtain ⟨c1, c2, c3, c4⟩ := hc
      cases j with
      | zero => exact ⟨c1, c2⟩
      | succ j => exact ih c4 j (by simpa using h)
theorem und_at {o : Pr} : ∀ (s : List Pr), und s o → ∀ j, j + 1 < s.length → under (at' s (j + 1)) (at' s j) o := by
  intro s
  induction s with
  | nil => intro _ j h; simp at h
  | cons t s ih =>
    intro hc j h
    cases s with
    | nil => simp at h
    | cons u r =>
      cases j with
      | zero => exact hc.1
      | succ j => exact ih hc.2 j (by simpa using h)
theorem und_last {o : Pr} : ∀ (s : List Pr), und s o → s ≠ [] → o.2 ≤ (at' s (s.length - 1)).2 := by
  intro s
  induction s with
  | nil => intro _ h; exact absurd rfl h
  | cons t s ih =>
    intro hc _
    cases s with
    | nil => exact hc
    | cons u r => exact ih hc.2 (by simp)
/-- a point in quotients below a chain -/
def UQ (P R Q : Int) : List Pr → Prop
  | t :: u :: r => (t.1 - u.1) * (R - u.2 * Q) ≤ (t.2 - u.2) * (P - u.1 * Q) ∧ UQ P R Q (u :: r)
  | [b] => R ≤ b.2 * Q
  | [] => True
theorem uq_of {P R Q : Int} : ∀ (s : List Pr), (∀ j, j + 1 < s.length → ((at' s j).1 - (at' s (j + 1)).1) * (R - (at' s (j + 1)).2 * Q) ≤ ((at' s j).2 - (at' s (j + 1)).2) * (P - (at' s (j + 1)).1 * Q)) → (s ≠ [] → R ≤ (at' s (s.length - 1)).2 * Q) → UQ P R Q s := by
  intro s
  induction s with
  | nil => intro _ _; trivial
  | cons t s ih =>
    intro h hl
    cases s with
    | nil => exact hl (by simp)
    | cons u r => exact ⟨h 0 (by simp), ih (fun j hj => h (j + 1) (by simpa using hj)) fun _ => hl (by simp)⟩
/-- what holds at all corners holds below the chain -/
theorem uq_le {P R Q a b c : Int} (hQ : 0 < Q) (ha : 0 ≤ a) (hb : 0 ≤ b) : ∀ (s : List Pr), conv s → UQ P R Q s → (∀ o ∈ s, a * o.1 + b * o.2 ≤ c) → ∀ t r, s = t :: r → P ≤ t.1 * Q → a * P + b * R ≤ c * Q := by
  intro s
  induction s with
  | nil => intro _ _ _ t r e; cases e
  | cons t s ih =>
    intro hc hu hk t' r e hP
    injection e with e1 e2
    subst e1; subst e2
    cases s with
    | nil =>
      have hu : R ≤ t.2 * Q := hu
      have h1 := hk t (by simp)
      have m1 := Int.mul_le_mul_of_nonneg_left hP ha
      have m2 := Int.mul_le_mul_of_nonneg_left hu hb
      have m3 := Int.mul_le_mul_of_nonneg_right h1 (show 0 ≤ Q by omega)
      grind
    | cons u r =>
      obtain ⟨c1, c2, c3, c4⟩ := hc
      obtain ⟨u1, u2⟩ := hu
      by_cases hPu : P ≤ u.1 * Q
      · exact ih c4 u2 (fun o ho => hk o (by simp [List.mem_cons.1 ho])) u r rfl hPu
      · refine cancel (k := t.1 - u.1) (by omega) ?_
        have h1 := hk t (by simp)
        have h2 := hk u (by simp)
        have m1 := Int.mul_le_mul_of_nonneg_left u1 hb
        have m2 := Int.mul_le_mul_of_nonneg_left h1 (show 0 ≤ P - u.1 * Q by omega)
        have m3 := Int.mul_le_mul_of_nonneg_left h2 (show 0 ≤ t.1 * Q - P by omega)
        grind
theorem sat_q {t : Tr} {x y : Pr} : sat t x y ↔ t.1 * (x.1 * y.2) + t.2.1 * (y.1 * x.2) ≤ t.2.2 * (x.2 * y.2) := by
  unfold sat
  constructor <;> intro h <;> grind
theorem cands_nn {l : List Pr} : ∀ t ∈ cands l, 0 ≤ t.1 ∧ 0 ≤ t.2.1 := by
  intro t ht
  unfold cands at ht
  obtain ⟨o, ho, ht⟩ := List.mem_flatMap.1 ht
  unfold candF at ht
  rcases List.mem_cons.1 ht with rfl | ht
  · simp
  · rcases List.mem_cons.1 ht with rfl | ht
    · simp
    · obtain ⟨p, hp, ht⟩ := List.mem_flatMap.1 ht
      unfold candG at ht
      split at ht
      · rw [List.mem_singleton] at ht
        subst ht
        dsimp only
        omega
      · cases ht
/-- each line of the chain is a limit -/
theorem line_limit {q l : List Pr} (hp : q.Perm l) (hs : q.Pairwise lexP) (hne : q ≠ []) : ∀ t ∈ linesF (chainF q).reverse, t ∈ limits l := by
  have hc := chain_ok hs
  have hn := hc.ne hne
  generalize chainF q = s at *
  have hpos := List.length_pos_iff.2 hn
  have hin : ∀ j, j < s.length → at' s j ∈ l := fun j hj => hp.mem_iff.1 (hc.sub _ (at_mem hj))
  intro t ht
  unfold linesF at ht
  rw [List.length_reverse] at ht
  unfold limits
  rw [List.mem_filter]
  rcases List.mem_cons.1 ht with rfl | ht
  · rw [at_rev hpos, Nat.sub_zero]
    refine ⟨List.mem_flatMap.2 ⟨_, hin (s.length - 1) (by omega), by unfold candF; simp⟩, decide_eq_true fun o ho => ?_⟩
    have := und_last s (hc.ud o (hp.mem_iff.2 ho)) hn
    dsimp only
    omega
  · rcases List.mem_cons.1 ht with rfl | ht
    · rw [at_rev (by omega), Nat.sub_self]
      refine ⟨List.mem_flatMap.2 ⟨_, hin 0 (by omega), by unfold candF; simp⟩, decide_eq_true fun o ho => ?_⟩
      match s, hn, hc with
      | a :: r, _, hc =>
        have := hc.top a r rfl o (hp.mem_iff.2 ho)
        have e : at' (a :: r) 0 = a := rfl
        rw [e]
        dsimp only
        omega
    · obtain ⟨i, hi, rfl⟩ := List.mem_map.1 ht
      rw [List.mem_range] at hi
      rw [at_rev (by omega), at_rev (by omega)]
      have ej : s.length - 1 - i = (s.length - 1 - (i + 1)) + 1 := by omega
      rw [ej]
      generalize hj : s.length - 1 - (i + 1) = j
      have hj1 : j + 1 < s.length := by omega
      have hcv := conv_at s hc.cv j hj1
      have hu := hin (j + 1) hj1
      have ht := hin j (by omega)
      have hund := fun o ho => und_at s (hc.ud o (hp.mem_iff.2 ho)) j hj1
      generalize at' s (j + 1) = u at *
      generalize at' s j = t at *
      refine ⟨List.mem_flatMap.2 ⟨u, hu, ?_⟩, decide_eq_true fun o ho => ?_⟩
      · unfold candF
        refine List.mem_cons_of_mem _ (List.mem_cons_of_mem _ (List.mem_flatMap.2 ⟨t, ht, ?_⟩))
        unfold candG lineB
        rw [if_pos ⟨hcv.1, hcv.2⟩, List.mem_singleton]
        have : (u.2 - t.2) * t.1 + (t.1 - u.1) * t.2 = (u.2 - t.2) * u.1 + (t.1 - u.1) * u.2 := by grind
        rw [this]
      · have := hund o ho
        unfold under at this
        unfold lineB
        dsimp only
        grind
theorem plainIs {q l : List Pr} (hp : q.Perm l) (hs : q.Pairwise lexP) (hne : q ≠ []) {x y : Pr} (hx : fr x) (hy : fr y) : (∀ t ∈ linesF (chainF q).reverse, sat t x y) ↔ ∀ t ∈ limits l, sat t x y := by
  constructor
  · intro h t ht
    unfold limits at ht
    rw [List.mem_filter] at ht
    obtain ⟨hcd, hk⟩ := ht
    have hk := of_decide_eq_true hk
    have hnn := cands_nn t hcd
    have hc := chain_ok hs
    have hn := hc.ne hne
    generalize chainF q = s at *
    have hpos := List.length_pos_iff.2 hn
    rw [sat_q]
    have hQ : 0 < x.2 * y.2 := Int.mul_pos (by have := hx.1; omega) (by have := hy.1; omega)
    have hl0 := h (0, 1, (at' s.reverse 0).2) (by unfold linesF; simp)
    have hl1 := h (1, 0, (at' s.reverse (s.reverse.length - 1)).1) (by unfold linesF; simp)
    have hli : ∀ i, i < s.reverse.length - 1 → sat (lineB (at' s.reverse i) (at' s.reverse (i + 1))) x y := fun i hi => h _ (by
      unfold linesF
      exact List.mem_cons_of_mem _ (List.mem_cons_of_mem _ (List.mem_map.2 ⟨i, List.mem_range.2 hi, rfl⟩)))
    rw [List.length_reverse] at hli hl1
    rw [sat_q] at hl0 hl1
    rw [at_rev hpos, Nat.sub_zero] at hl0
    rw [at_rev (by omega), Nat.sub_self] at hl1
    dsimp only at hl0 hl1
    simp only [sat_q] at hli
    generalize x.1 * y.2 = P at *
    generalize y.1 * x.2 = R at *
    generalize x.2 * y.2 = Q at *
    have huq : UQ P R Q s := uq_of s (fun j hj => by
      have := hli (s.length - 1 - (j + 1)) (by omega)
      rw [at_rev (by omega), at_rev (by omega)] at this
      rw [show s.length - 1 - (s.length - 1 - (j + 1)) = j + 1 by omega, show s.length - 1 - (s.length - 1 - (j + 1) + 1) = j by omega] at this
      unfold lineB at this
      dsimp only at this
      generalize at' s (j + 1) = u at *
      generalize at' s j = t at *
      grind) (fun _ => by omega)
    match s, hn, hc, huq, hl1 with
    | a :: r, _, hc, huq, hl1 =>
      have e : at' (a :: r) 0 = a := rfl
      rw [e] at hl1
      exact uq_le hQ hnn.1 hnn.2 (a :: r) hc.cv huq (fun o ho => hk o (hp.mem_iff.1 (hc.sub o ho))) a r rfl (by omega)
  · intro h t ht
    exact h t (line_limit hp hs hne t ht)
end Go.Lt.P5
