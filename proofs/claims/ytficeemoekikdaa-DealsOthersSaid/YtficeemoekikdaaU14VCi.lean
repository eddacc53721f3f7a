/- PLAIN LAWS OF WHAT IS COMPUTED, for the statement 'DealsOthers'. Nothing is asked of the input. -/
import Derived.Test.YtficeemoekikdaaU14VCh
set_option linter.unusedVariables false
set_option linter.unusedSimpArgs false
namespace Go.Lt.P5
open Go.Lt
def lexP (p q : Pr) : Prop := p.1 < q.1 ∨ (p.1 = q.1 ∧ p.2 < q.2)
def popY : List Pr → Pr → List Pr
  | t :: r, p => if t.2 ≤ p.2 then popY r p else t :: r
  | [], _ => []
def popT : List Pr → Pr → List Pr
  | t :: u :: r, p => if 0 ≤ turn u t p then popT (u :: r) p else t :: u :: r
  | s, _ => s
def addC (s : List Pr) (p : Pr) : List Pr := p :: popT (popY s p) p
/-- falling more and more; the top first -/
def conv : List Pr → Prop
  | t :: u :: r => u.1 < t.1 ∧ t.2 < u.2 ∧ (∀ w r', r = w :: r' → turn w u t < 0) ∧ conv (u :: r)
  | _ => True
/-- q lies below it all -/
def und : List Pr → Pr → Prop
  | t :: u :: r, q => under u t q ∧ und (u :: r) q
  | [b], q => q.2 ≤ b.2
  | [], _ => True
structure CI (s D : List Pr) : Prop where
  cv : conv s
  ud : ∀ q ∈ D, und s q
  top : ∀ t r, s = t :: r → ∀ q ∈ D, q.1 ≤ t.1 ∧ (q.1 = t.1 → q.2 ≤ t.2)
  sub : ∀ q ∈ s, q ∈ D
  ne : D ≠ [] → s ≠ []
/-- while p is put to it -/
structure PI (s D : List Pr) (p : Pr) : Prop where
  cv : conv s
  ud : ∀ q ∈ D, und s q
  sub : ∀ q ∈ s, q ∈ D
  rr : ∀ t r, s = t :: r → ∀ q ∈ D, t.1 ≤ q.1 → under t p q
theorem PI.pop {t u : Pr} {r D : List Pr} {p : Pr} (h : PI (t :: u :: r) D p) (hp : ∀ q ∈ D, q.1 ≤ p.1 ∧ (q.1 = p.1 → q.2 < p.2)) (ht : 0 ≤ turn u t p) : PI (u :: r) D p := by
  obtain ⟨c1, c2, c3, c4⟩ := h.cv
  have htD := h.sub t (by simp)
  have htp := hp t htD
  refine ⟨c4, fun q hq => (h.ud q hq).2, fun q hq => h.sub q (by simp [List.mem_cons.1 hq]), fun t' r' e q hq huq => ?_⟩
  injection e with e1 e2
  subst e1
  have hut := turn_under.1 ht
  by_cases hc : t.1 ≤ q.1
  · exact under_mid c1 htp.1 hc (hp q hq).1 (fun e => by have := (hp q hq).2 e; omega) hut (h.rr t _ rfl q hq hc)
  · exact under_right c1 (by omega) huq (h.ud q hq).1 hut
theorem popT_ok {D : List Pr} {p : Pr} (hp : ∀ q ∈ D, q.1 ≤ p.1 ∧ (q.1 = p.1 → q.2 < p.2)) : ∀ (s : List Pr), PI s D p → (∀ t r, s = t :: r → p.2 < t.2) →
    PI (popT s p) D p ∧ (∀ t r, popT s p = t :: r → p.2 < t.2) ∧ (∀ t u r, popT s p = t :: u :: r → turn u t p < 0) ∧ (s ≠ [] → popT s p ≠ []) := by
  intro s
  induction s with
  | nil => intro h _; exact ⟨h, fun t r e => by simp [popT] at e, fun t u r e => by simp [popT] at e, fun h => absurd rfl h⟩
  | cons t s ih =>
    intro h hy
    cases s with
    | nil => exact ⟨h, hy, fun t' u r e => by simp [popT] at e, fun _ => by simp [popT]⟩
    | cons u r =>
      rw [popT]
      by_cases ht : 0 ≤ turn u t p
      · rw [if_pos ht]
        have h2 := ih (h.pop hp ht) (fun t' r' e => by
          injection e with e1 e2
          subst e1
          have := hy t _ rfl
          have := h.cv.2.1
          omega)
        exact ⟨h2.1, h2.2.1, h2.2.2.1, fun _ => h2.2.2.2 (by simp)⟩
      · rw [if_neg ht]
        refine ⟨h, hy, fun t' u' r' e => ?_, fun _ => by simp⟩
        injection e with e1 e2
        injection e2 with e2 e3
        subst e1; subst e2
        omega
theorem popY_ok {D : List Pr} {p : Pr} (hp : ∀ q ∈ D, q.1 ≤ p.1 ∧ (q.1 = p.1 → q.2 < p.2)) : ∀ (s : List Pr), PI s D p → s ≠ [] →
    PI (popY s p) D p ∧ (∀ t r, popY s p = t :: r → p.2 < t.2) ∧ (popY s p = [] → ∀ q ∈ D, q.2 ≤ p.2) := by
  intro s
  induction s with
  | nil => intro _ h; exact absurd rfl h
  | cons t s ih =>
    intro h _
    rw [popY]
    by_cases ht : t.2 ≤ p.2
    · rw [if_pos ht]
      cases s with
      | nil =>
        refine ⟨⟨trivial, fun _ _ => trivial, fun q hq => by simp [popY] at hq, fun t' r e => by simp [popY] at e⟩, fun t' r e => by simp [popY] at e, fun _ q hq => ?_⟩
        have : q.2 ≤ t.2 := h.ud q hq
        omega
      | cons u r =>
        refine ih (h.pop hp ?_) (by simp)
        obtain ⟨c1, c2, _⟩ := h.cv
        have htp := (hp t (h.sub t (by simp))).1
        unfold turn
        have a1 : 0 ≤ (t.1 - u.1) * (p.2 - t.2) := Int.mul_nonneg (by omega) (by omega)
        have a2 : 0 ≤ (u.2 - t.2) * (p.1 - t.1) := Int.mul_nonneg (by omega) (by omega)
        grind
    · rw [if_neg ht]
      refine ⟨h, fun t' r e => ?_, fun e => by simp at e⟩
      injection e with e1 e2
      subst e1
      omega
theorem und_self : ∀ (s : List Pr) (t : Pr) (r : List Pr) (p : Pr), s = t :: r → conv s → t.1 ≤ p.1 → p.2 ≤ t.2 → (∀ u r', r = u :: r' → under u t p) → und s p := by
  intro s
  induction s with
  | nil => intro t r p e; cases e
  | cons x s ih =>
    intro t r p e hc h1 h2 h3
    injection e with e1 e2
    subst e1; subst e2
    cases s with
    | nil => exact h2
    | cons u r =>
      obtain ⟨c1, c2, c3, c4⟩ := hc
      refine ⟨h3 u r rfl, ih u r p rfl c4 (by omega) (by omega) fun w r' e => ?_⟩
      subst e
      cases r' <;> exact under_ahead c4.1 c1 h1 (h3 u _ rfl) (c3 w _ rfl)
theorem CI.add {s D : List Pr} {p : Pr} (h : CI s D) (hp : ∀ q ∈ D, lexP q p) : CI (addC s p) (D ++ [p]) := by
  have hp' : ∀ q ∈ D, q.1 ≤ p.1 ∧ (q.1 = p.1 → q.2 < p.2) := fun q hq => by
    have := hp q hq
    unfold lexP at this
    omega
  have htop : ∀ t r, addC s p = t :: r → ∀ q ∈ D ++ [p], q.1 ≤ t.1 ∧ (q.1 = t.1 → q.2 ≤ t.2) := by
    intro t r e q hq
    unfold addC at e
    injection e with e1 e2
    subst e1
    rcases List.mem_append.1 hq with hq | hq
    · have := hp' q hq; omega
    · rw [List.mem_singleton] at hq; subst hq; omega
  by_cases hs : s = []
  · subst hs
    have hD : D = [] := by
      cases D with
      | nil => rfl
      | cons a D => exact absurd rfl (h.ne (by simp))
    subst hD
    refine ⟨trivial, fun q hq => ?_, htop, fun q hq => by simpa [addC, popY, popT] using hq, fun _ => by simp [addC]⟩
    rw [List.nil_append, List.mem_singleton] at hq
    subst hq
    exact Int.le_refl _
  · have hPI : PI s D p := ⟨h.cv, h.ud, h.sub, fun t r e q hq hc => by
      have := h.top t r e q hq
      have e1 : q.1 = t.1 := by omega
      have h2 := this.2 e1
      unfold under
      rw [e1]
      have htp := (hp' t (h.sub t (by rw [e]; simp))).1
      have := Int.mul_le_mul_of_nonneg_left (a := q.2 - t.2) (b := 0) (c := p.1 - t.1) (by omega) (by omega)
      grind⟩
    obtain ⟨y1, y2, y3⟩ := popY_ok hp' s hPI hs
    obtain ⟨t1, t2, t3, t4⟩ := popT_ok hp' _ y1 y2
    unfold addC at *
    cases hq : popT (popY s p) p with
    | nil =>
      have hy : popY s p = [] := by
        cases hh : popY s p with
        | nil => rfl
        | cons a b => exact absurd hq (t4 (by rw [hh]; simp))
      refine ⟨trivial, fun q hqm => ?_, by rw [hq] at htop; exact htop, fun q hqm => by simp at hqm; simp [hqm], fun _ => by simp⟩
      rcases List.mem_append.1 hqm with hqm | hqm
      · exact y3 hy q hqm
      · rw [List.mem_singleton] at hqm; subst hqm; exact Int.le_refl _
    | cons t r =>
      rw [hq] at t1 t2 t3 htop
      have hpy := t2 t r rfl
      have htD := t1.sub t (by simp)
      have htp := hp' t htD
      have hlt : t.1 < p.1 := by
        rcases Int.lt_or_eq_of_le htp.1 with h | h
        · exact h
        · have := htp.2 h; omega
      refine ⟨⟨hlt, hpy, fun w r' e => by subst e; exact t3 t w r' rfl, t1.cv⟩, fun q hqm => ?_, htop, fun q hqm => ?_, fun _ => by simp⟩
      · rcases List.mem_append.1 hqm with hqm | hqm
        · refine ⟨?_, t1.ud q hqm⟩
          by_cases hc : t.1 ≤ q.1
          · exact t1.rr t r rfl q hqm hc
          · cases r with
            | nil =>
              have : q.2 ≤ t.2 := t1.ud q hqm
              unfold under
              have a1 : 0 ≤ (p.1 - t.1) * (t.2 - q.2) := Int.mul_nonneg (by omega) (by omega)
              have a2 : 0 ≤ (t.2 - p.2) * (t.1 - q.1) := Int.mul_nonneg (by omega) (by omega)
              grind
            | cons u r => exact under_left t1.cv.1 hlt (by omega) (t1.ud q hqm).1 (t3 t u r rfl)
        · rw [List.mem_singleton] at hqm
          subst hqm
          refine ⟨?_, und_self (t :: r) t r q rfl t1.cv (by omega) (by omega) fun u r' e => ?_⟩
          · unfold under; grind
          · subst e; exact turn_over (t3 t u r' rfl)
      · rcases List.mem_cons.1 hqm with rfl | hqm
        · simp
        · exact List.mem_append_left _ (t1.sub q hqm)
def chainF (l : List Pr) : List Pr := l.foldl addC []
theorem chain_ok {l : List Pr} (h : l.Pairwise lexP) : CI (chainF l) l := by
  have key : ∀ (rest D s : List Pr), CI s D → (D ++ rest).Pairwise lexP → CI (rest.foldl addC s) (D ++ rest) := by
    intro rest
    induction rest with
    | nil => intro D s h _; simpa using h
    | cons p rest ih =>
      intro D s h hp
      have h2 := ih (D ++ [p]) (addC s p) (h.add fun q hq => (List.pairwise_append.1 hp).2.2 q hq p (by simp)) (by simpa using hp)
      simpa using h2
  have := key l [] [] ⟨trivial, by simp, by simp, by simp, by simp⟩ (by simpa using h)
  unfold chainF
  simpa using this
end Go.Lt.P5
