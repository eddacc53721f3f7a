/- PLAIN LAWS OF WHAT IS COMPUTED, for the statement 'DealsOthers'. Nothing is asked of the input. -/
import Derived.Test.YtficeemoekikdaaU14VLp
import Derived.Test.YtficeemoekikdaaU14VAt
set_option linter.unusedVariables false
set_option linter.unusedSimpArgs false
namespace Go.Lt.P5
open Go.Lt
theorem inc_eq : ∀ (a b : List Pr), a.Pairwise incP → b.Pairwise incP → (∀ x, x ∈ a ↔ x ∈ b) → a = b := by
  intro a
  induction a with
  | nil =>
    intro b _ _ h
    cases b with
    | nil => rfl
    | cons y b => exact absurd ((h y).2 (by simp)) (by simp)
  | cons x a ih =>
    intro b ha hb h
    cases b with
    | nil => exact absurd ((h x).1 (by simp)) (by simp)
    | cons y b =>
      rw [List.pairwise_cons] at ha hb
      have hxy : x = y := by
        rcases List.mem_cons.1 ((h x).1 (by simp)) with e | e
        · exact e
        · rcases List.mem_cons.1 ((h y).2 (by simp)) with e2 | e2
          · exact e2.symm
          · have h1 := hb.1 x e
            have h2 := ha.1 y e2
            unfold incP at h1 h2
            omega
      subst hxy
      have := ih b ha.2 hb.2 fun z => by
        constructor
        · intro hz
          rcases List.mem_cons.1 ((h z).1 (List.mem_cons_of_mem _ hz)) with e | e
          · subst e; have := ha.1 z hz; unfold incP at this; omega
          · exact e
        · intro hz
          rcases List.mem_cons.1 ((h z).2 (List.mem_cons_of_mem _ hz)) with e | e
          · subst e; have := hb.1 z hz; unfold incP at this; omega
          · exact e
      rw [this]
theorem conv_pw : ∀ (s : List Pr), conv s → s.Pairwise fun a b => b.1 < a.1 := by
  intro s
  induction s with
  | nil => intro _; simp
  | cons t s ih =>
    intro hc
    cases s with
    | nil => simp
    | cons u r =>
      obtain ⟨c1, c2, c3, c4⟩ := hc
      have hp := ih c4
      refine List.pairwise_cons.2 ⟨fun x hx => ?_, hp⟩
      rcases List.mem_cons.1 hx with rfl | hx
      · exact c1
      · have := (List.pairwise_cons.1 hp).1 x hx
        omega
theorem conv_turn : ∀ (s : List Pr), conv s → ∀ j, j + 2 < s.length → turn (at' s (j + 2)) (at' s (j + 1)) (at' s j) < 0 := by
  intro s
  induction s with
  | nil => intro _ j h; simp at h
  | cons t s ih =>
    intro hc j h
    cases s with
    | nil => simp at h
    | cons u r =>
      obtain ⟨c1, c2, c3, c4⟩ := hc
      cases j with
      | zero =>
        cases r with
        | nil => simp at h
        | cons w r => exact c3 w r rfl
      | succ j => exact ih c4 j (by simp only [List.length_cons] at h ⊢; omega)
theorem seg {x : Int} : ∀ (s : List Pr), s ≠ [] → x ≤ (at' s 0).1 → (at' s (s.length - 1)).1 ≤ x → x = (at' s 0).1 ∨ ∃ j, j + 1 < s.length ∧ (at' s (j + 1)).1 ≤ x ∧ x < (at' s j).1 := by
  intro s
  induction s with
  | nil => intro h; exact absurd rfl h
  | cons t s ih =>
    intro _ h1 h2
    cases s with
    | nil => exact .inl (Int.le_antisymm h1 h2)
    | cons u r =>
      by_cases e : x = t.1
      · exact .inl e
      · have h1 : x ≤ t.1 := h1
        by_cases c : u.1 ≤ x
        · exact .inr ⟨0, by simp, c, by show x < t.1; omega⟩
        · rcases ih (by simp) (by show x ≤ u.1; omega) h2 with e2 | ⟨j, hj, a, b⟩
          · have e2 : x = u.1 := e2
            omega
          · exact .inr ⟨j + 1, by simpa using hj, a, b⟩
theorem on_line {T S A B p r : Int} (hp : 0 < p) (hr : 0 < r) (h0 : B * p + r * A = 0) (u1 : T * A ≤ -(S * p)) : S * r ≤ T * B := by
  refine cancel (k := p) hp ?_
  have m1 := Int.mul_le_mul_of_nonneg_left u1 (show 0 ≤ r by omega)
  have e : B * p = -(r * A) := by omega
  have e2 : p * (T * B) = T * (B * p) := by grind
  rw [e2, e]
  grind
theorem under_shift {w c a : Pr} (h : (c.1 - w.1) * (a.2 - w.2) ≤ (c.2 - w.2) * (a.1 - w.1)) : (c.1 - w.1) * (a.2 - c.2) ≤ (c.2 - w.2) * (a.1 - c.1) := by
  grind
theorem turn_zero {w c t b : Pr} (e2 : (t.1 - c.1) * (b.2 - c.2) = (t.2 - c.2) * (b.1 - c.1)) (e4 : (c.1 - w.1) * (b.2 - c.2) = (c.2 - w.2) * (b.1 - c.1)) : (b.1 - c.1) * ((c.1 - w.1) * (t.2 - c.2) - (c.2 - w.2) * (t.1 - c.1)) = 0 := by
  have a1 : (b.1 - c.1) * ((c.1 - w.1) * (t.2 - c.2)) = (c.1 - w.1) * ((t.2 - c.2) * (b.1 - c.1)) := by grind
  have a2 : (b.1 - c.1) * ((c.2 - w.2) * (t.1 - c.1)) = (t.1 - c.1) * ((c.2 - w.2) * (b.1 - c.1)) := by grind
  rw [Int.mul_sub, a1, a2, ← e2, ← e4]
  grind
theorem col_zero {a b c : Pr} (h : col a c b) : (b.2 - c.2) * (c.1 - a.1) + (b.1 - c.1) * (a.2 - c.2) = 0 := by
  unfold col at h
  grind
section
variable {q l s : List Pr}
/-- a corner of the chain is last -/
theorem corner_last (hp : q.Perm l) (hc : CI s q) {j : Nat} (hj : j < s.length) : lastP l (at' s j) := by
  intro a ha
  have haq := hp.mem_iff.2 ha
  cases j with
  | zero =>
    match s, hj, hc with
    | t :: r, _, hc =>
      have e : at' (t :: r) 0 = t := rfl
      rw [e]
      have hta := hc.top t r rfl a haq
      refine ⟨fun d => ?_, fun b hb hbe => ?_⟩
      · obtain ⟨d1, d2, d3⟩ := d
        have e1 : a.1 = t.1 := by omega
        have := hta.2 e1
        exact d1 (Prod.ext e1 (by omega))
      · have htb := hc.top t r rfl b (hp.mem_iff.2 hb)
        have := hbe.2.1
        omega
  | succ j =>
    have hcv := conv_at s hc.cv j hj
    have hua := und_at s (hc.ud a haq) j hj
    have hub := fun b hb => und_at s (hc.ud b (hp.mem_iff.2 hb)) j hj
    generalize at' s (j + 1) = c at *
    generalize at' s j = t at *
    unfold under at hua
    refine ⟨fun d => ?_, fun b hb hbe => ?_⟩
    · obtain ⟨d1, d2, d3⟩ := d
      have m1 : 0 ≤ (t.1 - c.1) * (a.2 - c.2) := Int.mul_nonneg (by omega) (by omega)
      have m2 : 0 ≤ (c.2 - t.2) * (a.1 - c.1) := Int.mul_nonneg (by omega) (by omega)
      have m5 : (t.2 - c.2) * (a.1 - c.1) = -((c.2 - t.2) * (a.1 - c.1)) := by rw [← Int.neg_mul]; congr 1; omega
      have m3 : (t.1 - c.1) * (a.2 - c.2) = 0 := by omega
      have m4 : (c.2 - t.2) * (a.1 - c.1) = 0 := by omega
      have z1 : a.2 - c.2 = 0 := (Int.mul_eq_zero.1 m3).resolve_left (by omega)
      have z2 : a.1 - c.1 = 0 := (Int.mul_eq_zero.1 m4).resolve_left (by omega)
      exact d1 (Prod.ext (by omega) (by omega))
    · have hub := hub b hb
      unfold under at hub
      obtain ⟨b1, b2, b3⟩ := hbe
      have m1 := Int.mul_le_mul_of_nonneg_left hua (show 0 ≤ b.1 - c.1 by omega)
      have m2 := Int.mul_le_mul_of_nonneg_left hub (show 0 ≤ c.1 - a.1 by omega)
      have m3 : 0 < (t.1 - c.1) * ((b.2 - a.2) * (c.1 - a.1) - (c.2 - a.2) * (b.1 - a.1)) := Int.mul_pos (by omega) (by omega)
      grind
theorem corner_not_betw (hp : q.Perm l) (hc : CI s q) {E : List Pr} (hE : ∀ o, o ∈ E ↔ o ∈ l ∧ lastP l o) {j : Nat} (hj : j < s.length) : ¬ betw E (at' s j) := by
  rintro ⟨a, ha, b, hb, ⟨h1, h2⟩, hcol⟩
  have ha' := (hE a).1 ha
  have hb' := (hE b).1 hb
  have haq := hp.mem_iff.2 ha'.1
  have hbq := hp.mem_iff.2 hb'.1
  cases j with
  | zero =>
    match s, hj, hc with
    | t :: r, _, hc =>
      have := hc.top t r rfl b hbq
      have e : at' (t :: r) 0 = t := rfl
      rw [e] at h2
      omega
  | succ j =>
    by_cases hlast : j + 2 < s.length
    · have hcv := conv_at s hc.cv j hj
      have hcw := conv_at s hc.cv (j + 1) hlast
      have ht := conv_turn s hc.cv j hlast
      have u1 := und_at s (hc.ud a haq) j hj
      have u2 := und_at s (hc.ud b hbq) j hj
      have u3 := und_at s (hc.ud a haq) (j + 1) hlast
      have u4 := und_at s (hc.ud b hbq) (j + 1) hlast
      generalize at' s (j + 1) = c at *
      generalize at' s j = t at *
      rw [show j + 1 + 1 = j + 2 from rfl] at *
      generalize at' s (j + 2) = w at *
      unfold under at u1 u2 u3 u4
      unfold turn at ht
      -- b lies on both lines
      have h0 := col_zero hcol
      have n1 : ∀ x : Int, x * (a.1 - c.1) = -(x * (c.1 - a.1)) := fun x => by rw [← Int.mul_neg]; congr 1; omega
      have e2 : (t.1 - c.1) * (b.2 - c.2) = (t.2 - c.2) * (b.1 - c.1) := Int.le_antisymm u2 (on_line (by omega) (by omega) h0 (by rw [← n1]; exact u1))
      have e4 : (c.1 - w.1) * (b.2 - c.2) = (c.2 - w.2) * (b.1 - c.1) := by
        have u3' : (c.1 - w.1) * (a.2 - c.2) ≤ (c.2 - w.2) * (a.1 - c.1) := under_shift u3
        exact Int.le_antisymm (under_shift u4) (on_line (by omega) (by omega) h0 (by rw [← n1]; exact u3'))
      have z : (b.1 - c.1) * ((c.1 - w.1) * (t.2 - c.2) - (c.2 - w.2) * (t.1 - c.1)) = 0 := turn_zero e2 e4
      have := (Int.mul_eq_zero.1 z).resolve_left (by omega)
      omega
    · have hne : s ≠ [] := by intro e; rw [e] at hj; simp at hj
      have hl := und_last s (hc.ud a haq) hne
      rw [show s.length - 1 = j + 1 by omega] at hl
      have hcl : at' s (j + 1) ∈ l := hp.mem_iff.1 (hc.sub _ (at_mem hj))
      refine (ha'.2 _ hcl).1 ⟨fun e => ?_, by omega, hl⟩
      rw [e] at h1
      omega
theorem edge_eq (hp : q.Perm l) (hc : CI s q) (hne : s ≠ []) {E : List Pr} (hi : E.Pairwise incP) (hE : ∀ o, o ∈ E ↔ o ∈ l ∧ lastP l o) : s.reverse = E.filter fun o => !decide (betw E o) := by
  have hsl : ∀ j, j < s.length → at' s j ∈ l := fun j hj => hp.mem_iff.1 (hc.sub _ (at_mem hj))
  have hpos := List.length_pos_iff.2 hne
  refine inc_eq _ _ (List.pairwise_reverse.2 (conv_pw s hc.cv)) (hi.filter _) fun o => ?_
  rw [List.mem_reverse, List.mem_filter]
  constructor
  · intro ho
    obtain ⟨j, hj, rfl⟩ := List.mem_iff_getElem.1 ho
    rw [at_eq hj]
    refine ⟨(hE _).2 ⟨hsl j hj, corner_last hp hc hj⟩, ?_⟩
    rw [decide_eq_false (corner_not_betw hp hc hE hj)]
    rfl
  · rintro ⟨hoE, hnb⟩
    have hnb : ¬ betw E o := by simpa using hnb
    by_cases hos : o ∈ s
    · exact hos
    · exfalso
      obtain ⟨hol, hlast⟩ := (hE o).1 hoE
      have hoq := hp.mem_iff.2 hol
      have nod : ∀ j, j < s.length → ¬ (o.1 ≤ (at' s j).1 ∧ o.2 ≤ (at' s j).2) := fun j hj c => (hlast _ (hsl j hj)).1 ⟨fun e => hos (by rw [← e]; exact at_mem hj), c.1, c.2⟩
      have htop : o.1 ≤ (at' s 0).1 ∧ (o.1 = (at' s 0).1 → o.2 ≤ (at' s 0).2) := by
        match s, hne, hc with
        | t :: r, _, hc => exact hc.top t r rfl o hoq
      have hle : (at' s (s.length - 1)).1 ≤ o.1 := by
        by_cases c : o.1 < (at' s (s.length - 1)).1
        · exact absurd ⟨by omega, und_last s (hc.ud o hoq) hne⟩ (nod (s.length - 1) (by omega))
        · omega
      rcases seg s hne htop.1 hle with e | ⟨j, hj, h1, h2⟩
      · exact nod 0 hpos ⟨by omega, htop.2 e⟩
      · have hu := und_at s (hc.ud o hoq) j hj
        have hcv := conv_at s hc.cv j hj
        unfold under at hu
        by_cases e : (at' s (j + 1)).1 = o.1
        · refine nod (j + 1) hj ⟨by omega, ?_⟩
          have : (at' s j).1 - (at' s (j + 1)).1 > 0 := by omega
          have hz : (o.1 - (at' s (j + 1)).1) = 0 := by omega
          rw [hz, Int.mul_zero] at hu
          have := cancel (x := o.2 - (at' s (j + 1)).2) (y := 0) this (by rw [Int.mul_zero]; exact hu)
          omega
        · have hnbt := (hlast _ (hsl (j + 1) hj)).2 _ (hsl j (by omega))
          refine hnb ⟨at' s (j + 1), (hE _).2 ⟨hsl _ hj, corner_last hp hc hj⟩, at' s j, (hE _).2 ⟨hsl _ (by omega), corner_last hp hc (by omega)⟩, ⟨by omega, h2⟩, ?_⟩
          unfold col
          refine Int.le_antisymm hu ?_
          by_cases c : (o.2 - (at' s (j + 1)).2) * ((at' s j).1 - (at' s (j + 1)).1) < ((at' s j).2 - (at' s (j + 1)).2) * (o.1 - (at' s (j + 1)).1)
          · exact absurd ⟨by omega, h2, c⟩ hnbt
          · rw [Int.mul_comm ((at' s j).1 - (at' s (j + 1)).1)]; omega
end
end Go.Lt.P5
