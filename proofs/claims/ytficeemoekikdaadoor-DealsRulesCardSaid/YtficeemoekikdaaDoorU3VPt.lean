/- PLAIN LAWS OF WHAT IS COMPUTED, for the statement 'DealsRules'. Nothing is asked of the input. -/
import Derived.Test.YtficeemoekikdaaDoorU3VDl
import Derived.Test.YtficeemoekikdaaDoorLB
set_option linter.unusedVariables false
set_option linter.unusedSimpArgs false
namespace Go.Lt.P5
open Go Go.Lt Go.Proofs
def dom (o a : Pr) : Prop := a ≠ o ∧ o.1 ≤ a.1 ∧ o.2 ≤ a.2
def beat (o a b : Pr) : Prop := a.1 < o.1 ∧ o.1 < b.1 ∧ (o.2 - a.2) * (b.1 - a.1) < (b.2 - a.2) * (o.1 - a.1)
def lastP (l : List Pr) (o : Pr) : Prop := ∀ a ∈ l, ¬ dom o a ∧ ∀ b ∈ l, ¬ beat o a b
instance (o a : Pr) : Decidable (dom o a) := by unfold dom; infer_instance
instance (o a b : Pr) : Decidable (beat o a b) := by unfold beat; infer_instance
instance (l : List Pr) (o : Pr) : Decidable (lastP l o) := by unfold lastP; infer_instance
def col (a o b : Pr) : Prop := (b.1 - a.1) * (o.2 - a.2) = (b.2 - a.2) * (o.1 - a.1)
instance (a o b : Pr) : Decidable (col a o b) := by unfold col; infer_instance
def betw (E : List Pr) (o : Pr) : Prop := ∃ a ∈ E, ∃ b ∈ E, (a.1 < o.1 ∧ o.1 < b.1) ∧ col a o b
instance (E : List Pr) (o : Pr) : Decidable (betw E o) := by unfold betw; infer_instance
def incP (a b : Pr) : Prop := a.1 < b.1
theorem inc_take {E : List Pr} (hE : E.Pairwise incP) {i : Nat} (h : i < E.length) {a : Pr} : a ∈ E.take i ↔ a ∈ E ∧ a.1 < E[i].1 := by
  have hp := List.pairwise_iff_getElem.1 hE
  constructor
  · intro ha
    obtain ⟨j, hj, rfl⟩ := List.mem_iff_getElem.1 ha
    rw [List.length_take] at hj
    rw [List.getElem_take]
    exact ⟨List.getElem_mem _, hp j i (by omega) h (by omega)⟩
  · rintro ⟨ha, hlt⟩
    obtain ⟨j, hj, rfl⟩ := List.mem_iff_getElem.1 ha
    have : j < i := by
      rcases Nat.lt_trichotomy j i with c | c | c
      · exact c
      · subst c; omega
      · have := hp i j h hj c; unfold incP at this; omega
    exact List.mem_iff_getElem.2 ⟨j, by rw [List.length_take]; omega, by rw [List.getElem_take]⟩
theorem inc_drop {E : List Pr} (hE : E.Pairwise incP) {i : Nat} (h : i < E.length) {a : Pr} : a ∈ E.drop (i + 1) ↔ a ∈ E ∧ E[i].1 < a.1 := by
  have hp := List.pairwise_iff_getElem.1 hE
  constructor
  · intro ha
    obtain ⟨j, hj, rfl⟩ := List.mem_iff_getElem.1 ha
    rw [List.length_drop] at hj
    rw [List.getElem_drop]
    exact ⟨List.getElem_mem _, hp i (i + 1 + j) h (by omega) (by omega)⟩
  · rintro ⟨ha, hlt⟩
    obtain ⟨j, hj, rfl⟩ := List.mem_iff_getElem.1 ha
    have : i < j := by
      rcases Nat.lt_trichotomy j i with c | c | c
      · have := hp j i hj h c; unfold incP at this; omega
      · subst c; omega
      · exact c
    exact List.mem_iff_getElem.2 ⟨j - (i + 1), by rw [List.length_drop]; omega, by rw [List.getElem_drop]; congr 1; omega⟩
theorem betw_iff {E : List Pr} (hE : E.Pairwise incP) {i : Nat} (h : i < E.length) : betw E E[i] ↔ ∃ a ∈ E.take i, ∃ b ∈ E.drop (i + 1), col a E[i] b := by
  unfold betw
  constructor
  · rintro ⟨a, ha, b, hb, ⟨h1, h2⟩, hc⟩
    exact ⟨a, (inc_take hE h).2 ⟨ha, h1⟩, b, (inc_drop hE h).2 ⟨hb, h2⟩, hc⟩
  · rintro ⟨a, ha, b, hb, hc⟩
    have h1 := (inc_take hE h).1 ha
    have h2 := (inc_drop hE h).1 hb
    exact ⟨a, h1.1, b, h2.1, ⟨h1.2, h2.2⟩, hc⟩
end Go.Lt.P5

namespace Go.Lt.P5
open Go.Lt
theorem inc_eq : ∀ (a b : List Pr), a.Pairwise incP → b.Pairwise incP → (∀ x, x ∈ a ↔ x ∈ b) → a = b := by
  intro a
  induction a with
  | nil =>
    intro b _ _ h
    cases b with
    | nil => rfl
    | cons y b => exact absurd ((h y).2 (by simp)) (by simp)
  | cons x a ih =>
    intro b ha hb h
    cases b with
    | nil => exact absurd ((h x).1 (by simp)) (by simp)
    | cons y b =>
      rw [List.pairwise_cons] at ha hb
      have hxy : x = y := by
        rcases List.mem_cons.1 ((h x).1 (by simp)) with e | e
        · exact e
        · rcases List.mem_cons.1 ((h y).2 (by simp)) with e2 | e2
          · exact e2.symm
          · have h1 := hb.1 x e
            have h2 := ha.1 y e2
            unfold incP at h1 h2
            omega
      subst hxy
      have := ih b ha.2 hb.2 fun z => by
        constructor
        · intro hz
          rcases List.mem_cons.1 ((h z).1 (List.mem_cons_of_mem _ hz)) with e | e
          · subst e; have := ha.1 z hz; unfold incP at this; omega
          · exact e
        · intro hz
          rcases List.mem_cons.1 ((h z).2 (List.mem_cons_of_mem _ hz)) with e | e
          · subst e; have := hb.1 z hz; unfold incP at this; omega
          · exact e
      rw [this]
theorem conv_pw : ∀ (s : List Pr), conv s → s.Pairwise fun a b => b.1 < a.1 := by
  intro s
  induction s with
  | nil => intro _; simp
  | cons t s ih =>
    intro hc
    cases s with
    | nil => simp
    | cons u r =>
      obtain ⟨c1, c2, c3, c4⟩ := hc
      have hp := ih c4
      refine List.pairwise_cons.2 ⟨fun x hx => ?_, hp⟩
      rcases List.mem_cons.1 hx with rfl | hx
      · exact c1
      · have := (List.pairwise_cons.1 hp).1 x hx
        omega
theorem conv_turn : ∀ (s : List Pr), conv s → ∀ j, j + 2 < s.length → turn (at' s (j + 2)) (at' s (j + 1)) (at' s j) < 0 := by
  intro s
  induction s with
  | nil => intro _ j h; simp at h
  | cons t s ih =>
    intro hc j h
    cases s with
    | nil => simp at h
    | cons u r =>
      obtain ⟨c1, c2, c3, c4⟩ := hc
      cases j with
      | zero =>
        cases r with
        | nil => simp at h
        | cons w r => exact c3 w r rfl
      | succ j => exact ih c4 j (by simp only [List.length_cons] at h ⊢; omega)
theorem seg {x : Int} : ∀ (s : List Pr), s ≠ [] → x ≤ (at' s 0).1 → (at' s (s.length - 1)).1 ≤ x → x = (at' s 0).1 ∨ ∃ j, j + 1 < s.length ∧ (at' s (j + 1)).1 ≤ x ∧ x < (at' s j).1 := by
  intro s
  induction s with
  | nil => intro h; exact absurd rfl h
  | cons t s ih =>
    intro _ h1 h2
    cases s with
    | nil => exact .inl (Int.le_antisymm h1 h2)
    | cons u r =>
      by_cases e : x = t.1
      · exact .inl e
      · have h1 : x ≤ t.1 := h1
        by_cases c : u.1 ≤ x
        · exact .inr ⟨0, by simp, c, by show x < t.1; omega⟩
        · rcases ih (by simp) (by show x ≤ u.1; omega) h2 with e2 | ⟨j, hj, a, b⟩
          · have e2 : x = u.1 := e2
            omega
          · exact .inr ⟨j + 1, by simpa using hj, a, b⟩
theorem on_line {T S A B p r : Int} (hp : 0 < p) (hr : 0 < r) (h0 : B * p + r * A = 0) (u1 : T * A ≤ -(S * p)) : S * r ≤ T * B := by
  refine cancel (k := p) hp ?_
  have m1 := Int.mul_le_mul_of_nonneg_left u1 (show 0 ≤ r by omega)
  have e : B * p = -(r * A) := by omega
  have e2 : p * (T * B) = T * (B * p) := by grind
  rw [e2, e]
  grind
theorem under_shift {w c a : Pr} (h : (c.1 - w.1) * (a.2 - w.2) ≤ (c.2 - w.2) * (a.1 - w.1)) : (c.1 - w.1) * (a.2 - c.2) ≤ (c.2 - w.2) * (a.1 - c.1) := by
  grind
theorem turn_zero {w c t b : Pr} (e2 : (t.1 - c.1) * (b.2 - c.2) = (t.2 - c.2) * (b.1 - c.1)) (e4 : (c.1 - w.1) * (b.2 - c.2) = (c.2 - w.2) * (b.1 - c.1)) : (b.1 - c.1) * ((c.1 - w.1) * (t.2 - c.2) - (c.2 - w.2) * (t.1 - c.1)) = 0 := by
  have a1 : (b.1 - c.1) * ((c.1 - w.1) * (t.2 - c.2)) = (c.1 - w.1) * ((t.2 - c.2) * (b.1 - c.1)) := by grind
  have a2 : (b.1 - c.1) * ((c.2 - w.2) * (t.1 - c.1)) = (t.1 - c.1) * ((c.2 - w.2) * (b.1 - c.1)) := by grind
  rw [Int.mul_sub, a1, a2, ← e2, ← e4]
  grind
theorem col_zero {a b c : Pr} (h : col a c b) : (b.2 - c.2) * (c.1 - a.1) + (b.1 - c.1) * (a.2 - c.2) = 0 := by
  unfold col at h
  grind
section
variable {q l s : List Pr}
theorem corner_last (hp : q.Perm l) (hc : CI s q) {j : Nat} (hj : j < s.length) : lastP l (at' s j) := by
  intro a ha
  have haq := hp.mem_iff.2 ha
  cases j with
  | zero =>
    match s, hj, hc with
    | t :: r, _, hc =>
      have e : at' (t :: r) 0 = t := rfl
      rw [e]
      have hta := hc.top t r rfl a haq
      refine ⟨fun d => ?_, fun b hb hbe => ?_⟩
      · obtain ⟨d1, d2, d3⟩ := d
        have e1 : a.1 = t.1 := by omega
        have := hta.2 e1
        exact d1 (Prod.ext e1 (by omega))
      · have htb := hc.top t r rfl b (hp.mem_iff.2 hb)
        have := hbe.2.1
        omega
  | succ j =>
    have hcv := conv_at s hc.cv j hj
    have hua := und_at s (hc.ud a haq) j hj
    have hub := fun b hb => und_at s (hc.ud b (hp.mem_iff.2 hb)) j hj
    generalize at' s (j + 1) = c at *
    generalize at' s j = t at *
    unfold under at hua
    refine ⟨fun d => ?_, fun b hb hbe => ?_⟩
    · obtain ⟨d1, d2, d3⟩ := d
      have m1 : 0 ≤ (t.1 - c.1) * (a.2 - c.2) := Int.mul_nonneg (by omega) (by omega)
      have m2 : 0 ≤ (c.2 - t.2) * (a.1 - c.1) := Int.mul_nonneg (by omega) (by omega)
      have m5 : (t.2 - c.2) * (a.1 - c.1) = -((c.2 - t.2) * (a.1 - c.1)) := by rw [← Int.neg_mul]; congr 1; omega
      have m3 : (t.1 - c.1) * (a.2 - c.2) = 0 := by omega
      have m4 : (c.2 - t.2) * (a.1 - c.1) = 0 := by omega
      have z1 : a.2 - c.2 = 0 := (Int.mul_eq_zero.1 m3).resolve_left (by omega)
      have z2 : a.1 - c.1 = 0 := (Int.mul_eq_zero.1 m4).resolve_left (by omega)
      exact d1 (Prod.ext (by omega) (by omega))
    · have hub := hub b hb
      unfold under at hub
      obtain ⟨b1, b2, b3⟩ := hbe
      have m1 := Int.mul_le_mul_of_nonneg_left hua (show 0 ≤ b.1 - c.1 by omega)
      have m2 := Int.mul_le_mul_of_nonneg_left hub (show 0 ≤ c.1 - a.1 by omega)
      have m3 : 0 < (t.1 - c.1) * ((b.2 - a.2) * (c.1 - a.1) - (c.2 - a.2) * (b.1 - a.1)) := Int.mul_pos (by omega) (by omega)
      grind
theorem corner_not_betw (hp : q.Perm l) (hc : CI s q) {E : List Pr} (hE : ∀ o, o ∈ E ↔ o ∈ l ∧ lastP l o) {j : Nat} (hj : j < s.length) : ¬ betw E (at' s j) := by
  rintro ⟨a, ha, b, hb, ⟨h1, h2⟩, hcol⟩
  have ha' := (hE a).1 ha
  have hb' := (hE b).1 hb
  have haq := hp.mem_iff.2 ha'.1
  have hbq := hp.mem_iff.2 hb'.1
  cases j with
  | zero =>
    match s, hj, hc with
    | t :: r, _, hc =>
      have := hc.top t r rfl b hbq
      have e : at' (t :: r) 0 = t := rfl
      rw [e] at h2
      omega
  | succ j =>
    by_cases hlast : j + 2 < s.length
    · have hcv := conv_at s hc.cv j hj
      have hcw := conv_at s hc.cv (j + 1) hlast
      have ht := conv_turn s hc.cv j hlast
      have u1 := und_at s (hc.ud a haq) j hj
      have u2 := und_at s (hc.ud b hbq) j hj
      have u3 := und_at s (hc.ud a haq) (j + 1) hlast
      have u4 := und_at s (hc.ud b hbq) (j + 1) hlast
      generalize at' s (j + 1) = c at *
      generalize at' s j = t at *
      rw [show j + 1 + 1 = j + 2 from rfl] at *
      generalize at' s (j + 2) = w at *
      unfold under at u1 u2 u3 u4
      unfold turn at ht
      -- b lies on both lines
      have h0 := col_zero hcol
      have n1 : ∀ x : Int, x * (a.1 - c.1) = -(x * (c.1 - a.1)) := fun x => by rw [← Int.mul_neg]; congr 1; omega
      have e2 : (t.1 - c.1) * (b.2 - c.2) = (t.2 - c.2) * (b.1 - c.1) := Int.le_antisymm u2 (on_line (by omega) (by omega) h0 (by rw [← n1]; exact u1))
      have e4 : (c.1 - w.1) * (b.2 - c.2) = (c.2 - w.2) * (b.1 - c.1) := by
        have u3' : (c.1 - w.1) * (a.2 - c.2) ≤ (c.2 - w.2) * (a.1 - c.1) := under_shift u3
        exact Int.le_antisymm (under_shift u4) (on_line (by omega) (by omega) h0 (by rw [← n1]; exact u3'))
      have z : (b.1 - c.1) * ((c.1 - w.1) * (t.2 - c.2) - (c.2 - w.2) * (t.1 - c.1)) = 0 := turn_zero e2 e4
      have := (Int.mul_eq_zero.1 z).resolve_left (by omega)
      omega
    · have hne : s ≠ [] := by intro e; rw [e] at hj; simp at hj
      have hl := und_last s (hc.ud a haq) hne
      rw [show s.length - 1 = j + 1 by omega] at hl
      have hcl : at' s (j + 1) ∈ l := hp.mem_iff.1 (hc.sub _ (at_mem hj))
      refine (ha'.2 _ hcl).1 ⟨fun e => ?_, by omega, hl⟩
      rw [e] at h1
      omega
theorem edge_eq (hp : q.Perm l) (hc : CI s q) (hne : s ≠ []) {E : List Pr} (hi : E.Pairwise incP) (hE : ∀ o, o ∈ E ↔ o ∈ l ∧ lastP l o) : s.reverse = E.filter fun o => !decide (betw E o) := by
  have hsl : ∀ j, j < s.length → at' s j ∈ l := fun j hj => hp.mem_iff.1 (hc.sub _ (at_mem hj))
  have hpos := List.length_pos_iff.2 hne
  refine inc_eq _ _ (List.pairwise_reverse.2 (conv_pw s hc.cv)) (hi.filter _) fun o => ?_
  rw [List.mem_reverse, List.mem_filter]
  constructor
  · intro ho
    obtain ⟨j, hj, rfl⟩ := List.mem_iff_getElem.1 ho
    rw [at_eq hj]
    refine ⟨(hE _).2 ⟨hsl j hj, corner_last hp hc hj⟩, ?_⟩
    rw [decide_eq_false (corner_not_betw hp hc hE hj)]
    rfl
  · rintro ⟨hoE, hnb⟩
    have hnb : ¬ betw E o := by simpa using hnb
    by_cases hos : o ∈ s
    · exact hos
    · exfalso
      obtain ⟨hol, hlast⟩ := (hE o).1 hoE
      have hoq := hp.mem_iff.2 hol
      have nod : ∀ j, j < s.length → ¬ (o.1 ≤ (at' s j).1 ∧ o.2 ≤ (at' s j).2) := fun j hj c => (hlast _ (hsl j hj)).1 ⟨fun e => hos (by rw [← e]; exact at_mem hj), c.1, c.2⟩
      have htop : o.1 ≤ (at' s 0).1 ∧ (o.1 = (at' s 0).1 → o.2 ≤ (at' s 0).2) := by
        match s, hne, hc with
        | t :: r, _, hc => exact hc.top t r rfl o hoq
      have hle : (at' s (s.length - 1)).1 ≤ o.1 := by
        by_cases c : o.1 < (at' s (s.length - 1)).1
        · exact absurd ⟨by omega, und_last s (hc.ud o hoq) hne⟩ (nod (s.length - 1) (by omega))
        · omega
      rcases seg s hne htop.1 hle with e | ⟨j, hj, h1, h2⟩
      · exact nod 0 hpos ⟨by omega, htop.2 e⟩
      · have hu := und_at s (hc.ud o hoq) j hj
        have hcv := conv_at s hc.cv j hj
        unfold under at hu
        by_cases e : (at' s (j + 1)).1 = o.1
        · refine nod (j + 1) hj ⟨by omega, ?_⟩
          have : (at' s j).1 - (at' s (j + 1)).1 > 0 := by omega
          have hz : (o.1 - (at' s (j + 1)).1) = 0 := by omega
          rw [hz, Int.mul_zero] at hu
          have := cancel (x := o.2 - (at' s (j + 1)).2) (y := 0) this (by rw [Int.mul_zero]; exact hu)
          omega
        · have hnbt := (hlast _ (hsl (j + 1) hj)).2 _ (hsl j (by omega))
          refine hnb ⟨at' s (j + 1), (hE _).2 ⟨hsl _ hj, corner_last hp hc hj⟩, at' s j, (hE _).2 ⟨hsl _ (by omega), corner_last hp hc (by omega)⟩, ⟨by omega, h2⟩, ?_⟩
          unfold col
          refine Int.le_antisymm hu ?_
          by_cases c : (o.2 - (at' s (j + 1)).2) * ((at' s j).1 - (at' s (j + 1)).1) < ((at' s j).2 - (at' s (j + 1)).2) * (o.1 - (at' s (j + 1)).1)
          · exact absurd ⟨by omega, h2, c⟩ hnbt
          · rw [Int.mul_comm ((at' s j).1 - (at' s (j + 1)).1)]; omega
end
end Go.Lt.P5

namespace Go.Lt.P5
open Go Go.Lt Go.Proofs
structure EdgeP (l e : List Pr) : Prop where
  pos : 0 < e.length
  le : e.length ≤ 8
  mem : ∀ i, i < e.length → at' e i ∈ l
  step : ∀ i, i + 1 < e.length → (at' e i).1 < (at' e (i + 1)).1 ∧ (at' e (i + 1)).2 < (at' e i).2
  turn : ∀ i, i + 2 < e.length → turn (at' e i) (at' e (i + 1)) (at' e (i + 2)) < 0
  last : ∀ i, i < e.length → ∀ y ∈ l, ¬ dom (at' e i) y
  out : ∀ y ∈ l, y.2 ≤ (at' e 0).2 ∧ y.1 ≤ (at' e (e.length - 1)).1
theorem edgeP {q l : List Pr} (ho : offP l) (hp : q.Perm l) (hs : q.Pairwise lexP) : EdgeP l (chainF q).reverse := by
  have hpl := hp.length_eq
  have h1 := ho.1
  have h8 := ho.2.1
  have hne : q ≠ [] := by intro e; rw [e] at hpl; simp at hpl; omega
  have hcl := chainF_len q
  have hc := chain_ok hs
  have hn := hc.ne hne
  generalize chainF q = s at *
  have hpos := List.length_pos_iff.2 hn
  have hl : s.reverse.length = s.length := by simp
  have hin : ∀ j, j < s.length → at' s j ∈ l := fun j hj => hp.mem_iff.1 (hc.sub _ (at_mem hj))
  refine ⟨by omega, by omega, fun i hi => ?_, fun i hi => ?_, fun i hi => ?_, fun i hi y hy => ?_, fun y hy => ?_⟩
  · rw [at_rev (by omega)]; exact hin _ (by omega)
  · rw [at_rev (by omega), at_rev (by omega)]
    have := conv_at s hc.cv (s.length - 1 - (i + 1)) (by omega)
    rw [show s.length - 1 - (i + 1) + 1 = s.length - 1 - i by omega] at this
    exact this
  · rw [at_rev (by omega), at_rev (by omega), at_rev (by omega)]
    have := conv_turn s hc.cv (s.length - 1 - (i + 2)) (by omega)
    rw [show s.length - 1 - (i + 2) + 2 = s.length - 1 - i by omega, show s.length - 1 - (i + 2) + 1 = s.length - 1 - (i + 1) by omega] at this
    exact this
  · rw [at_rev (by omega)]
    exact (corner_last hp hc (show s.length - 1 - i < s.length by omega) y hy).1
  · rw [hl, at_rev (by omega), at_rev (by omega), Nat.sub_zero, Nat.sub_self]
    refine ⟨und_last s (hc.ud y (hp.mem_iff.2 hy)) hn, ?_⟩
    match s, hn, hc with
    | t :: r, _, hc => exact (hc.top t r rfl y (hp.mem_iff.2 hy)).1
theorem lex_uniq {q q' l : List Pr} (h : q.Perm l) (h' : q'.Perm l) (hs : q.Pairwise lexP) (hs' : q'.Pairwise lexP) : q = q' :=
  List.Perm.eq_of_pairwise (le := lexP) (fun a b _ _ h1 h2 => by unfold lexP at h1 h2; omega) hs hs' (h.trans h'.symm)
def lb (t : Tr) : Prop := (0 ≤ t.1 ∧ t.1 ≤ 30) ∧ (0 ≤ t.2.1 ∧ t.2.1 ≤ 30) ∧ (0 ≤ t.2.2 ∧ t.2.2 ≤ 1800) ∧ (0 < t.1 ∨ 0 < t.2.1)
theorem lineB_lb {u t : Pr} (hu : num u) (ht : num t) (h1 : u.1 < t.1) (h2 : t.2 < u.2) : lb (lineB u t) ∧ 0 < (lineB u t).1 ∧ 0 < (lineB u t).2.1 := by
  unfold num at hu ht
  have b1 := pr_bd (x := u.2 - t.2) (y := t.1) (by omega) (by omega) (by omega) (by omega)
  have b2 := pr_bd (x := t.1 - u.1) (y := t.2) (by omega) (by omega) (by omega) (by omega)
  have b3 : 0 ≤ (u.2 - t.2) * t.1 := Int.mul_nonneg (by omega) (by omega)
  have b4 : 0 ≤ (t.1 - u.1) * t.2 := Int.mul_nonneg (by omega) (by omega)
  unfold lb lineB
  dsimp only
  omega
theorem EdgeP.lines {l e : List Pr} (ho : offP l) (h : EdgeP l e) : (linesF e).length = e.length + 1 ∧ ∀ t ∈ linesF e, lb t := by
  have hn := fun i hi => ho.2.2.1 _ (h.mem i hi)
  have hp := h.pos
  refine ⟨by unfold linesF; simp; omega, fun t ht => ?_⟩
  unfold linesF at ht
  rcases List.mem_cons.1 ht with rfl | ht
  · have := hn 0 hp; unfold num at this; unfold lb; dsimp only; omega
  · rcases List.mem_cons.1 ht with rfl | ht
    · have := hn (e.length - 1) (by omega); unfold num at this; unfold lb; dsimp only; omega
    · obtain ⟨i, hi, rfl⟩ := List.mem_map.1 ht
      rw [List.mem_range] at hi
      have := h.step i (by omega)
      exact (lineB_lb (hn i (by omega)) (hn (i + 1) (by omega)) this.1 this.2).1
theorem EdgeP.top {l e : List Pr} (h : EdgeP l e) : (0, 1, (at' e 0).2) ∈ linesF e ∧ (1, 0, (at' e (e.length - 1)).1) ∈ linesF e := by
  unfold linesF; simp
end Go.Lt.P5

namespace Go.Lt.P5
open Go.Lt
/-! ### the last deal on a way, by lines -/
def restF (t : Tr) (d : Pr) : Int := t.2.2 - t.1 * d.1 - t.2.1 * d.2
def perq (t : Tr) (u v : Rat) : Rat := (t.1 : Rat) * u + (t.2.1 : Rat) * v
theorem lq_step {t : Tr} {d : Pr} {u v s : Rat} : lq t ((d.1 : Rat) + s * u) ((d.2 : Rat) + s * v) ↔ s * perq t u v ≤ (restF t d : Rat) := by
  unfold lq perq restF
  rw [Rat.intCast_sub, Rat.intCast_sub, Rat.intCast_mul, Rat.intCast_mul]
  generalize (t.1 : Rat) = a at *
  generalize (t.2.1 : Rat) = b at *
  generalize (t.2.2 : Rat) = c at *
  constructor <;> intro h <;> grind
theorem perq_nn {t : Tr} {u v : Rat} (h : lb t) (hu : 0 ≤ u) (hv : 0 ≤ v) : 0 ≤ perq t u v := by
  unfold lb at h
  have h1 : (0 : Rat) ≤ t.1 := by exact_mod_cast h.1.1
  have h2 : (0 : Rat) ≤ t.2.1 := by exact_mod_cast h.2.1.1
  have m1 := Rat.mul_nonneg h1 hu
  have m2 := Rat.mul_nonneg h2 hv
  unfold perq
  grind
def MinSt (L : List Tr) (d : Pr) (u v : Rat) : Option Rat → Prop
  | none => ∀ t ∈ L, perq t u v = 0
  | some m => (∀ t ∈ L, perq t u v ≠ 0 → m * perq t u v ≤ (restF t d : Rat)) ∧ ∃ t ∈ L, perq t u v ≠ 0 ∧ m * perq t u v = (restF t d : Rat)
theorem MinSt.nil {d : Pr} {u v : Rat} : MinSt [] d u v none := fun _ h => by cases h
section
variable {L : List Tr} {d : Pr} {u v : Rat} {t : Tr}
theorem MinSt.skip {o : Option Rat} (h : MinSt L d u v o) (hp : perq t u v = 0) : MinSt (L ++ [t]) d u v o := by
  cases o with
  | none =>
    intro x hx
    rcases List.mem_append.1 hx with hx | hx
    · exact h x hx
    · rw [List.mem_singleton] at hx; subst hx; exact hp
  | some m =>
    refine ⟨fun x hx hne => ?_, ?_⟩
    · rcases List.mem_append.1 hx with hx | hx
      · exact h.1 x hx hne
      · rw [List.mem_singleton] at hx; subst hx; exact absurd hp hne
    · obtain ⟨x, hx, e⟩ := h.2
      exact ⟨x, List.mem_append_left _ hx, e⟩
theorem MinSt.take {n : Rat} {o : Option Rat} (h : MinSt L d u v o) (hL : ∀ t ∈ L, 0 ≤ perq t u v) (hp : 0 < perq t u v) (hn : n * perq t u v = (restF t d : Rat)) (ho : ∀ m, o = some m → n ≤ m) : MinSt (L ++ [t]) d u v (some n) := by
  refine ⟨fun x hx hne => ?_, t, by simp, by grind, hn⟩
  rcases List.mem_append.1 hx with hx | hx
  · cases o with
    | none => exact absurd (h x hx) hne
    | some m =>
      have h1 := h.1 x hx hne
      have h2 := Rat.mul_le_mul_of_nonneg_right (ho m rfl) (hL x hx)
      exact Rat.le_trans h2 h1
  · rw [List.mem_singleton] at hx; subst hx; rw [hn]; exact Rat.le_refl
theorem MinSt.keep {n m : Rat} (h : MinSt L d u v (some m)) (hp : 0 < perq t u v) (hn : n * perq t u v = (restF t d : Rat)) (ho : ¬ n < m) : MinSt (L ++ [t]) d u v (some m) := by
  refine ⟨fun x hx hne => ?_, ?_⟩
  · rcases List.mem_append.1 hx with hx | hx
    · exact h.1 x hx hne
    · rw [List.mem_singleton] at hx; subst hx
      rw [← hn]
      exact Rat.mul_le_mul_of_nonneg_right (by grind) (by grind)
  · obtain ⟨x, hx, e⟩ := h.2
    exact ⟨x, List.mem_append_left _ hx, e⟩
end
theorem MinSt.top {l : List Pr} {L : List Tr} {d : Pr} {u v m : Rat} (h : MinSt L d u v (some m)) (hL : ∀ x y, (∀ t ∈ L, lq t x y) ↔ reg l x y) (hn : ∀ t ∈ L, 0 ≤ perq t u v) (hr : ∀ t ∈ L, 0 ≤ restF t d) : IsTop l d u v m := by
  intro s
  rw [← hL]
  constructor
  · intro hs
    obtain ⟨t, ht, hne, he⟩ := h.2
    have h1 := lq_step.1 (hs t ht)
    rw [← he] at h1
    exact Rat.le_of_mul_le_mul_right h1 (by have := hn t ht; grind)
  · intro hs t ht
    rw [lq_step]
    by_cases c : perq t u v = 0
    · rw [c, Rat.mul_zero]
      exact_mod_cast hr t ht
    · exact Rat.le_trans (Rat.mul_le_mul_of_nonneg_right hs (hn t ht)) (h.1 t ht c)
theorem room_iff {l : List Pr} {L : List Tr} {d : Pr} (hL : ∀ x y, (∀ t ∈ L, lq t x y) ↔ reg l x y) (hb : ∀ t ∈ L, lb t) : (∀ t ∈ L, 0 < restF t d) ↔ roomP l d := by
  constructor
  · intro h
    refine ⟨(d.1 : Rat) + 1 / 60 * 1, (d.2 : Rat) + 1 / 60 * 1, ?_, by grind, by grind⟩
    rw [← hL]
    intro t ht
    rw [lq_step]
    have h1 : (1 : Rat) ≤ (restF t d : Rat) := by exact_mod_cast h t ht
    obtain ⟨⟨_, a2⟩, ⟨_, b2⟩, _⟩ := hb t ht
    have a3 : (t.1 : Rat) ≤ 30 := by exact_mod_cast a2
    have b3 : (t.2.1 : Rat) ≤ 30 := by exact_mod_cast b2
    unfold perq
    grind
  · rintro ⟨x, y, hxy, hx, hy⟩ t ht
    have h1 := (hL x y).2 hxy t ht
    obtain ⟨⟨a1, _⟩, ⟨b1, _⟩, _, hne⟩ := hb t ht
    have : (0 : Rat) < (restF t d : Rat) := by
      unfold lq at h1
      unfold restF
      rw [Rat.intCast_sub, Rat.intCast_sub, Rat.intCast_mul, Rat.intCast_mul]
      have a3 : (0 : Rat) ≤ t.1 := by exact_mod_cast a1
      have b3 : (0 : Rat) ≤ t.2.1 := by exact_mod_cast b1
      have m1 := Rat.mul_nonneg a3 (show 0 ≤ x - d.1 by grind)
      have m2 := Rat.mul_nonneg b3 (show 0 ≤ y - d.2 by grind)
      rcases hne with c | c
      · have c' : (0 : Rat) < t.1 := by exact_mod_cast c
        have := Rat.mul_pos c' (show 0 < x - d.1 by grind)
        grind
      · have c' : (0 : Rat) < t.2.1 := by exact_mod_cast c
        have := Rat.mul_pos c' (show 0 < y - d.2 by grind)
        grind
    exact_mod_cast this
end Go.Lt.P5

namespace Go.Lt.P5
open Go Go.Lt Go.Proofs
/-! ### quotients of the program and of the reference -/
theorem gcd_stepQ (a b : Nat) : Nat.gcd b (a % b) = Nat.gcd a b := by
  rw [Nat.gcd_comm a b, Nat.gcd_rec b a, Nat.gcd_comm]
theorem w64_absI {a : Int} (ha : a.natAbs < 9223372036854775808) : (if a < w64 (0 - a) then w64 (0 - a) else a) = (a.natAbs : Int) := by
  rw [w64_id (by omega) (by omega)]
  split <;> omega
theorem gcdI {H : Hp} : ∀ (K : Nat) (a b : Int), b.natAbs < K → a.natAbs < 9223372036854775808 → b.natAbs < 9223372036854775808 → r45_l0 K a b H = some ((Nat.gcd a.natAbs b.natAbs : Int), H) := by
  intro K
  induction K with
  | zero => intro a b h; omega
  | succ K ih =>
    intro a b h ha hb
    rw [r45_l0]
    by_cases h0 : b = 0
    · subst h0
      rw [if_neg (by simp), w64_absI ha]
      simp
    · have hm := Nat.mod_lt a.natAbs (show 0 < b.natAbs by omega)
      have e := Int.natAbs_tmod a b
      rw [if_pos h0, ck, if_pos h0, ih b (Int.tmod a b) (by omega) hb (by omega), e, gcd_stepQ]
theorem fq_gcdv {a b : Int} (hb : 0 < b) : fq (dv a b) = (Int.tdiv a (Nat.gcd a.natAbs b.natAbs), Int.tdiv b (Nat.gcd a.natAbs b.natAbs)) := by
  have hg : 0 < Nat.gcd a.natAbs b.natAbs := Nat.gcd_pos_of_pos_right _ (by omega)
  obtain ⟨x, hx⟩ : ((Nat.gcd a.natAbs b.natAbs : Nat) : Int) ∣ a := Int.ofNat_dvd_left.2 (Nat.gcd_dvd_left _ _)
  obtain ⟨y, hy⟩ : ((Nat.gcd a.natAbs b.natAbs : Nat) : Int) ∣ b := Int.ofNat_dvd_left.2 (Nat.gcd_dvd_right _ _)
  have hgg : Nat.gcd a.natAbs b.natAbs * Nat.gcd x.natAbs y.natAbs = Nat.gcd a.natAbs b.natAbs := by
    rw [← Nat.gcd_mul_left]
    have e1 := congrArg Int.natAbs hx
    have e2 := congrArg Int.natAbs hy
    rw [Int.natAbs_mul, Int.natAbs_natCast] at e1 e2
    rw [← e1, ← e2]
  generalize Nat.gcd a.natAbs b.natAbs = g at *
  have hg' : (g : Int) ≠ 0 := by omega
  have q1 : Int.tdiv a g = x := by rw [hx, Int.mul_tdiv_cancel_left _ hg']
  have q2 : Int.tdiv b g = y := by rw [hy, Int.mul_tdiv_cancel_left _ hg']
  rw [q1, q2]
  have hy0 : 0 < y := by
    rw [hy] at hb
    exact Int.pos_of_mul_pos_right hb (by omega)
  have hc : Nat.gcd x.natAbs y.natAbs = 1 := by
    have : g * Nat.gcd x.natAbs y.natAbs = g * 1 := by omega
    exact Nat.eq_of_mul_eq_mul_left hg this
  rw [← fq_dv hy0 hc]
  congr 1
  rw [dv_eq_iff hb hy0, hx, hy]
  grind
theorem tdiv_small {a : Int} {g : Nat} (ha : a.natAbs < 9223372036854775808) : w64 (Int.tdiv a g) = Int.tdiv a g := by
  have : (Int.tdiv a g).natAbs ≤ a.natAbs := by rw [Int.natAbs_tdiv]; exact Nat.div_le_self _ _
  exact w64_id (by omega) (by omega)
theorem r18_q {a b : Int} (ha : a.natAbs < 9223372036854775808) (hb : 0 < b) (hb2 : b < 9223372036854775808) (H : Hp) : Ok (r18 a b H) fun r _ => r = fq (dv a b) := by
  have hg : 0 < Nat.gcd a.natAbs b.natAbs := Nat.gcd_pos_of_pos_right _ (by omega)
  unfold r18
  refine Ok.box (.nil H) fun A _ c => Ok.neg (by omega) ?_
  unfold r18_j0
  refine Ok.own (b := (Nat.gcd a.natAbs b.natAbs : Int)) ⟨_, _, gcdI FUEL a b (by unfold FUEL; omega) ha (by omega), rfl⟩ fun X => ?_
  dsimp only
  rw [tdiv_small ha, tdiv_small (by omega)]
  refine Ok.ck (by omega) (Ok.ck (by omega) (Ok.cst c 0 rfl rfl fun D _ _ c => ?_))
  refine Ok.cld c (.head _) rfl (Ok.cld c (.head _) rfl (Ok.ret ?_))
  rw [fq_gcdv hb]
def qb (N D : Int) (q : Rat) : Prop := -N ≤ (fq q).1 ∧ (fq q).1 ≤ N ∧ (fq q).2 ≤ D
theorem qb_int {a N D : Int} (h : -N ≤ a) (h2 : a ≤ N) (hD : 1 ≤ D) : qb N D (a : Rat) := ⟨h, h2, hD⟩
theorem qb_dv {a b N D : Int} (hb : 0 < b) (h : -N ≤ a) (h2 : a ≤ N) (hD : b ≤ D) : qb N D (dv a b) := by
  have := fq_bd (a := a) hb
  exact ⟨by omega, by omega, by omega⟩
theorem qb.mono {N D N' D' : Int} {q : Rat} (h : qb N D q) (hN : N ≤ N') (hD : D ≤ D') : qb N' D' q := ⟨by have := h.1; omega, by have := h.2.1; omega, by have := h.2.2; omega⟩
theorem qb.mul {N D N' D' : Int} {p q : Rat} (h : qb N D p) (k : qb N' D' q) : qb (N * N') (D * D') (p * q) := by
  rw [← fq_mul]
  obtain ⟨h1, h2, h3⟩ := h
  obtain ⟨k1, k2, k3⟩ := k
  have hp := fq_pos p
  have kp := fq_pos q
  have b1 := mul_bd (A := N) (B := N') h1 h2 k1 k2
  have b2 := mul_bd (A := D) (B := D') (x := (fq p).2) (y := (fq q).2) (by omega) h3 (by omega) k3
  exact qb_dv (Int.mul_pos hp kp) b1.1 b1.2 b2.2
theorem qb.add {N D N' D' : Int} {p q : Rat} (h : qb N D p) (k : qb N' D' q) : qb (N * D' + N' * D) (D * D') (p + q) := by
  rw [← fq_add]
  obtain ⟨h1, h2, h3⟩ := h
  obtain ⟨k1, k2, k3⟩ := k
  have hp := fq_pos p
  have kp := fq_pos q
  have b1 := mul_bd (A := N) (B := D') (x := (fq p).1) (y := (fq q).2) h1 h2 (by omega) k3
  have b3 := mul_bd (A := N') (B := D) (x := (fq q).1) (y := (fq p).2) k1 k2 (by omega) h3
  have b2 := mul_bd (A := D) (B := D') (x := (fq p).2) (y := (fq q).2) (by omega) h3 (by omega) k3
  exact qb_dv (Int.mul_pos hp kp) (by omega) (by omega) b2.2
theorem qb.sub {N D N' D' : Int} {p q : Rat} (h : qb N D p) (k : qb N' D' q) : qb (N * D' + N' * D) (D * D') (p - q) := by
  rw [← fq_sub]
  obtain ⟨h1, h2, h3⟩ := h
  obtain ⟨k1, k2, k3⟩ := k
  have hp := fq_pos p
  have kp := fq_pos q
  have b1 := mul_bd (A := N) (B := D') (x := (fq p).1) (y := (fq q).2) h1 h2 (by omega) k3
  have b3 := mul_bd (A := N') (B := D) (x := (fq q).1) (y := (fq p).2) k1 k2 (by omega) h3
  have b2 := mul_bd (A := D) (B := D') (x := (fq p).2) (y := (fq q).2) (by omega) h3 (by omega) k3
  exact qb_dv (Int.mul_pos hp kp) (by omega) (by omega) b2.2
theorem r46_q (a b : Int) : Ok (r46 a b H0) fun r _ => r = if a < b then -1 else if b < a then 1 else 0 := by
  unfold r46 r54
  refine Ok.own (b := false) (Ok.ret (by simp)) fun X => Ok.own (b := false) (Ok.ret (by simp)) fun Y => Ok.neg (by simp) (Ok.neg (by simp) ?_)
  refine Ok.ite (fun c => Ok.ret (by rw [if_pos c])) fun c => Ok.ite (fun d => Ok.ret (by rw [if_neg c, if_pos d])) fun d => Ok.ret (by rw [if_neg c, if_neg d])
def cmpq (p q : Rat) : Int := if p < q then -1 else if q < p then 1 else 0
theorem r21_q {N D N' D' : Int} {p q : Rat} (hp : qb N D p) (hq : qb N' D' q) (h1 : N * D' < 9223372036854775808) (h2 : N' * D < 9223372036854775808) : Ok (r21 (fq p).1 (fq p).2 (fq q).1 (fq q).2 H0) fun r _ => r = cmpq p q := by
  obtain ⟨a1, a2, a3⟩ := hp
  obtain ⟨k1, k2, k3⟩ := hq
  have ap := fq_pos p
  have kp := fq_pos q
  have b1 := mul_bd (A := N) (B := D') (x := (fq p).1) (y := (fq q).2) a1 a2 (by omega) k3
  have b3 := mul_bd (A := N') (B := D) (x := (fq q).1) (y := (fq p).2) k1 k2 (by omega) a3
  unfold r21
  refine Ok.lt (Ok.ld rfl (Ok.ld rfl (Ok.ld rfl (Ok.ld rfl ?_))))
  rw [w64_id (by omega) (by omega), w64_id (by omega) (by omega)]
  refine Ok.own (r46_q _ _) fun X => Ok.ret ?_
  dsimp only
  unfold cmpq
  simp only [fq_lt]
theorem r39_q {t : Tr} {d : Pr} (h1 : 0 ≤ t.1 ∧ t.1 ≤ 30) (h2 : 0 ≤ t.2.1 ∧ t.2.1 ≤ 30) (h3 : 0 ≤ t.2.2 ∧ t.2.2 ≤ 1800) (hd : num d) : Ok (r39 t.1 t.2.1 t.2.2 d.1 d.2 H0) fun r _ => r = restF t d := by
  unfold num at hd
  have b1 := pr_bd (x := t.1) (y := d.1) (by omega) (by omega) (by omega) (by omega)
  have b2 := pr_bd (x := t.2.1) (y := d.2) (by omega) (by omega) (by omega) (by omega)
  unfold r39
  refine Ok.lt (Ok.ld rfl (Ok.ld rfl (Ok.ld rfl (Ok.ld rfl (Ok.ld rfl (Ok.ret ?_))))))
  rw [w64_id (n := t.1 * d.1) (by omega) (by omega), w64_id (n := t.2.1 * d.2) (by omega) (by omega), w64_id (n := t.2.2 - t.1 * d.1) (by omega) (by omega), w64_id (by omega) (by omega)]
  rfl
theorem r47_q {x : Int} {n s : Rat} {N D N' D' : Int} (hx : 0 ≤ x ∧ x ≤ 30) (hn : qb N D n) (hs : qb N' D' s) (h1 : N * N' < 100000000000000000) (h2 : D * D' < 100000000000000000) : Ok (r47 x (fq n).1 (fq n).2 (fq s).1 (fq s).2 H0) fun r _ => r = fq ((x : Rat) + n * s) := by
  have hb := hn.mul hs
  obtain ⟨a1, a2, a3⟩ := hn
  obtain ⟨k1, k2, k3⟩ := hs
  have ap := fq_pos n
  have kp := fq_pos s
  have b1 := mul_bd (A := N) (B := N') (x := (fq n).1) (y := (fq s).1) a1 a2 k1 k2
  have b3 := mul_bd (A := D) (B := D') (x := (fq n).2) (y := (fq s).2) (by omega) a3 (by omega) k3
  have b4 := Int.mul_pos ap kp
  have e := fq_mul n s
  unfold r47
  refine Ok.lt (Ok.ld rfl (Ok.ld rfl (Ok.ld rfl (Ok.ld rfl ?_))))
  rw [w64_id (by omega) (by omega), w64_id (by omega) (by omega)]
  refine Ok.own (r18_q (by omega) b4 (by omega) H0) fun X => ?_
  rw [e]
  obtain ⟨c1, c2, c3⟩ := hb
  have cp := fq_pos (n * s)
  refine Ok.ld rfl (Ok.ld rfl (Ok.ld rfl (Ok.ld rfl ?_)))
  dsimp only
  have d1 := mul_bd (A := 30) (B := D * D') (x := x) (y := (fq (n * s)).2) (by omega) (by omega) (by omega) c3
  rw [w64_id (n := x * _) (by omega) (by omega), w64_id (by omega) (by omega)]
  refine Ok.own (r18_q (by omega) cp (by omega) H0) fun Y => ?_
  refine Ok.ld rfl (Ok.ld rfl (Ok.ld rfl (Ok.ret ?_)))
  have := dv_add (a := x) (b := 1) (c := (fq (n * s)).1) (d := (fq (n * s)).2) (by omega) cp
  rw [dv_fq, dv_int, Int.mul_one, Int.one_mul] at this
  rw [this]
end Go.Lt.P5

namespace Go.Lt.P5
open Go Go.Lt Go.Proofs
def pt (p : Rat × Rat) : Int × Int × Int × Int := ((fq p.1).1, (fq p.1).2, (fq p.2).1, (fq p.2).2)
def bst : Option Rat → List AV
  | none => [.int .i64 0, .int .i64 0]
  | some m => [.int .i64 (fq m).1, .int .i64 (fq m).2]
def fc (q : Rat) : List AV := [.int .i64 (fq q).1, .int .i64 (fq q).2]
def pc (p : Pr) : List AV := [.int .i64 p.1, .int .i64 p.2]
def tc (t : Tr) : List AV := [.int .i64 t.1, .int .i64 t.2.1, .int .i64 t.2.2]
theorem rest_bd {t : Tr} {d : Pr} (h : lb t) (hd : num d) : restF t d ≤ 1800 := by
  unfold num at hd
  have m1 := Int.mul_nonneg h.1.1 hd.1
  have m2 := Int.mul_nonneg h.2.1.1 hd.2.2.1
  have := h.2.2.1
  unfold restF
  omega
def perZ (t : Tr) (u v : Rat) : Int := t.1 * (fq u).1 * (fq v).2 + t.2.1 * (fq v).1 * (fq u).2
theorem perZ_q {t : Tr} {u v : Rat} : (perZ t u v : Rat) = perq t u v * (((fq u).2 : Rat) * ((fq v).2 : Rat)) := by
  unfold perZ perq
  simp only [Rat.intCast_add, Rat.intCast_mul]
  rw [fq_num u, fq_num v]
  grind
theorem den_prod (u v : Rat) : (0 : Rat) < ((fq u).2 : Rat) * ((fq v).2 : Rat) := Rat.mul_pos (cast_pos (fq_pos u)) (cast_pos (fq_pos v))
theorem perZ_pos {t : Tr} {u v : Rat} (h : 0 < perZ t u v) : 0 < perq t u v := by
  have h1 : (0 : Rat) < (perZ t u v : Rat) := by exact_mod_cast h
  rw [perZ_q] at h1
  exact (Rat.mul_pos_iff_of_pos_right (den_prod u v)).1 h1
theorem step_q {t : Tr} {d : Pr} {u v : Rat} (h : 0 < perZ t u v) : dv (restF t d * (fq u).2 * (fq v).2) (perZ t u v) * perq t u v = (restF t d : Rat) := by
  unfold dv
  have hp : (0 : Rat) < (perZ t u v : Rat) := by exact_mod_cast h
  have e := @perZ_q t u v
  have hd := den_prod u v
  simp only [Rat.intCast_mul]
  generalize (perZ t u v : Rat) = z at *
  generalize ((fq u).2 : Rat) = p at *
  generalize ((fq v).2 : Rat) = q at *
  generalize (restF t d : Rat) = r at *
  generalize perq t u v = w at *
  have hz : z ≠ 0 := by grind
  have hpq : p * q ≠ 0 := by grind
  have e2 : r * p * q / z * z = r * p * q := Rat.div_mul_cancel hz
  rw [e] at e2
  have e3 : (r * p * q / (w * (p * q)) * w - r) * (p * q) = 0 := by grind
  rcases Rat.mul_eq_zero.1 e3 with c | c
  · rw [e]; grind
  · exact absurd c hpq
theorem step_bd {t : Tr} {d : Pr} {u v : Rat} (h : lb t) (hd : num d) (hr : 0 ≤ restF t d) (hu : qb 1800 30 u) (hv : qb 1800 30 v) (hu0 : 0 ≤ u) (hv0 : 0 ≤ v) :
    (0 ≤ t.1 * (fq u).1 ∧ t.1 * (fq u).1 ≤ 54000) ∧ (0 ≤ t.2.1 * (fq v).1 ∧ t.2.1 * (fq v).1 ≤ 54000) ∧ (0 ≤ t.1 * (fq u).1 * (fq v).2 ∧ t.1 * (fq u).1 * (fq v).2 ≤ 1620000) ∧ (0 ≤ t.2.1 * (fq v).1 * (fq u).2 ∧ t.2.1 * (fq v).1 * (fq u).2 ≤ 1620000) ∧
    (0 ≤ restF t d * (fq u).2 ∧ restF t d * (fq u).2 ≤ 54000) ∧ (0 ≤ restF t d * (fq u).2 * (fq v).2 ∧ restF t d * (fq u).2 * (fq v).2 ≤ 1620000) := by
  have hrb := rest_bd h hd
  obtain ⟨⟨a1, a2⟩, ⟨b1, b2⟩, _⟩ := h
  have u1 := fq_num_nonneg.2 hu0
  have v1 := fq_num_nonneg.2 hv0
  have pu := fq_pos u
  have pv := fq_pos v
  obtain ⟨_, u2, u3⟩ := hu
  obtain ⟨_, v2, v3⟩ := hv
  have m : ∀ {x y A B : Int}, 0 ≤ x → x ≤ A → 0 ≤ y → y ≤ B → 0 ≤ x * y ∧ x * y ≤ A * B := fun h1 h2 h3 h4 => ⟨Int.mul_nonneg h1 h3, Int.mul_le_mul h2 h4 h3 (by omega)⟩
  have c1 := m a1 a2 u1 u2
  have c2 := m b1 b2 v1 v2
  have c3 := m hr hrb (show 0 ≤ (fq u).2 by omega) u3
  exact ⟨c1, c2, m c1.1 c1.2 (by omega) v3, m c2.1 c2.2 (by omega) u3, c3, m c3.1 c3.2 (by omega) v3⟩
section
variable {a : App} {l : List Pr} {L : List Tr} {d : Pr} {u v : Rat}
theorem r25_l0_ok {HH H : Hp} {v1 v2 v3 v4 v5 : Nat} {w : Sl} (hL : ∀ x y, (∀ t ∈ L, lq t x y) ↔ reg l x y) (hb : ∀ t ∈ L, lb t) (hlen : L.length ≤ 100) (hd : num d) (hr : ∀ t ∈ L, 0 < restF t d) (hu : qb 1800 30 u) (hv : qb 1800 30 v) (hu0 : 0 < u) (hv0 : 0 < v) (hne : L ≠ [])
    (hw : SL H w L) (hwb : w.b ≠ v5) (c : Cx HH H [(v5, bst none), (v4, [.int .i64 0, .int .i64 0, .int .i64 0, .int .i64 0]), (v3, fc v), (v2, fc u), (v1, pc d)]) :
    Ok (r25_l0 a FUEL v1 v2 v3 v4 v5 w L.length 0 H) fun r H' => Gr HH H' ∧ ∃ m, IsTop l d u v m ∧ qb 1620000 3240000 m ∧ r = pt ((d.1 : Rat) + m * u, (d.2 : Rat) + m * v) := by
  have hwl := hw.len
  have hnn : ∀ t ∈ L, 0 ≤ perq t u v := fun t ht => perq_nn (hb t ht) (Rat.le_of_lt hu0) (Rat.le_of_lt hv0)
  have hpp : ∀ t ∈ L, 0 < perZ t u v := fun t ht => by
    obtain ⟨⟨a1, _⟩, ⟨b1, _⟩, _, hne⟩ := hb t ht
    have u1 := fq_num_pos.2 hu0
    have v1 := fq_num_pos.2 hv0
    have p1 := Int.mul_nonneg (Int.mul_nonneg a1 (show 0 ≤ (fq u).1 by omega)) (show 0 ≤ (fq v).2 by have := fq_pos v; omega)
    have p2 := Int.mul_nonneg (Int.mul_nonneg b1 (show 0 ≤ (fq v).1 by omega)) (show 0 ≤ (fq u).2 by have := fq_pos u; omega)
    unfold perZ
    rcases hne with k | k
    · have := Int.mul_pos (Int.mul_pos k u1) (fq_pos v)
      omega
    · have := Int.mul_pos (Int.mul_pos k v1) (fq_pos u)
      omega
  refine Ok.loop (L := fun K (s : Int) H2 => r25_l0 a K v1 v2 v3 v4 v5 w L.length s H2) (fun m s H' => ∃ (i : Nat) (o : Option Rat), s = i ∧ i + m = L.length ∧ Cx HH H' [(v5, bst o), (v4, [.int .i64 0, .int .i64 0, .int .i64 0, .int .i64 0]), (v3, fc v), (v2, fc u), (v1, pc d)] ∧ SL H' w L ∧ MinSt (L.take i) d u v o ∧ ∀ m, o = some m → qb 1620000 3240000 m) ?_ FUEL L.length 0 H (by unfold FUEL; omega) ⟨0, none, rfl, by omega, c, hw, by simpa using MinSt.nil, fun _ h => by cases h⟩
  rintro K m s H1 ⟨i, o, rfl, hm, c, hw, hms, hqb⟩ ih
  try dsimp only at *
  rw [r25_l0]
  by_cases h : i < L.length
  · have hmem : L[i] ∈ L := List.getElem_mem h
    have hpz := hpp _ hmem
    have hrm := hr _ hmem
    obtain ⟨s1, s2, s3, s4, s5, s6⟩ := step_bd (hb _ hmem) hd (Int.le_of_lt hrm) hu hv (Rat.le_of_lt hu0) (Rat.le_of_lt hv0)
    have hstep := step_q (d := d) hpz
    have hpq := perZ_pos hpz
    have hlb := hb _ hmem
    have hw0 := hw
    refine Ok.pos (by omega) (Ok.ck (by omega) (Ok.ld (hw.ldI (i := i) (j := 0) h rfl) (Ok.ld (hw.ldI (i := i) (j := 1) h rfl) (Ok.ld (hw.ldI (i := i) (j := 2) h rfl) (Ok.alo c fun A gA c => ?_)))))
    refine Ok.cld c (.head _) rfl (Ok.cld c (.tail _ (.tail _ (.tail _ (.tail _ (.head _))))) rfl (Ok.cld c (.tail _ (.tail _ (.tail _ (.head _)))) rfl (Ok.cld c (.head _) rfl (Ok.cld c (.tail _ (.tail _ (.tail _ (.head _)))) rfl (Ok.cld c (.tail _ (.tail _ (.tail _ (.tail _ (.head _))))) rfl ?_)))))
    rw [w64_id (n := L[i].1 * (fq u).1) (by omega) (by omega), w64_id (n := L[i].1 * (fq u).1 * (fq v).2) (by omega) (by omega), w64_id (n := L[i].2.1 * (fq v).1) (by omega) (by omega), w64_id (n := L[i].2.1 * (fq v).1 * (fq u).2) (by omega) (by omega), w64_id (by omega) (by omega)]
    have hpb : perZ L[i] u v ≤ 3240000 := by unfold perZ; omega
    refine Ok.neg (by unfold perZ at hpz; omega) ?_
    refine Ok.cld c (.head _) rfl (Ok.cld c (.head _) rfl (Ok.cld c (.head _) rfl (Ok.cld c (.tail _ (.tail _ (.tail _ (.tail _ (.tail _ (.head _)))))) rfl (Ok.cld c (.tail _ (.tail _ (.tail _ (.tail _ (.tail _ (.head _)))))) rfl (Ok.own (r39_q hlb.1 hlb.2.1 hlb.2.2.1 hd) fun X => ?_)))))
    refine Ok.cld c (.tail _ (.tail _ (.tail _ (.tail _ (.head _))))) rfl (Ok.cld c (.tail _ (.tail _ (.tail _ (.head _)))) rfl ?_)
    dsimp only
    rw [w64_id (n := restF L[i] d * (fq u).2) (by omega) (by omega), w64_id (n := restF L[i] d * (fq u).2 * (fq v).2) (by omega) (by omega)]
    refine Ok.own (r18_q (by omega) (show 0 < perZ L[i] u v from hpz) (by omega) H0) fun X2 => ?_
    show Ok (((A.push _).sts A.n 0 _).bind _) _
    have hnb : qb 1620000 3240000 (dv (restF L[i] d * (fq u).2 * (fq v).2) (perZ L[i] u v)) := qb_dv hpz (by omega) (by omega) hpb
    generalize dv (restF L[i] d * (fq u).2 * (fq v).2) (perZ L[i] u v) = n at *
    refine Ok.alo c fun B gB c => ?_
    have hwB := hw.gr (gA.trans gB)
    have take : ∀ C, C.n = B.n → (∀ x, x ≠ v5 → C.get x = B.get x) → Cx HH C [(A.n, fc n), (H1.n, tc L[i]), (v5, fc n), (v4, [.int .i64 0, .int .i64 0, .int .i64 0, .int .i64 0]), (v3, fc v), (v2, fc u), (v1, pc d)] → (∀ m, o = some m → n ≤ m) →
        Ok (r25_l0 a K v1 v2 v3 v4 v5 w L.length (w64 ((i : Int) + 1)) C) fun r H' => Gr HH H' ∧ ∃ m, IsTop l d u v m ∧ qb 1620000 3240000 m ∧ r = pt ((d.1 : Rat) + m * u, (d.2 : Rat) + m * v) := fun C hn hg c ho => by
      rw [w64_succ (by omega)]
      refine ih (m - 1) _ C (by omega) ⟨i + 1, some n, rfl, by omega, c.weak (.cons _ (.cons _ (.refl _))), hwB.congr (hg _ hwb), ?_, fun m e => by injection e with e; subst e; exact hnb⟩
      rw [List.take_succ_eq_append_getElem h]
      exact hms.take (fun t ht => hnn t (List.mem_of_mem_take ht)) hpq hstep ho
    cases o with
    | none =>
      refine Ok.cld c (.tail _ (.tail _ (.head _))) rfl (Ok.pos rfl ?_)
      unfold r25_j1
      exact Ok.pos rfl (Ok.cld c (.head _) rfl (Ok.cld c (.head _) rfl (Ok.cst c 2 rfl rfl fun C hn hg c => take C hn hg c fun m e => by cases e)))
    | some m' =>
      have hm0 := fq_pos m'
      have hq' := hqb m' rfl
      refine Ok.cld c (.tail _ (.tail _ (.head _))) rfl (Ok.neg (by omega) ?_)
      refine Ok.cld c (.head _) rfl (Ok.cld c (.head _) rfl (Ok.cld c (.tail _ (.tail _ (.head _))) rfl (Ok.cld c (.tail _ (.tail _ (.head _))) rfl (Ok.own (r21_q hnb hq' (by decide) (by decide)) fun X3 => ?_))))
      have ec : (cmpq n m' < 0) ↔ n < m' := by
        unfold cmpq
        split
        · simp [*]
        · split <;> simp [*]
      unfold r25_j1
      by_cases k : n < m'
      · rw [decide_eq_true (ec.2 k)]
        exact Ok.pos rfl (Ok.cld c (.head _) rfl (Ok.cld c (.head _) rfl (Ok.cst c 2 rfl rfl fun C hn hg c => take C hn hg c fun m e => by injection e with e; subst e; exact Rat.le_of_lt k)))
      · rw [decide_eq_false (fun q => k (ec.1 q))]
        refine Ok.neg (by simp) ?_
        rw [w64_succ (by omega)]
        refine ih (m - 1) _ B (by omega) ⟨i + 1, some m', rfl, by omega, c.weak (.cons _ (.cons _ (.refl _))), hwB, ?_, hqb⟩
        rw [List.take_succ_eq_append_getElem h]
        exact hms.keep hpq hstep k
  · rw [List.take_of_length_le (by omega)] at hms
    obtain ⟨m', rfl⟩ : ∃ m', o = some m' := by
      cases o with
      | none =>
        cases L with
        | nil => exact absurd rfl hne
        | cons t L =>
          have h1 := hms t (by simp)
          have h2 := perZ_pos (hpp t (by simp))
          grind
      | some m' => exact ⟨m', rfl⟩
    have hq := hqb m' rfl
    have hd' := hd
    unfold num at hd'
    refine Ok.neg (by omega) ?_
    refine Ok.cld c (.tail _ (.tail _ (.tail _ (.tail _ (.head _))))) rfl (Ok.cld c (.head _) rfl (Ok.cld c (.head _) rfl (Ok.cld c (.tail _ (.tail _ (.tail _ (.head _)))) rfl (Ok.cld c (.tail _ (.tail _ (.tail _ (.head _)))) rfl ?_))))
    refine Ok.own (r47_q (x := d.1) ⟨hd'.1, hd'.2.1⟩ hq hu (by decide) (by decide)) fun X => ?_
    refine Ok.cld c (.tail _ (.tail _ (.tail _ (.tail _ (.head _))))) rfl (Ok.cld c (.head _) rfl (Ok.cld c (.head _) rfl (Ok.cld c (.tail _ (.tail _ (.head _))) rfl (Ok.cld c (.tail _ (.tail _ (.head _))) rfl ?_))))
    refine Ok.own (r47_q (x := d.2) ⟨hd'.2.2.1, hd'.2.2.2⟩ hq hv (by decide) (by decide)) fun X => ?_
    refine Ok.cst c 1 rfl rfl fun C hn hg c => ?_
    refine Ok.cld c (.tail _ (.head _)) rfl (Ok.cld c (.tail _ (.head _)) rfl (Ok.cld c (.tail _ (.head _)) rfl (Ok.cld c (.tail _ (.head _)) rfl (Ok.ret ⟨c.g, m', hms.top hL hnn (fun t ht => Int.le_of_lt (hr t ht)), hq, rfl⟩))))
end
end Go.Lt.P5

namespace Go.Lt.P5
open Go Go.Lt Go.Proofs
def sel (who : Int) (t : Tr) : Int := if who = 0 then t.1 else t.2.1
def uW (who : Int) : Rat := if who = 0 then 1 else 0
def vW (who : Int) : Rat := if who = 0 then 0 else 1
theorem perq_sel {who : Int} {t : Tr} : perq t (uW who) (vW who) = (sel who t : Rat) := by
  unfold perq uW vW sel
  by_cases h : who = 0
  · rw [if_pos h, if_pos h, if_pos h]; grind
  · rw [if_neg h, if_neg h, if_neg h]; grind
section
variable {a : App} {l : List Pr} {L : List Tr} {d : Pr}
theorem r26_l0_ok {who : Int} {HH H : Hp} {v2 v3 v4 : Nat} {w : Sl} (hwho : who = 0 ∨ who = 1) (hL : ∀ x y, (∀ t ∈ L, lq t x y) ↔ reg l x y) (hb : ∀ t ∈ L, lb t) (hlen : L.length ≤ 100) (hd : num d) (hr : ∀ t ∈ L, 0 < restF t d) (hex : ∃ t ∈ L, sel who t ≠ 0)
    (hw : SL H w L) (hwb : w.b ≠ v4) (c : Cx HH H [(v4, bst none), (v3, [.int .i64 0, .int .i64 0]), (v2, pc d)]) :
    Ok (r26_l0 a FUEL who v2 v3 v4 w L.length 0 H) fun r H' => Gr HH H' ∧ ∃ m, IsTop l d (uW who) (vW who) m ∧ qb 1800 30 m ∧ r = fq m := by
  have hwl := hw.len
  have hsb : ∀ t ∈ L, 0 ≤ sel who t ∧ sel who t ≤ 30 := fun t ht => by
    obtain ⟨a1, b1, _⟩ := hb t ht
    unfold sel
    split
    · exact a1
    · exact b1
  have hnn : ∀ t ∈ L, 0 ≤ perq t (uW who) (vW who) := fun t ht => by rw [perq_sel]; exact_mod_cast (hsb t ht).1
  refine Ok.loop (L := fun K (s : Int) H2 => r26_l0 a K who v2 v3 v4 w L.length s H2) (fun m s H' => ∃ (i : Nat) (o : Option Rat), s = i ∧ i + m = L.length ∧ Cx HH H' [(v4, bst o), (v3, [.int .i64 0, .int .i64 0]), (v2, pc d)] ∧ SL H' w L ∧ MinSt (L.take i) d (uW who) (vW who) o ∧ ∀ m, o = some m → qb 1800 30 m) ?_ FUEL L.length 0 H (by unfold FUEL; omega) ⟨0, none, rfl, by omega, c, hw, by simpa using MinSt.nil, fun _ h => by cases h⟩
  rintro K m s H1 ⟨i, o, rfl, hm, c, hw, hms, hqb⟩ ih
  try dsimp only at *
  rw [r26_l0]
  by_cases h : i < L.length
  · have hmem : L[i] ∈ L := List.getElem_mem h
    have hrm := hr _ hmem
    have hlb := hb _ hmem
    have hrb := rest_bd hlb hd
    have hs := hsb _ hmem
    refine Ok.pos (by omega) (Ok.ck (by omega) (Ok.ld (hw.ldI (i := i) (j := 0) h rfl) (Ok.ld (hw.ldI (i := i) (j := 1) h rfl) (Ok.ld (hw.ldI (i := i) (j := 2) h rfl) (Ok.alo c fun A gA c => ?_)))))
    have hap : apart false 1 [.int .i64 L[i].1, .int .i64 L[i].2.1] (who.toNat * 1) = some (.int .i64 (sel who L[i])) := by
      rcases hwho with rfl | rfl <;> rfl
    refine Ok.cld c (.head _) rfl (Ok.cld c (.head _) rfl (Ok.ck (by omega) (Ok.ld hap (Ok.ld (b := sel who L[i]) rfl ?_))))
    by_cases hz : sel who L[i] = 0
    · refine Ok.pos hz ?_
      rw [w64_succ (by omega)]
      refine ih (m - 1) _ A (by omega) ⟨i + 1, o, rfl, by omega, c.weak (.cons _ (.refl _)), hw.gr gA, ?_, hqb⟩
      rw [List.take_succ_eq_append_getElem h]
      exact hms.skip (by rw [perq_sel, hz]; rfl)
    have hpos : 0 < sel who L[i] := by omega
    have hpq : 0 < perq L[i] (uW who) (vW who) := by rw [perq_sel]; exact_mod_cast hpos
    have hstep : dv (restF L[i] d) (sel who L[i]) * perq L[i] (uW who) (vW who) = (restF L[i] d : Rat) := by
      rw [perq_sel]; unfold dv
      exact Rat.div_mul_cancel (by have := cast_pos hpos; grind)
    refine Ok.neg hz ?_
    refine Ok.cld c (.head _) rfl (Ok.cld c (.head _) rfl (Ok.cld c (.head _) rfl (Ok.cld c (.tail _ (.tail _ (.tail _ (.head _)))) rfl (Ok.cld c (.tail _ (.tail _ (.tail _ (.head _)))) rfl (Ok.own (r39_q hlb.1 hlb.2.1 hlb.2.2.1 hd) fun X => ?_)))))
    dsimp only
    refine Ok.own (r18_q (by omega) hpos (by omega) H0) fun X2 => ?_
    have hnb : qb 1800 30 (dv (restF L[i] d) (sel who L[i])) := qb_dv hpos (by omega) (by omega) hs.2
    generalize dv (restF L[i] d) (sel who L[i]) = n at *
    refine Ok.alo c fun B gB c => ?_
    have hwB := hw.gr (gA.trans gB)
    have take : ∀ C, C.n = B.n → (∀ x, x ≠ v4 → C.get x = B.get x) → Cx HH C [(A.n, fc n), (H1.n, tc L[i]), (v4, fc n), (v3, [.int .i64 0, .int .i64 0]), (v2, pc d)] → (∀ m, o = some m → n ≤ m) →
        Ok (r26_l0 a K who v2 v3 v4 w L.length (w64 ((i : Int) + 1)) C) fun r H' => Gr HH H' ∧ ∃ m, IsTop l d (uW who) (vW who) m ∧ qb 1800 30 m ∧ r = fq m := fun C hn hg c ho => by
      rw [w64_succ (by omega)]
      refine ih (m - 1) _ C (by omega) ⟨i + 1, some n, rfl, by omega, c.weak (.cons _ (.cons _ (.refl _))), hwB.congr (hg _ hwb), ?_, fun m e => by injection e with e; subst e; exact hnb⟩
      rw [List.take_succ_eq_append_getElem h]
      exact hms.take (fun t ht => hnn t (List.mem_of_mem_take ht)) hpq hstep ho
    cases o with
    | none =>
      refine Ok.cld c (.tail _ (.tail _ (.head _))) rfl (Ok.pos rfl ?_)
      unfold r26_j1
      exact Ok.pos rfl (Ok.cld c (.head _) rfl (Ok.cld c (.head _) rfl (Ok.cst c 2 rfl rfl fun C hn hg c => take C hn hg c fun m e => by cases e)))
    | some m' =>
      have hm0 := fq_pos m'
      have hq' := hqb m' rfl
      refine Ok.cld c (.tail _ (.tail _ (.head _))) rfl (Ok.neg (by omega) ?_)
      refine Ok.cld c (.head _) rfl (Ok.cld c (.head _) rfl (Ok.cld c (.tail _ (.tail _ (.head _))) rfl (Ok.cld c (.tail _ (.tail _ (.head _))) rfl (Ok.own (r21_q hnb hq' (by decide) (by decide)) fun X3 => ?_))))
      have ec : (cmpq n m' < 0) ↔ n < m' := by
        unfold cmpq
        split
        · simp [*]
        · split <;> simp [*]
      unfold r26_j1
      by_cases k : n < m'
      · rw [decide_eq_true (ec.2 k)]
        exact Ok.pos rfl (Ok.cld c (.head _) rfl (Ok.cld c (.head _) rfl (Ok.cst c 2 rfl rfl fun C hn hg c => take C hn hg c fun m e => by injection e with e; subst e; exact Rat.le_of_lt k)))
      · rw [decide_eq_false (fun q => k (ec.1 q))]
        refine Ok.neg (by simp) ?_
        rw [w64_succ (by omega)]
        refine ih (m - 1) _ B (by omega) ⟨i + 1, some m', rfl, by omega, c.weak (.cons _ (.cons _ (.refl _))), hwB, ?_, hqb⟩
        rw [List.take_succ_eq_append_getElem h]
        exact hms.keep hpq hstep k
  · rw [List.take_of_length_le (by omega)] at hms
    obtain ⟨m', rfl⟩ : ∃ m', o = some m' := by
      cases o with
      | none =>
        obtain ⟨t, ht, hne⟩ := hex
        have h1 := hms t ht
        rw [perq_sel] at h1
        exact absurd (by exact_mod_cast h1) hne
      | some m' => exact ⟨m', rfl⟩
    have hq := hqb m' rfl
    refine Ok.neg (by omega) ?_
    refine Ok.cld c (.head _) rfl (Ok.cld c (.head _) rfl (Ok.cst c 1 rfl rfl fun C hn hg c => ?_))
    exact Ok.cld c (.tail _ (.head _)) rfl (Ok.cld c (.tail _ (.head _)) rfl (Ok.ret ⟨c.g, m', hms.top hL hnn (fun t ht => Int.le_of_lt (hr t ht)), hq, rfl⟩))
end
section
variable {k : Nat} {H : Hp} {v : Sl} {l : List Pr} {d : Pr}
theorem perm_ne {q l : List Pr} (ho : offP l) (h : q.Perm l) : q ≠ [] := by
  have := h.length_eq
  have h1 := ho.1
  intro e
  rw [e] at this
  simp at this
  omega
theorem r25_ok {u w : Rat} (hv : SL H v l) (ho : offP l) (hd : num d) (hrm : roomP l d) (hu : qb 1800 30 u) (hw : qb 1800 30 w) (hu0 : 0 < u) (hw0 : 0 < w) :
    Ok (r25 (appA (k + 2)) v d.1 d.2 (fq u).1 (fq u).2 (fq w).1 (fq w).2 H) fun r H' => Gr H H' ∧ ∃ m, IsTop l d u w m ∧ qb 1620000 3240000 m ∧ r = pt ((d.1 : Rat) + m * u, (d.2 : Rat) + m * w) := by
  unfold r25
  refine Ok.box4 (.nil H) fun A gA c => Ok.alo c fun B gB c => ?_
  refine Ok.bind (r22_ok (hv.gr (gA.trans gB)) ho) fun s C ⟨gC, hsb, q, hp, hs, hsl⟩ => ?_
  have hE := edgeP ho hp hs
  obtain ⟨hlen, hlb⟩ := hE.lines ho
  have h8 := hE.le
  have hlr := fun x y => lines_reg (x := x) (y := y) hp hs (perm_ne ho hp)
  have hslen := hsl.len
  dsimp only
  rw [hslen]
  refine r25_l0_ok hlr hlb (by omega) hd ((room_iff hlr hlb).2 hrm) hu hw hu0 hw0 (by intro e; rw [e] at hlen; simp at hlen) hsl ?_ (c.gr gC)
  have := c.lt (.head _)
  dsimp only at this
  omega
theorem r26_ok {who : Int} (hwho : who = 0 ∨ who = 1) (hv : SL H v l) (ho : offP l) (hd : num d) (hrm : roomP l d) :
    Ok (r26 (appA (k + 2)) v d.1 d.2 who H) fun r H' => Gr H H' ∧ ∃ m, IsTop l d (uW who) (vW who) m ∧ qb 1800 30 m ∧ r = fq m := by
  unfold r26
  refine Ok.box2 (.nil H) fun A gA c => Ok.alo c fun B gB c => ?_
  refine Ok.bind (r22_ok (hv.gr (gA.trans gB)) ho) fun s C ⟨gC, hsb, q, hp, hs, hsl⟩ => ?_
  have hE := edgeP ho hp hs
  obtain ⟨hlen, hlb⟩ := hE.lines ho
  have h8 := hE.le
  have hlr := fun x y => lines_reg (x := x) (y := y) hp hs (perm_ne ho hp)
  have hslen := hsl.len
  dsimp only
  rw [hslen]
  refine r26_l0_ok hwho hlr hlb (by omega) hd ((room_iff hlr hlb).2 hrm) ?_ hsl ?_ (c.gr gC)
  · obtain ⟨t1, t2⟩ := hE.top
    rcases hwho with rfl | rfl
    · exact ⟨_, t2, by simp [sel]⟩
    · exact ⟨_, t1, by simp [sel]⟩
  · have := c.lt (.head _)
    dsimp only at this
    omega
def ReadP (l : List Pr) (d : Pr) (v : Sl) (r : Sl × Int) : Prop := (offP l ∧ num d ∧ roomP l d ∧ r = (v, 0)) ∨ (offP l ∧ num d ∧ ¬ roomP l d ∧ r = (⟨true, 0, 0, 0, 0, 0⟩, 4)) ∨ (¬ (offP l ∧ num d) ∧ r = (⟨true, 0, 0, 0, 0, 0⟩, 2))
theorem r16_ok (hv : SL H v l) (hb : l.length ≤ 1000) : Ok (r16 (appA (k + 2)) v d.1 d.2 H) fun r H' => Gr H H' ∧ ReadP l d v r := by
  unfold r16
  refine Ok.box (.nil H) fun A gA c => ?_
  refine Ok.bind (r37_ok (hv.gr gA) hb) fun b B ⟨gB, hbb⟩ => ?_
  subst hbb
  have c := c.gr gB
  have bad : ∀ C, Gr H C → ¬ (offP l ∧ num d) → Ok (r16_j1 (appA (k + 2)) H.n v true C) fun r H' => Gr H H' ∧ ReadP l d v r := fun C g hno => by
    unfold r16_j1
    exact Ok.pos rfl (Ok.ret ⟨g, .inr (.inr ⟨hno, rfl⟩)⟩)
  dsimp only
  by_cases ho : offP l
  · rw [decide_eq_true ho]
    refine Ok.pos rfl (Ok.cld c (.head _) rfl ?_)
    refine Ok.ld (r38_spec d.1 H0) ?_
    dsimp only
    by_cases h1 : 0 ≤ d.1 ∧ d.1 ≤ 30
    · rw [decide_eq_true h1]
      refine Ok.pos rfl (Ok.cld c (.head _) rfl (Ok.ld (r38_spec d.2 H0) ?_))
      dsimp only
      by_cases h2 : 0 ≤ d.2 ∧ d.2 ≤ 30
      · rw [decide_eq_true h2]
        have hd : num d := ⟨h1.1, h1.2, h2.1, h2.2⟩
        unfold r16_j1
        refine Ok.neg (by simp) (Ok.bind (r22_ok (hv.gr (gA.trans gB)) ho) fun s C ⟨gC, hsb, q, hp, hs, hsl⟩ => ?_)
        have hE := edgeP ho hp hs
        obtain ⟨hlen, hlb⟩ := hE.lines ho
        have h8 := hE.le
        have hlr := fun x y => lines_reg (x := x) (y := y) hp hs (perm_ne ho hp)
        have hri := room_iff (d := d) hlr hlb
        have hslen := hsl.len
        have c := c.gr gC
        dsimp only
        rw [hslen]
        generalize linesF (chainF q).reverse = L at *
        refine Ok.loop (L := fun K (s' : Int) H2 => r16_l0 (appA (k + 2)) K H.n v s L.length s' H2) (fun m s' H' => ∃ i : Nat, s' = i ∧ i + m = L.length ∧ Cx H H' [(H.n, pc d)] ∧ SL H' s L ∧ ∀ t ∈ L.take i, 0 < restF t d) ?_ FUEL L.length 0 C (by unfold FUEL; omega) ⟨0, rfl, by omega, c, hsl, by simp⟩
        rintro K m s' H1 ⟨i, rfl, hm, c, hw, ht⟩ ih
        try dsimp only at *
        rw [r16_l0]
        by_cases h : i < L.length
        · have hmem : L[i] ∈ L := List.getElem_mem h
          have hl := hlb _ hmem
          refine Ok.pos (by omega) (Ok.ck (by omega) (Ok.ld (hw.ldI (i := i) (j := 0) h rfl) (Ok.ld (hw.ldI (i := i) (j := 1) h rfl) (Ok.ld (hw.ldI (i := i) (j := 2) h rfl) (Ok.alo c fun D gD c => ?_)))))
          refine Ok.cld c (.head _) rfl (Ok.cld c (.head _) rfl (Ok.cld c (.head _) rfl (Ok.cld c (.tail _ (.head _)) rfl (Ok.cld c (.tail _ (.head _)) rfl (Ok.own (r39_q hl.1 hl.2.1 hl.2.2.1 hd) fun X => ?_)))))
          refine Ok.ite (fun cc => Ok.ret ⟨c.g, .inr (.inl ⟨ho, hd, fun q => ?_, rfl⟩)⟩) fun cc => ?_
          · have := hri.2 q _ hmem
            dsimp only at cc
            omega
          · rw [w64_succ (by omega)]
            refine ih (m - 1) _ D (by omega) ⟨i + 1, rfl, by omega, c.weak (.cons _ (.refl _)), hw.gr gD, ?_⟩
            rw [List.take_succ_eq_append_getElem h]
            intro t htt
            rcases List.mem_append.1 htt with htt | htt
            · exact ht t htt
            · rw [List.mem_singleton] at htt; subst htt; dsimp only at cc; omega
        · rw [List.take_of_length_le (by omega)] at ht
          exact Ok.neg (by omega) (Ok.ret ⟨c.g, .inl ⟨ho, hd, hri.1 ht, rfl⟩⟩)
      · rw [decide_eq_false h2]
        exact bad _ c.g fun q => h2 ⟨q.2.2.2.1, q.2.2.2.2⟩
    · rw [decide_eq_false h1]
      exact Ok.neg (by simp) (bad _ c.g fun q => h1 ⟨q.2.1, q.2.2.1⟩)
  · rw [decide_eq_false ho]
    exact Ok.neg (by simp) (bad _ c.g fun q => ho q.1)
end
end Go.Lt.P5

namespace Go.Lt.P5
open Go Go.Lt Go.Proofs
theorem IsTop.reg {l : List Pr} {d : Pr} {u v m : Rat} (h : IsTop l d u v m) : reg l ((d.1 : Rat) + m * u) ((d.2 : Rat) + m * v) := (h m).2 Rat.le_refl
theorem IsHalf.deal {l : List Pr} {d : Pr} {p : Rat × Rat} (h : IsHalf l d p) (hr : roomP l d) : reg l p.1 p.2 ∧ (d.1 : Rat) < p.1 ∧ (d.2 : Rat) < p.2 := by
  obtain ⟨m, h1, rfl⟩ := h
  have h2 := h1.reg
  have h3 := h1.pos hr (by decide) (by decide)
  rw [Rat.mul_one] at h2
  refine ⟨h2, ?_, ?_⟩ <;> dsimp only <;> grind
theorem IsBest.deal {l : List Pr} {d : Pr} {p : Rat × Rat} (h : IsBest l d p) (hr : roomP l d) : reg l p.1 p.2 ∧ (d.1 : Rat) < p.1 ∧ (d.2 : Rat) < p.2 := by
  obtain ⟨a, b, m, h1, h2, h3, rfl⟩ := h
  have ha := h1.pos hr (by decide) (by decide)
  have hb := h2.pos hr (by decide) (by decide)
  have hm := h3.pos hr (Rat.le_of_lt ha) (Rat.le_of_lt hb)
  have p1 := Rat.mul_pos hm ha
  have p2 := Rat.mul_pos hm hb
  refine ⟨h3.reg, ?_, ?_⟩ <;> dsimp only <;> grind
def bdP (p : Rat × Rat) : Prop := ((fq p.1).2 ≤ 97200000 ∧ 0 ≤ (fq p.1).1 ∧ (fq p.1).1 ≤ 30 * (fq p.1).2) ∧ (fq p.2).2 ≤ 97200000 ∧ 0 ≤ (fq p.2).1 ∧ (fq p.2).1 ≤ 30 * (fq p.2).2
theorem le30 {p : Rat} (h0 : 0 ≤ p) (h : p ≤ 30) : 0 ≤ (fq p).1 ∧ (fq p).1 ≤ 30 * (fq p).2 := by
  refine ⟨fq_num_nonneg.2 h0, ?_⟩
  have := (@fq_le p 30).2 h
  rw [show fq (30 : Rat) = (30, 1) from rfl] at this
  omega
theorem bd_of {l : List Pr} {d : Pr} {p : Rat × Rat} (ho : offP l) (hd : num d) (h : reg l p.1 p.2 ∧ (d.1 : Rat) < p.1 ∧ (d.2 : Rat) < p.2) (h1 : (fq p.1).2 ≤ 97200000) (h2 : (fq p.2).2 ≤ 97200000) : bdP p := by
  obtain ⟨h3, h4, h5⟩ := h
  obtain ⟨h6, h7⟩ := h3.le ho.2.2.1
  unfold num at hd
  have d1 : (0 : Rat) ≤ d.1 := by exact_mod_cast hd.1
  have d2 : (0 : Rat) ≤ d.2 := by exact_mod_cast hd.2.2.1
  exact ⟨⟨h1, le30 (by grind) h6⟩, h2, le30 (by grind) h7⟩
def pte (p : Rat × Rat) (e : Int) : Int × Int × Int × Int × Int := ((fq p.1).1, (fq p.1).2, (fq p.2).1, (fq p.2).2, e)
def RuleP (I : Rat × Rat → Prop) (l : List Pr) (d : Pr) (r : Int × Int × Int × Int × Int) : Prop :=
  (offP l ∧ num d ∧ roomP l d ∧ ∃ p, I p ∧ bdP p ∧ r = pte p 0) ∨ (offP l ∧ num d ∧ ¬ roomP l d ∧ r = (0, 0, 0, 0, 4)) ∨ (¬ (offP l ∧ num d) ∧ r = (0, 0, 0, 0, 2))
theorem dv_one : dv 1 1 = 1 := by rw [dv_int]; rfl
theorem step_den {d : Int} {m u : Rat} (hd : 0 ≤ d ∧ d ≤ 30) (hm : qb 1620000 3240000 m) (hu : qb 1800 30 u) : (fq ((d : Rat) + m * u)).2 ≤ 97200000 := by
  have h1 : qb 30 1 (d : Rat) := qb_int (by omega) (by omega) (by omega)
  have := (h1.add (hm.mul hu)).2.2
  omega
section
variable {k : Nat} {H : Hp} {v : Sl} {l : List Pr} {d : Pr}
theorem r7_ok (hv : SL H v l) (hb : l.length ≤ 1000) : Ok (r7 (appA (k + 2)) v d.1 d.2 H) fun r H' => Gr H H' ∧ RuleP (IsHalf l d) l d r := by
  unfold r7
  refine Ok.box2 (.nil H) fun A gA c => ?_
  refine Ok.cld c (.tail _ (.head _)) rfl (Ok.cld c (.tail _ (.head _)) rfl (Ok.bind (r16_ok (d := d) (hv.gr gA) hb) fun r B ⟨gB, hr⟩ => ?_))
  have c := c.gr gB
  have bad : ∀ e : Int, RuleP (IsHalf l d) l d (0, 0, 0, 0, e) → Ok ((B.sts ((H.push (.cells [.int .i64 d.1, .int .i64 d.2] false)).n) 0 [.int .i64 0, .int .i64 0, .int .i64 0, .int .i64 0]).bind fun H6 =>
      (H6.ldI .i64 ((H.push (.cells [.int .i64 d.1, .int .i64 d.2] false)).n) 0).bind fun x7 =>
      (H6.ldI .i64 ((H.push (.cells [.int .i64 d.1, .int .i64 d.2] false)).n) (0 + 1)).bind fun x8 =>
      (H6.ldI .i64 ((H.push (.cells [.int .i64 d.1, .int .i64 d.2] false)).n) (0 + 2)).bind fun x9 =>
      (H6.ldI .i64 ((H.push (.cells [.int .i64 d.1, .int .i64 d.2] false)).n) (0 + 3)).bind fun x10 =>
      some ((x7, x8, x9, x10, e), H6)) fun r H' => Gr H H' ∧ RuleP (IsHalf l d) l d r := fun e hR => by
    refine Ok.cst c 0 rfl rfl fun C _ _ c => ?_
    exact Ok.cld c (.head _) rfl (Ok.cld c (.head _) rfl (Ok.cld c (.head _) rfl (Ok.cld c (.head _) rfl (Ok.ret ⟨c.g, hR⟩))))
  rcases hr with ⟨ho, hd, hrm, rfl⟩ | ⟨ho, hd, hrm, rfl⟩ | ⟨hno, rfl⟩
  · refine Ok.neg (by simp) (Ok.own (r18_q (a := 1) (b := 1) (by decide) (by decide) (by decide) H0) fun X => ?_)
    rw [dv_one]
    refine Ok.alo c fun C gC c => ?_
    refine Ok.cld c (.tail _ (.tail _ (.head _))) rfl (Ok.cld c (.tail _ (.tail _ (.head _))) rfl (Ok.cld c (.head _) rfl (Ok.cld c (.head _) rfl (Ok.cld c (.head _) rfl (Ok.cld c (.head _) rfl ?_)))))
    have q1 : qb 1800 30 1 := ⟨by decide, by decide, by decide⟩
    refine Ok.bind (r25_ok (u := 1) (w := 1) (hv.gr c.g) ho hd hrm q1 q1 (by decide) (by decide)) fun r D ⟨gD, m, hm, hmb, hr⟩ => ?_
    subst hr
    have c := c.gr gD
    refine Ok.cst c 1 rfl rfl fun E _ _ c => ?_
    refine Ok.cld c (.tail _ (.head _)) rfl (Ok.cld c (.tail _ (.head _)) rfl (Ok.cld c (.tail _ (.head _)) rfl (Ok.cld c (.tail _ (.head _)) rfl (Ok.ret ⟨c.g, .inl ⟨ho, hd, hrm, ((d.1 : Rat) + m * 1, (d.2 : Rat) + m * 1), ?_, ?_, rfl⟩⟩))))
    · exact ⟨m, hm, by rw [Rat.mul_one]⟩
    · have hh : IsHalf l d ((d.1 : Rat) + m * 1, (d.2 : Rat) + m * 1) := ⟨m, hm, by rw [Rat.mul_one]⟩
      unfold num at hd
      exact bd_of ho hd (hh.deal hrm) (step_den ⟨hd.1, hd.2.1⟩ hmb q1) (step_den ⟨hd.2.2.1, hd.2.2.2⟩ hmb q1)
  · exact Ok.pos (show (4 : Int) ≠ 0 by decide) (bad 4 (.inr (.inl ⟨ho, hd, hrm, rfl⟩)))
  · exact Ok.pos (show (2 : Int) ≠ 0 by decide) (bad 2 (.inr (.inr ⟨hno, rfl⟩)))
theorem r6_ok (hv : SL H v l) (hb : l.length ≤ 1000) : Ok (r6 (appA (k + 2)) v d.1 d.2 H) fun r H' => Gr H H' ∧ RuleP (IsBest l d) l d r := by
  unfold r6
  refine Ok.box2 (.nil H) fun A gA c => ?_
  refine Ok.cld c (.tail _ (.head _)) rfl (Ok.cld c (.tail _ (.head _)) rfl (Ok.bind (r16_ok (d := d) (hv.gr gA) hb) fun r B ⟨gB, hr⟩ => ?_))
  have c := c.gr gB
  have bad : ∀ e : Int, RuleP (IsBest l d) l d (0, 0, 0, 0, e) → Ok ((B.sts ((H.push (.cells [.int .i64 d.1, .int .i64 d.2] false)).n) 0 [.int .i64 0, .int .i64 0, .int .i64 0, .int .i64 0]).bind fun H6 =>
      (H6.ldI .i64 ((H.push (.cells [.int .i64 d.1, .int .i64 d.2] false)).n) 0).bind fun x7 =>
      (H6.ldI .i64 ((H.push (.cells [.int .i64 d.1, .int .i64 d.2] false)).n) (0 + 1)).bind fun x8 =>
      (H6.ldI .i64 ((H.push (.cells [.int .i64 d.1, .int .i64 d.2] false)).n) (0 + 2)).bind fun x9 =>
      (H6.ldI .i64 ((H.push (.cells [.int .i64 d.1, .int .i64 d.2] false)).n) (0 + 3)).bind fun x10 =>
      some ((x7, x8, x9, x10, e), H6)) fun r H' => Gr H H' ∧ RuleP (IsBest l d) l d r := fun e hR => by
    refine Ok.cst c 0 rfl rfl fun C _ _ c => ?_
    exact Ok.cld c (.head _) rfl (Ok.cld c (.head _) rfl (Ok.cld c (.head _) rfl (Ok.cld c (.head _) rfl (Ok.ret ⟨c.g, hR⟩))))
  rcases hr with ⟨ho, hd, hrm, rfl⟩ | ⟨ho, hd, hrm, rfl⟩ | ⟨hno, rfl⟩
  · have cB := c
    refine Ok.neg (by simp) (Ok.cld c (.tail _ (.head _)) rfl (Ok.cld c (.tail _ (.head _)) rfl (Ok.cld c (.tail _ (.head _)) rfl (Ok.cld c (.tail _ (.head _)) rfl ?_))))
    refine Ok.bind (r26_ok (who := 0) (.inl rfl) (hv.gr c.g) ho hd hrm) fun r C ⟨gC, a, ha, hab, hr⟩ => ?_
    subst hr
    have c := c.gr gC
    have cC := c
    refine Ok.cld c (.tail _ (.head _)) rfl (Ok.cld c (.tail _ (.head _)) rfl ?_)
    refine Ok.bind (r26_ok (who := 1) (.inr rfl) (hv.gr c.g) ho hd hrm) fun r D ⟨gD, b, hbt, hbb, hr⟩ => ?_
    subst hr
    have c := c.gr gD
    have cD := c
    have ha0 := ha.pos hrm (by decide) (by decide)
    have hb0 := hbt.pos hrm (by decide) (by decide)
    refine Ok.bind (r25_ok (u := a) (w := b) (hv.gr c.g) ho hd hrm hab hbb ha0 hb0) fun r D ⟨gD, m, hm, hmb, hr⟩ => ?_
    subst hr
    have c := c.gr gD
    refine Ok.cst c 0 rfl rfl fun E _ _ c => ?_
    refine Ok.cck cB (.tail _ (.head _)) rfl (Ok.cck cB (.tail _ (.head _)) rfl (Ok.cck cC (.tail _ (.head _)) rfl (Ok.cck cC (.tail _ (.head _)) rfl (Ok.cck cD (.tail _ (.head _)) rfl (Ok.cck cD (.tail _ (.head _)) rfl (Ok.cck cD (.tail _ (.head _)) rfl (Ok.cck cD (.tail _ (.head _)) rfl ?_)))))))
    have hh : IsBest l d ((d.1 : Rat) + m * a, (d.2 : Rat) + m * b) := ⟨a, b, m, ha, hbt, hm, rfl⟩
    refine Ok.cld c (.head _) rfl (Ok.cld c (.head _) rfl (Ok.cld c (.head _) rfl (Ok.cld c (.head _) rfl (Ok.ret ⟨c.g, .inl ⟨ho, hd, hrm, _, hh, ?_, rfl⟩⟩))))
    unfold num at hd
    exact bd_of ho hd (hh.deal hrm) (step_den ⟨hd.1, hd.2.1⟩ hmb hab) (step_den ⟨hd.2.2.1, hd.2.2.2⟩ hmb hbb)
  · exact Ok.pos (show (4 : Int) ≠ 0 by decide) (bad 4 (.inr (.inl ⟨ho, hd, hrm, rfl⟩)))
  · exact Ok.pos (show (2 : Int) ≠ 0 by decide) (bad 2 (.inr (.inr ⟨hno, rfl⟩)))
end
end Go.Lt.P5

namespace Go.Lt.P5
open Go Go.Lt Go.Proofs
theorem r33_l0_q {x y : Int} (hx : x.natAbs < 9223372036854775808) (hy0 : 0 < y) (hy : y < 9223372036854775808) {c : Nat} {E : List (Nat × List AV)} {u w : AV} {H1 H : Hp} (hc : Cx H1 H ((c, [u, w]) :: E)) : ∀ (K : Nat) (a b : Int), 0 ≤ a → 0 ≤ b → b.natAbs < K → Nat.gcd a.natAbs b.natAbs = Nat.gcd x.natAbs y.natAbs →
    Ok (r33_l0 K x y c a b H) fun r _ => r = fq (dv x y) := by
  intro K
  induction K with
  | zero => intro a b _ _ h; omega
  | succ K ih =>
    intro a b ha0 hb0 h hg
    have hpos : 0 < Nat.gcd x.natAbs y.natAbs := Nat.gcd_pos_of_pos_right _ (by omega)
    rw [r33_l0]
    by_cases h0 : b = 0
    · subst h0
      rw [Int.natAbs_zero, Nat.gcd_zero_right] at hg
      have ea : a = ((Nat.gcd x.natAbs y.natAbs : Nat) : Int) := by omega
      subst ea
      rw [tdiv_small hx, tdiv_small (by omega)]
      refine Ok.neg (by simp) (Ok.ck (by omega) (Ok.ck (by omega) (Ok.cst hc 0 rfl rfl fun D _ _ c => ?_)))
      refine Ok.cld c (.head _) rfl (Ok.cld c (.head _) rfl (Ok.ret ?_))
      rw [fq_gcdv hy0]
    · have hm := Nat.mod_lt a.natAbs (show 0 < b.natAbs by omega)
      have e := Int.natAbs_tmod a b
      have hn := Int.tmod_nonneg b ha0
      exact Ok.pos h0 (Ok.ck h0 (ih b (Int.tmod a b) hb0 hn (by omega) (by rw [e]; exact (gcd_stepQ _ _).trans hg)))
theorem r33_q {a b : Int} (ha : a.natAbs < 9223372036854775808) (hb : 0 < b) (hb2 : b < 9223372036854775808) (H : Hp) : Ok (r33 a b H) fun r _ => r = fq (dv a b) := by
  unfold r33
  refine Ok.box (.nil H) fun A _ c => Ok.neg (by omega) ?_
  unfold r33_j1
  rw [w64_absI ha]
  exact r33_l0_q ha hb hb2 c FUEL _ b (by omega) (by omega) (by unfold FUEL; omega) (by simp)
end Go.Lt.P5

namespace Go.Lt.P5
open Go Go.Lt Go.Proofs
theorem r30_q (a : Int) (H : Hp) : Ok (r30 a H) fun r _ => r = fq (a : Rat) := by
  unfold r30
  refine Ok.box (.nil H) fun A _ c => Ok.cst c 0 rfl rfl fun D _ _ c => ?_
  exact Ok.cld c (.head _) rfl (Ok.cld c (.head _) rfl (Ok.ret rfl))
section
variable {p q : Rat} {N D N' D' : Int} (hp : qb N D p) (hq : qb N' D' q) (h1 : N * D' < 1000000000000000000) (h2 : N' * D < 1000000000000000000) (h3 : D * D' < 1000000000000000000)
include hp hq h1 h2 h3
theorem r35_q : Ok (r35 (fq p).1 (fq p).2 (fq q).1 (fq q).2 H0) fun r _ => r = fq (p - q) := by
  have e := fq_sub p q
  obtain ⟨a1, a2, a3⟩ := hp
  obtain ⟨k1, k2, k3⟩ := hq
  have ap := fq_pos p
  have kp := fq_pos q
  have b1 := mul_bd (A := N) (B := D') (x := (fq p).1) (y := (fq q).2) a1 a2 (by omega) k3
  have b2 := mul_bd (A := N') (B := D) (x := (fq q).1) (y := (fq p).2) k1 k2 (by omega) a3
  have b3 := mul_bd (A := D) (B := D') (x := (fq p).2) (y := (fq q).2) (by omega) a3 (by omega) k3
  have b4 := Int.mul_pos ap kp
  unfold r35
  refine Ok.lt (Ok.ld rfl (Ok.ld rfl (Ok.ld rfl (Ok.ld rfl (Ok.ld rfl (Ok.ld rfl ?_))))))
  rw [w64_id (n := (fq p).1 * (fq q).2) (by omega) (by omega), w64_id (n := (fq q).1 * (fq p).2) (by omega) (by omega), w64_id (n := (fq p).2 * (fq q).2) (by omega) (by omega), w64_id (by omega) (by omega)]
  refine Ok.own (r33_q (by omega) b4 (by omega) H0) fun X => ?_
  rw [e]
  exact Ok.ld rfl (Ok.ld rfl (Ok.ld rfl (Ok.ret rfl)))
end
theorem r36_q {p q : Rat} {N D N' D' : Int} (hp : qb N D p) (hq : qb N' D' q) (h1 : N * N' < 1000000000000000000) (h3 : D * D' < 1000000000000000000) : Ok (r36 (fq p).1 (fq p).2 (fq q).1 (fq q).2 H0) fun r _ => r = fq (p * q) := by
  have e := fq_mul p q
  obtain ⟨a1, a2, a3⟩ := hp
  obtain ⟨k1, k2, k3⟩ := hq
  have ap := fq_pos p
  have kp := fq_pos q
  have b1 := mul_bd (A := N) (B := N') (x := (fq p).1) (y := (fq q).1) a1 a2 k1 k2
  have b3 := mul_bd (A := D) (B := D') (x := (fq p).2) (y := (fq q).2) (by omega) a3 (by omega) k3
  have b4 := Int.mul_pos ap kp
  unfold r36
  refine Ok.lt (Ok.ld rfl (Ok.ld rfl (Ok.ld rfl (Ok.ld rfl ?_))))
  rw [w64_id (by omega) (by omega), w64_id (by omega) (by omega)]
  refine Ok.own (r33_q (by omega) b4 (by omega) H0) fun X => ?_
  rw [e]
  exact Ok.ld rfl (Ok.ld rfl (Ok.ld rfl (Ok.ret rfl)))
end Go.Lt.P5

namespace Go.Lt.P5
open Go Go.Lt Go.Proofs
theorem r34_q {p q : Rat} {N D N' D' : Int} (hp : qb N D p) (hq : qb N' D' q) (h1 : N * D' < 1000000000000000000) (h2 : N' * D < 1000000000000000000) : Ok (r34 (fq p).1 (fq p).2 (fq q).1 (fq q).2 H0) fun r _ => r = decide (p < q) := by
  obtain ⟨a1, a2, a3⟩ := hp
  obtain ⟨k1, k2, k3⟩ := hq
  have ap := fq_pos p
  have kp := fq_pos q
  have b1 := mul_bd (A := N) (B := D') (x := (fq p).1) (y := (fq q).2) a1 a2 (by omega) k3
  have b2 := mul_bd (A := N') (B := D) (x := (fq q).1) (y := (fq p).2) k1 k2 (by omega) a3
  unfold r34
  refine Ok.lt (Ok.ld rfl (Ok.ld rfl (Ok.ld rfl (Ok.ld rfl (Ok.ret ?_)))))
  rw [w64_id (by omega) (by omega), w64_id (by omega) (by omega)]
  exact decide_eq_decide.2 fq_lt
end Go.Lt.P5

namespace Go.Lt.P5
open Go Go.Lt Go.Proofs
def fr (x : Pr) : Prop := 1 ≤ x.2 ∧ x.2 ≤ 1000000 ∧ 0 ≤ x.1 ∧ x.1 ≤ 30 * x.2 ∧ Nat.gcd x.1.toNat x.2.toNat = 1
instance (x : Pr) : Decidable (fr x) := by unfold fr; infer_instance
end Go.Lt.P5

namespace Go.Lt.P5
open Go Go.Lt Go.Proofs
theorem sts3 (H : Hp) (x y z a b c : AV) : ∃ D, (H.push (.cells [a, b, c] false)).sts H.n 0 [x, y, z] = some D ∧ D.get H.n = some (.cells [x, y, z] false) ∧ Gr H D ∧ D.n = H.n + 1 := by
  obtain ⟨D, h1, h2, h3, h4⟩ := sts_blk [x, y, z] 0 (H.push (.cells [a, b, c] false)) [a, b, c] (Hp.get_push_new _ _) (by simp)
  refine ⟨D, h1, h2, ⟨by rw [h3]; simp, fun q hq => ?_⟩, by rw [h3]; simp⟩
  rw [h4 q (by omega), Hp.get_push_old _ _ hq]
theorem sat_bd {t : Tr} {x y : Pr} (ht : tb t) (hx : fr x) (hy : fr y) : w64 (t.1 * x.1) = t.1 * x.1 ∧ w64 (t.1 * x.1 * y.2) = t.1 * x.1 * y.2 ∧ w64 (t.2.1 * y.1) = t.2.1 * y.1 ∧ w64 (t.2.1 * y.1 * x.2) = t.2.1 * y.1 * x.2 ∧ w64 (t.1 * x.1 * y.2 + t.2.1 * y.1 * x.2) = t.1 * x.1 * y.2 + t.2.1 * y.1 * x.2 ∧ w64 (t.2.2 * x.2) = t.2.2 * x.2 ∧ w64 (t.2.2 * x.2 * y.2) = t.2.2 * x.2 * y.2 := by
  obtain ⟨a1, a2, a3, a4, a5, a6⟩ := ht
  obtain ⟨x1, x2, x3, x4, _⟩ := hx
  obtain ⟨y1, y2, y3, y4, _⟩ := hy
  have b1 := mul_bd (A := 30) (B := 30000000) (x := t.1) (y := x.1) (by omega) (by omega) (by omega) (by omega)
  have b2 := mul_bd (A := 900000000) (B := 1000000) (x := t.1 * x.1) (y := y.2) (by omega) (by omega) (by omega) (by omega)
  have b3 := mul_bd (A := 30) (B := 30000000) (x := t.2.1) (y := y.1) (by omega) (by omega) (by omega) (by omega)
  have b4 := mul_bd (A := 900000000) (B := 1000000) (x := t.2.1 * y.1) (y := x.2) (by omega) (by omega) (by omega) (by omega)
  have b5 := mul_bd (A := 1800) (B := 1000000) (x := t.2.2) (y := x.2) (by omega) (by omega) (by omega) (by omega)
  have b6 := mul_bd (A := 1800000000) (B := 1000000) (x := t.2.2 * x.2) (y := y.2) (by omega) (by omega) (by omega) (by omega)
  exact ⟨w64_id (by omega) (by omega), w64_id (by omega) (by omega), w64_id (by omega) (by omega), w64_id (by omega) (by omega), w64_id (by omega) (by omega), w64_id (by omega) (by omega), w64_id (by omega) (by omega)⟩
end Go.Lt.P5

namespace Go.Lt.P5
open Go Go.Lt Go.Proofs
theorem div_one {b g : Nat} (hb : 0 < b) (h : b / g = b) : g = 1 := by
  rcases Nat.lt_or_ge 1 g with c | c
  · have := Nat.div_lt_self hb c
    omega
  · match g, c with
    | 0, _ => rw [Nat.div_zero] at h; omega
    | 1, _ => rfl
end Go.Lt.P5

namespace Go.Lt.P5
open Go Go.Lt Go.Proofs
theorem r27_l0_ok {H : Hp} {pb : Nat} {v : Sl} {l : List Tr} {x y : Pr} (hv : SL H v l) (hb : l.length ≤ 1000) (hl : ∀ t ∈ l, tb t) (hx : fr x) (hy : fr y) (hp : H.get pb = some (.cells [.int .i64 x.1, .int .i64 x.2, .int .i64 y.1, .int .i64 y.2] false)) :
    Ok (r27_l0 FUEL pb v l.length 0 H) fun r H' => Gr H H' ∧ r = decide (∀ t ∈ l, sat t x y) := by
  have hlen := hv.len
  refine Ok.loop (L := fun K (s : Int) H2 => r27_l0 K pb v l.length s H2) (fun m s H' => Gr H H' ∧ ∃ i : Nat, s = i ∧ i + m = l.length ∧ ∀ t ∈ l.take i, sat t x y) ?_ FUEL l.length 0 H (by unfold FUEL; omega) ⟨.refl _, 0, rfl, by omega, by simp⟩
  rintro K m s H1 ⟨g1, i, rfl, hm, ht⟩ ih
  try dsimp only at *
  rw [r27_l0]
  by_cases h : i < l.length
  · have hg := hv.gr g1
    have hmem : l[i] ∈ l := List.getElem_mem h
    obtain ⟨E, hE, hE', gE, nE⟩ := sts3 H1 (.int .i64 l[i].1) (.int .i64 l[i].2.1) (.int .i64 l[i].2.2) (.int .i64 0) (.int .i64 0) (.int .i64 0)
    have gB := g1.trans gE
    have hpE : E.get pb = some (.cells [.int .i64 x.1, .int .i64 x.2, .int .i64 y.1, .int .i64 y.2] false) := by rw [gB.2 _ (Hp.get_lt hp)]; exact hp
    refine Ok.pos (by omega) (Ok.ck (by omega) (Ok.ld (hg.ldI (i := i) (j := 0) h rfl) (Ok.ld (hg.ldI (i := i) (j := 1) h rfl) (Ok.ld (hg.ldI (i := i) (j := 2) h rfl) (Ok.ld hE ?_)))))
    refine Ok.ld (ldI_get hE' rfl) (Ok.ld (ldI_get hpE rfl) (Ok.ld (ldI_get hpE rfl) (Ok.ld (ldI_get hE' rfl) (Ok.ld (ldI_get hpE rfl) (Ok.ld (ldI_get hpE rfl) (Ok.ld (ldI_get hE' rfl) (Ok.ld (ldI_get hpE rfl) (Ok.ld (ldI_get hpE rfl) ?_))))))))
    obtain ⟨e1, e2, e3, e4, e5, e6, e7⟩ := sat_bd (hl _ hmem) hx hy
    rw [e1, e2, e3, e4, e5, e6, e7]
    refine Ok.ite (fun c => Ok.ret ⟨gB, ?_⟩) fun c => ?_
    · rw [decide_eq_false]
      intro f
      have := f _ hmem
      unfold sat at this
      omega
    · rw [w64_succ (by omega)]
      refine ih (m - 1) _ E (by omega) ⟨gB, i + 1, rfl, by omega, ?_⟩
      rw [List.take_succ_eq_append_getElem h]
      intro z hz
      rcases List.mem_append.1 hz with hz | hz
      · exact ht z hz
      · rw [List.mem_singleton] at hz; subst hz; unfold sat; omega
  · rw [List.take_of_length_le (by omega)] at ht
    exact Ok.neg (by omega) (Ok.ret ⟨g1, by rw [decide_eq_true ht]⟩)
end Go.Lt.P5
