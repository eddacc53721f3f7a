/- PLAIN LAWS OF WHAT IS COMPUTED, for the statement 'DealsOthers'. Nothing is asked of the input. -/
import Derived.Test.YtficeemoekikdaaU14VQd
set_option linter.unusedVariables false
set_option linter.unusedSimpArgs false
namespace Go.Lt.P5
open Go Go.Lt Go.Proofs
theorem IsTop.reg {l : List Pr} {d : Pr} {u v m : Rat} (h : IsTop l d u v m) : reg l ((d.1 : Rat) + m * u) ((d.2 : Rat) + m * v) := (h m).2 Rat.le_refl
theorem IsHalf.deal {l : List Pr} {d : Pr} {p : Rat × Rat} (h : IsHalf l d p) (hr : roomP l d) : reg l p.1 p.2 ∧ (d.1 : Rat) < p.1 ∧ (d.2 : Rat) < p.2 := by
  obtain ⟨m, h1, rfl⟩ := h
  have h2 := h1.reg
  have h3 := h1.pos hr (by decide) (by decide)
  rw [Rat.mul_one] at h2
  refine ⟨h2, ?_, ?_⟩ <;> dsimp only <;> grind
theorem IsBest.deal {l : List Pr} {d : Pr} {p : Rat × Rat} (h : IsBest l d p) (hr : roomP l d) : reg l p.1 p.2 ∧ (d.1 : Rat) < p.1 ∧ (d.2 : Rat) < p.2 := by
  obtain ⟨a, b, m, h1, h2, h3, rfl⟩ := h
  have ha := h1.pos hr (by decide) (by decide)
  have hb := h2.pos hr (by decide) (by decide)
  have hm := h3.pos hr (Rat.le_of_lt ha) (Rat.le_of_lt hb)
  have p1 := Rat.mul_pos hm ha
  have p2 := Rat.mul_pos hm hb
  refine ⟨h3.reg, ?_, ?_⟩ <;> dsimp only <;> grind
/-- small terms, from 0 to 30 -/
def bdP (p : Rat × Rat) : Prop := ((fq p.1).2 ≤ 97200000 ∧ 0 ≤ (fq p.1).1 ∧ (fq p.1).1 ≤ 30 * (fq p.1).2) ∧ (fq p.2).2 ≤ 97200000 ∧ 0 ≤ (fq p.2).1 ∧ (fq p.2).1 ≤ 30 * (fq p.2).2
theorem le30 {p : Rat} (h0 : 0 ≤ p) (h : p ≤ 30) : 0 ≤ (fq p).1 ∧ (fq p).1 ≤ 30 * (fq p).2 := by
  refine ⟨fq_num_nonneg.2 h0, ?_⟩
  have := (@fq_le p 30).2 h
  rw [show fq (30 : Rat) = (30, 1) from rfl] at this
  omega
theorem bd_of {l : List Pr} {d : Pr} {p : Rat × Rat} (ho : offP l) (hd : num d) (h : reg l p.1 p.2 ∧ (d.1 : Rat) < p.1 ∧ (d.2 : Rat) < p.2) (h1 : (fq p.1).2 ≤ 97200000) (h2 : (fq p.2).2 ≤ 97200000) : bdP p := by
  obtain ⟨h3, h4, h5⟩ := h
  obtain ⟨h6, h7⟩ := h3.le ho.2.2.1
  unfold num at hd
  have d1 : (0 : Rat) ≤ d.1 := by exact_mod_cast hd.1
  have d2 : (0 : Rat) ≤ d.2 := by exact_mod_cast hd.2.2.1
  exact ⟨⟨h1, le30 (by grind) h6⟩, h2, le30 (by grind) h7⟩
def pte (p : Rat × Rat) (e : Int) : Int × Int × Int × Int × Int := ((fq p.1).1, (fq p.1).2, (fq p.2).1, (fq p.2).2, e)
/-- what a rule says -/
def RuleP (I : Rat × Rat → Prop) (l : List Pr) (d : Pr) (r : Int × Int × Int × Int × Int) : Prop :=
  (offP l ∧ num d ∧ roomP l d ∧ ∃ p, I p ∧ bdP p ∧ r = pte p 0) ∨ (offP l ∧ num d ∧ ¬ roomP l d ∧ r = (0, 0, 0, 0, 4)) ∨ (¬ (offP l ∧ num d) ∧ r = (0, 0, 0, 0, 2))
theorem dv_one : dv 1 1 = 1 := by rw [dv_int]; rfl
theorem step_den {d : Int} {m u : Rat} (hd : 0 ≤ d ∧ d ≤ 30) (hm : qb 1620000 3240000 m) (hu : qb 1800 30 u) : (fq ((d : Rat) + m * u)).2 ≤ 97200000 := by
  have h1 : qb 30 1 (d : Rat) := qb_int (by omega) (by omega) (by omega)
  have := (h1.add (hm.mul hu)).2.2
  omega
section
variable {k : Nat} {H : Hp} {v : Sl} {l : List Pr} {d : Pr}
/-- Halves -/
theorem r40_ok (hv : SL H v l) (hb : l.length ≤ 1000) : Ok (r40 (appA (k + 2)) v d.1 d.2 H) fun r H' => Gr H H' ∧ RuleP (IsHalf l d) l d r := by
  unfold r40
  refine Ok.box2 (.nil H) fun A gA c => ?_
  refine Ok.cld c (.tail _ (.head _)) rfl (Ok.cld c (.tail _ (.head _)) rfl (Ok.bind (r64_ok (d := d) (hv.gr gA) hb) fun r B ⟨gB, hr⟩ => ?_))
  have c := c.gr gB
  have bad : ∀ e : Int, RuleP (IsHalf l d) l d (0, 0, 0, 0, e) → Ok ((B.sts ((H.push (.cells [.int .i64 d.1, .int .i64 d.2] false)).n) 0 [.int .i64 0, .int .i64 0, .int .i64 0, .int .i64 0]).bind fun H6 =>
      (H6.ldI .i64 ((H.push (.cells [.int .i64 d.1, .int .i64 d.2] false)).n) 0).bind fun x7 =>
      (H6.ldI .i64 ((H.push (.cells [.int .i64 d.1, .int .i64 d.2] false)).n) (0 + 1)).bind fun x8 =>
      (H6.ldI .i64 ((H.push (.cells [.int .i64 d.1, .int .i64 d.2] false)).n) (0 + 2)).bind fun x9 =>
      (H6.ldI .i64 ((H.push (.cells [.int .i64 d.1, .int .i64 d.2] false)).n) (0 + 3)).bind fun x10 =>
      some ((x7, x8, x9, x10, e), H6)) fun r H' => Gr H H' ∧ RuleP (IsHalf l d) l d r := fun e hR => by
    refine Ok.cst c 0 rfl rfl fun C _ _ c => ?_
    exact Ok.cld c (.head _) rfl (Ok.cld c (.head _) rfl (Ok.cld c (.head _) rfl (Ok.cld c (.head _) rfl (Ok.ret ⟨c.g, hR⟩))))
  rcases hr with ⟨ho, hd, hrm, rfl⟩ | ⟨ho, hd, hrm, rfl⟩ | ⟨hno, rfl⟩
  · refine Ok.neg (by simp) (Ok.own (r48_q (a := 1) (b := 1) (by decide) (by decide) (by decide) H0) fun X => ?_)
    rw [dv_one]
    refine Ok.alo c fun C gC c => ?_
    refine Ok.cld c (.tail _ (.tail _ (.head _))) rfl (Ok.cld c (.tail _ (.tail _ (.head _))) rfl (Ok.cld c (.head _) rfl (Ok.cld c (.head _) rfl (Ok.cld c (.head _) rfl (Ok.cld c (.head _) rfl ?_)))))
    have q1 : qb 1800 30 1 := ⟨by decide, by decide, by decide⟩
    refine Ok.bind (r65_ok (u := 1) (w := 1) (hv.gr c.g) ho hd hrm q1 q1 (by decide) (by decide)) fun r D ⟨gD, m, hm, hmb, hr⟩ => ?_
    subst hr
    have c := c.gr gD
    refine Ok.cst c 1 rfl rfl fun E _ _ c => ?_
    refine Ok.cld c (.tail _ (.head _)) rfl (Ok.cld c (.tail _ (.head _)) rfl (Ok.cld c (.tail _ (.head _)) rfl (Ok.cld c (.tail _ (.head _)) rfl (Ok.ret ⟨c.g, .inl ⟨ho, hd, hrm, ((d.1 : Rat) + m * 1, (d.2 : Rat) + m * 1), ?_, ?_, rfl⟩⟩))))
    · exact ⟨m, hm, by rw [Rat.mul_one]⟩
    · have hh : IsHalf l d ((d.1 : Rat) + m * 1, (d.2 : Rat) + m * 1) := ⟨m, hm, by rw [Rat.mul_one]⟩
      unfold num at hd
      exact bd_of ho hd (hh.deal hrm) (step_den ⟨hd.1, hd.2.1⟩ hmb q1) (step_den ⟨hd.2.2.1, hd.2.2.2⟩ hmb q1)
  · exact Ok.pos (show (4 : Int) ≠ 0 by decide) (bad 4 (.inr (.inl ⟨ho, hd, hrm, rfl⟩)))
  · exact Ok.pos (show (2 : Int) ≠ 0 by decide) (bad 2 (.inr (.inr ⟨hno, rfl⟩)))
/-- Best -/
theorem r63_ok (hv : SL H v l) (hb : l.length ≤ 1000) : Ok (r63 (appA (k + 2)) v d.1 d.2 H) fun r H' => Gr H H' ∧ RuleP (IsBest l d) l d r := by
  unfold r63
  refine Ok.box2 (.nil H) fun A gA c => ?_
  refine Ok.cld c (.tail _ (.head _)) rfl (Ok.cld c (.tail _ (.head _)) rfl (Ok.bind (r64_ok (d := d) (hv.gr gA) hb) fun r B ⟨gB, hr⟩ => ?_))
  have c := c.gr gB
  have bad : ∀ e : Int, RuleP (IsBest l d) l d (0, 0, 0, 0, e) → Ok ((B.sts ((H.push (.cells [.int .i64 d.1, .int .i64 d.2] false)).n) 0 [.int .i64 0, .int .i64 0, .int .i64 0, .int .i64 0]).bind fun H6 =>
      (H6.ldI .i64 ((H.push (.cells [.int .i64 d.1, .int .i64 d.2] false)).n) 0).bind fun x7 =>
      (H6.ldI .i64 ((H.push (.cells [.int .i64 d.1, .int .i64 d.2] false)).n) (0 + 1)).bind fun x8 =>
      (H6.ldI .i64 ((H.push (.cells [.int .i64 d.1, .int .i64 d.2] false)).n) (0 + 2)).bind fun x9 =>
      (H6.ldI .i64 ((H.push (.cells [.int .i64 d.1, .int .i64 d.2] false)).n) (0 + 3)).bind fun x10 =>
      some ((x7, x8, x9, x10, e), H6)) fun r H' => Gr H H' ∧ RuleP (IsBest l d) l d r := fun e hR => by
    refine Ok.cst c 0 rfl rfl fun C _ _ c => ?_
    exact Ok.cld c (.head _) rfl (Ok.cld c (.head _) rfl (Ok.cld c (.head _) rfl (Ok.cld c (.head _) rfl (Ok.ret ⟨c.g, hR⟩))))
  rcases hr with ⟨ho, hd, hrm, rfl⟩ | ⟨ho, hd, hrm, rfl⟩ | ⟨hno, rfl⟩
  · have cB := c
    refine Ok.neg (by simp) (Ok.cld c (.tail _ (.head _)) rfl (Ok.cld c (.tail _ (.head _)) rfl (Ok.cld c (.tail _ (.head _)) rfl (Ok.cld c (.tail _ (.head _)) rfl ?_))))
    refine Ok.bind (r77_ok (who := 0) (.inl rfl) (hv.gr c.g) ho hd hrm) fun r C ⟨gC, a, ha, hab, hr⟩ => ?_
    subst hr
    have c := c.gr gC
    have cC := c
    refine Ok.cld c (.tail _ (.head _)) rfl (Ok.cld c (.tail _ (.head _)) rfl ?_)
    refine Ok.bind (r77_ok (who := 1) (.inr rfl) (hv.gr c.g) ho hd hrm) fun r D ⟨gD, b, hbt, hbb, hr⟩ => ?_
    subst hr
    have c := c.gr gD
    have cD := c
    have ha0 := ha.pos hrm (by decide) (by decide)
    have hb0 := hbt.pos hrm (by decide) (by decide)
    refine Ok.bind (r65_ok (u := a) (w := b) (hv.gr c.g) ho hd hrm hab hbb ha0 hb0) fun r D ⟨gD, m, hm, hmb, hr⟩ => ?_
    subst hr
    have c := c.gr gD
    refine Ok.cst c 0 rfl rfl fun E _ _ c => ?_
    refine Ok.cck cB (.tail _ (.head _)) rfl (Ok.cck cB (.tail _ (.head _)) rfl (Ok.cck cC (.tail _ (.head _)) rfl (Ok.cck cC (.tail _ (.head _)) rfl (Ok.cck cD (.tail _ (.head _)) rfl (Ok.cck cD (.tail _ (.head _)) rfl (Ok.cck cD (.tail _ (.head _)) rfl (Ok.cck cD (.tail _ (.head _)) rfl ?_)))))))
    have hh : IsBest l d ((d.1 : Rat) + m * a, (d.2 : Rat) + m * b) := ⟨a, b, m, ha, hbt, hm, rfl⟩
    refine Ok.cld c (.head _) rfl (Ok.cld c (.head _) rfl (Ok.cld c (.head _) rfl (Ok.cld c (.head _) rfl (Ok.ret ⟨c.g, .inl ⟨ho, hd, hrm, _, hh, ?_, rfl⟩⟩))))
    unfold num at hd
    exact bd_of ho hd (hh.deal hrm) (step_den ⟨hd.1, hd.2.1⟩ hmb hab) (step_den ⟨hd.2.2.1, hd.2.2.2⟩ hmb hbb)
  · exact Ok.pos (show (4 : Int) ≠ 0 by decide) (bad 4 (.inr (.inl ⟨ho, hd, hrm, rfl⟩)))
  · exact Ok.pos (show (2 : Int) ≠ 0 by decide) (bad 2 (.inr (.inr ⟨hno, rfl⟩)))
end
end Go.Lt.P5
