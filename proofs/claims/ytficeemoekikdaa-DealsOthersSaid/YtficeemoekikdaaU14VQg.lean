/- PLAIN LAWS OF WHAT IS COMPUTED, for the statement 'DealsOthers'. Nothing is asked of the input. -/
import Derived.Test.YtficeemoekikdaaU14VPo
set_option linter.unusedVariables false
set_option linter.unusedSimpArgs false
namespace Go.Lt.P5
open Go Go.Lt Go.Proofs
theorem qp_bd {l : List Pr} {d : Pr} {p : Rat × Rat} (ho : offP l) (hd : num d) (h : IsProd l d p) (hq : qp p) : bdP p := by
  have h1 := hq.1.2.2
  have h2 := hq.2.2.2
  exact bd_of ho hd ⟨h.reg, h.x, h.y⟩ (by omega) (by omega)
section
variable {k : Nat} {H : Hp} {v : Sl} {l : List Pr} {d : Pr}
/-- Product -/
theorem r46_ok (hv : SL H v l) (hb : l.length ≤ 1000) : Ok (r46 (appA (k + 3)) v d.1 d.2 H) fun r H' => Gr H H' ∧ RuleP (fun p => IsProd l d p ∧ (fq p.1).2 ≤ 60 ∧ (fq p.2).2 ≤ 60) l d r := by
  unfold r46
  refine Ok.box2 (.nil H) fun A gA c => ?_
  refine Ok.cld c (.tail _ (.head _)) rfl (Ok.cld c (.tail _ (.head _)) rfl (Ok.bind (r64_ok (k := k + 1) (d := d) (hv.gr gA) hb) fun r B ⟨gB, hr⟩ => ?_))
  have c := c.gr gB
  have bad : ∀ e : Int, RuleP (fun p => IsProd l d p ∧ (fq p.1).2 ≤ 60 ∧ (fq p.2).2 ≤ 60) l d (0, 0, 0, 0, e) → Ok ((B.sts ((H.push (.cells [.int .i64 d.1, .int .i64 d.2] false)).n) 0 [.int .i64 0, .int .i64 0, .int .i64 0, .int .i64 0]).bind fun H6 =>
      (H6.ldI .i64 ((H.push (.cells [.int .i64 d.1, .int .i64 d.2] false)).n) 0).bind fun x7 =>
      (H6.ldI .i64 ((H.push (.cells [.int .i64 d.1, .int .i64 d.2] false)).n) (0 + 1)).bind fun x8 =>
      (H6.ldI .i64 ((H.push (.cells [.int .i64 d.1, .int .i64 d.2] false)).n) (0 + 2)).bind fun x9 =>
      (H6.ldI .i64 ((H.push (.cells [.int .i64 d.1, .int .i64 d.2] false)).n) (0 + 3)).bind fun x10 =>
      some ((x7, x8, x9, x10, e), H6)) fun r H' => Gr H H' ∧ RuleP (fun p => IsProd l d p ∧ (fq p.1).2 ≤ 60 ∧ (fq p.2).2 ≤ 60) l d r := fun e hR => by
    refine Ok.cst c 0 rfl rfl fun C _ _ c => ?_
    exact Ok.cld c (.head _) rfl (Ok.cld c (.head _) rfl (Ok.cld c (.head _) rfl (Ok.cld c (.head _) rfl (Ok.ret ⟨c.g, hR⟩))))
  rcases hr with ⟨ho, hd, hrm, rfl⟩ | ⟨ho, hd, hrm, rfl⟩ | ⟨hno, rfl⟩
  · refine Ok.neg (by simp) (Ok.bind (r56_ok (k := k + 1) (hv.gr c.g) ho) fun w C ⟨gC, q, hp, hs, hw⟩ => ?_)
    have hE := edgeP ho hp hs
    have c := c.gr gC
    have hwlt := SL.lt hw (by have := hE.pos; intro e; rw [e] at this; simp at this)
    refine Ok.box c fun D gD c => Ok.own (r48_int (a := -1) (by decide) H0) fun X => Ok.alo c fun E gE c => ?_
    dsimp only
    rw [hw.len]
    have hlr := fun x y => lines_reg (x := x) (y := y) hp hs (perm_ne ho hp)
    refine Ok.mono (r46_l0_ok (k := k) hv ho hd hrm hp hs rfl hE (hw.gr (gD.trans gE)) (by have := gD.1; omega) (by omega) c) fun r H' ⟨g, o, g', h1, h2⟩ => ⟨g, ?_⟩
    obtain ⟨p, h3, h4, h5, _⟩ := prod_ok ho hE hd hlr hrm
    rw [h3] at h1
    injection h1 with h1 h6
    exact .inl ⟨ho, hd, hrm, p, ⟨h4, h5.1.2.2, h5.2.2.2⟩, qp_bd ho hd h4 h5, h2 p h1.symm⟩
  · exact Ok.pos (show (4 : Int) ≠ 0 by decide) (bad 4 (.inr (.inl ⟨ho, hd, hrm, rfl⟩)))
  · exact Ok.pos (show (2 : Int) ≠ 0 by decide) (bad 2 (.inr (.inr ⟨hno, rfl⟩)))
end
end Go.Lt.P5
