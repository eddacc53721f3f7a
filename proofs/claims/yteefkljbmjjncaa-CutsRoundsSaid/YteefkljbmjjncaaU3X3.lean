/- PLAIN LAWS OF WHAT IS COMPUTED, for the statement 'CutsRounds'. Nothing is asked of the input. -/
import Derived.Test.YteefkljbmjjncaaU3XTk
import Derived.Test.YteefkljbmjjncaaLB
set_option linter.unusedVariables false
set_option linter.unusedSimpArgs false
namespace Go.Lt.P2
open Go Go.Lt Go.Proofs
theorem roundsLaw {H : Hp} {v : Sl} {p : List Sd} (hv : SL H v p) (hb : p.length < 9223372036854775808) (x : Pa) : Ok (r3 (appA 20) v x.1.1 x.1.2 x.2.1 x.2.2 H) fun r _ => r = true := by
  unfold r3
  have l1 : (p.take 9).length ≤ 1000 := by rw [List.length_take]; omega
  have awkt : ∀ (X : Hp), Ok ((appA 20 21 [] X).bind fun p => (p.1.asB).bind fun x => some (x, p.2)) fun r _ => r = true := fun X => Ok.ld (awk 20 _) (Ok.ld rfl (Ok.ret rfl))
  refine Ok.box (.nil H) fun A gA c => Ok.bind (r18_ok (hv.gr gA) hb) fun w B ⟨gB, hw⟩ => ?_
  have c0 := c
  have c := c.gr gB
  refine Ok.cld c (.head _) rfl (Ok.cld c (.head _) rfl (Ok.cld c (.head _) rfl (Ok.cld c (.head _) rfl (Ok.bind (r17_ok (k := 16) (x := x) hw l1) fun y C ⟨gC, hy1, hy2⟩ => ?_))))
  have c := c.gr gC
  refine Ok.cck c0 (.head _) rfl (Ok.cck c0 (.head _) rfl (Ok.cck c0 (.head _) rfl (Ok.cck c0 (.head _) rfl (Ok.bind (r19_ok (hv.gr c.g)) fun z D ⟨gD, hz⟩ => ?_))))
  subst hz
  have c := c.gr gD
  have bad : ¬ (plateP p ∧ ptP x) → Ok (r3_j0 (appA 20) v H.n y.1 y.2 true D) fun r _ => r = true := fun hn => by
    have e := hy2 fun q => hn ⟨plate_take.1 q.1, q.2⟩
    subst e
    unfold r3_j0
    exact Ok.pos rfl (Ok.neg (by simp) (Ok.pos rfl (awkt _)))
  by_cases hp : plateP p
  case neg =>
    rw [decide_eq_false hp]
    exact Ok.neg (by simp) (bad fun q => hp q.1)
  rw [decide_eq_true hp]
  refine Ok.pos rfl (Ok.cld c (.head _) rfl (Ok.cld c (.head _) rfl (Ok.cld c (.head _) rfl (Ok.cld c (.head _) rfl (Ok.own r20_ok fun _ => ?_)))))
  by_cases hx : ptP x
  case neg =>
    rw [decide_eq_false hx]
    exact bad fun q => hx q.2
  rw [decide_eq_true hx]
  rw [plate_eq hp] at hy1
  have hy := hy1 ⟨hp, hx⟩
  have h6 := hp.1.2
  have hl : (rcs (cs p)).length ≤ 1000 := by
    have a := rcs_len (cs p)
    have b := cs_tri p p.length
    have d : (cs p).length ≤ tri p.length := b
    have e : tri p.length ≤ 15 := by
      rcases (show p.length = 0 ∨ p.length = 1 ∨ p.length = 2 ∨ p.length = 3 ∨ p.length = 4 ∨ p.length = 5 ∨ p.length = 6 by omega) with h | h | h | h | h | h | h <;> rw [h] <;> decide
    omega
  unfold r3_j0
  refine Ok.neg (by simp) (Ok.cld c (.head _) rfl (Ok.cld c (.head _) rfl (Ok.cld c (.head _) rfl (Ok.cld c (.head _) rfl (Ok.bind (r22_ok (x := x) (hv.gr c.g) (by omega) hp.2.1 hl hx) fun r E hr => ?_)))))
  have e : y.1 = r := Bool.eq_iff_iff.2 (by rw [hy.1, hr, round_iff hp])
  exact Ok.pos (by rw [e]; simp) (Ok.pos hy.2 (awkt _))
theorem lawCall3 (H : Hp) (xs : List AV) (_ : NoOwn H) (h : RdAs H [.sl (.pair (.int .i64) (.pair (.int .i64) (.pair (.int .i64) .unit))), .pair (.pair (.int .i64) (.pair (.int .i64) .unit)) (.pair (.pair (.int .i64) (.pair (.int .i64) .unit)) .unit)] xs) : ∃ H1, CallSim Try.prog 3 xs H (.bool true) H1 := by
  obtain ⟨x, _, rfl, hx, y, _, rfl, hy, rfl⟩ := h
  obtain ⟨v, l, rfl, hv, hb⟩ := rd_sl (enc_pair enc_int (enc_pair enc_int (enc_unit enc_int))) hx
  obtain ⟨zs, rfl, hz⟩ : ∃ zs, y = .agg zs ∧ Rd H (.pair (.pair (.int .i64) (.pair (.int .i64) .unit)) (.pair (.pair (.int .i64) (.pair (.int .i64) .unit)) .unit)) zs := hy
  obtain ⟨⟨⟨a, b⟩, c, d⟩, rfl⟩ := (enc_pair (enc_pair enc_int (enc_unit enc_int)) (enc_unit (enc_pair enc_int (enc_unit enc_int)))).2 H zs hz
  obtain ⟨r, H1, h1, rfl⟩ := roundsLaw hv (by unfold maxLen at hb; omega) ((a, b), (c, d))
  exact ⟨H1, sim3 (happ := appASim 20) h1⟩
end Go.Lt.P2
