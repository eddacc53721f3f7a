/- PLAIN LAWS OF WHAT IS COMPUTED, for the statement 'CutsCorners'. Nothing is asked of the input. -/
import Derived.Test.YteefkljbmjjncaaU11XAp
import Derived.Test.YteefkljbmjjncaaU11XTk
import Derived.Test.YteefkljbmjjncaaLB
set_option linter.unusedVariables false
set_option linter.unusedSimpArgs false
namespace Go.Lt.P2
open Go Go.Lt Go.Proofs
theorem cornersLaw {H : Hp} {v : Sl} {p : List Sd} (hv : SL H v p) (hb : p.length < 9223372036854775808) : Ok (r11 (appA 20) v H) fun r _ => r = true := by
  unfold r11
  have l1 : (p.take 9).length ≤ 1000 := by rw [List.length_take]; omega
  refine Ok.bind (r18_ok hv hb) fun w A ⟨gA, hw⟩ => Ok.bind (r51_ok (k := 18) hw l1) fun x B ⟨gB, hx⟩ => ?_
  have g := gA.trans gB
  refine Ok.bind (r18_ok (hv.gr g) hb) fun w2 C ⟨gC, hw2⟩ => Ok.bind (r40_ok (k := 18) hw2 l1) fun y D ⟨gD, hy⟩ => ?_
  have g := (g.trans gC).trans gD
  refine Ok.bind (r19_ok (hv.gr g)) fun z E ⟨gE, hz⟩ => ?_
  subst hz
  have g := g.trans gE
  have awkt : ∀ (X : Hp), Ok ((appA 20 21 [] X).bind fun p => (p.1.asB).bind fun x => some (x, p.2)) fun r _ => r = true := fun X => Ok.ld (awk 20 _) (Ok.ld rfl (Ok.ret rfl))
  by_cases hp : plateP p
  · rw [decide_eq_true hp]
    rw [plate_eq hp, if_pos hp] at hx hy
    have h6 := hp.1.2
    have hrl : (rcs (cs p)).length ≤ 15 := Nat.le_trans (rcs_len _) (cs_len15 h6)
    refine Ok.pos rfl (Ok.bind (r53_ok (hx.1.gr (gC.trans (gD.trans gE))) (by omega)) fun q F ⟨gF, hq⟩ => ?_)
    refine Ok.bind (r54_ok (hv.gr (g.trans gF)) (by omega) hp.2.1) fun r G ⟨gG, hr⟩ => ?_
    refine Ok.bind (r52_ok (hq.gr gG) hr (by omega)) fun e I ⟨hI, he⟩ => ?_
    subst hI he
    rw [decide_eq_true rfl]
    refine Ok.pos rfl (Ok.bind (r25_ok (hv.gr ((g.trans gF).trans gG)) (by omega) hp.2.1) fun u J ⟨gJ, hu⟩ => ?_)
    have hpl := pts_len hp.2.1
    refine Ok.bind (r26_ok ((AccL.sl hy.1).gr (gE.trans (gF.trans (gG.trans gJ)))) hu (by omega)) fun e L ⟨hL, he⟩ => ?_
    subst hL he
    rw [decide_eq_true rfl]
    exact Ok.pos rfl (Ok.pos hx.2 (Ok.pos hy.2 (awkt _)))
  · rw [decide_eq_false hp]
    rw [if_neg (fun q => hp (plate_take.1 q))] at hx hy
    subst hx hy
    exact Ok.neg (by simp) (Ok.pos rfl (Ok.pos rfl (Ok.pos rfl (awkt _))))
theorem lawCall11 (H : Hp) (xs : List AV) (_ : NoOwn H) (h : RdAs H [.sl (.pair (.int .i64) (.pair (.int .i64) (.pair (.int .i64) .unit)))] xs) : ∃ H1, CallSim Try.prog 11 xs H (.bool true) H1 := by
  obtain ⟨x, _, rfl, hx, rfl⟩ := h
  obtain ⟨v, l, rfl, hv, hb⟩ := rd_sl (enc_pair enc_int (enc_pair enc_int (enc_unit enc_int))) hx
  obtain ⟨r, H1, h1, rfl⟩ := cornersLaw hv (by unfold maxLen at hb; omega)
  exact ⟨H1, sim11 (happ := appASim 20) h1⟩
end Go.Lt.P2
