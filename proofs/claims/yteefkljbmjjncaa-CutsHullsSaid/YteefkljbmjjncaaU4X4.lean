/- PLAIN LAWS OF WHAT IS COMPUTED, for the statement 'CutsHulls'. Nothing is asked of the input. -/
import Derived.Test.YteefkljbmjjncaaU4XOf
import Derived.Test.YteefkljbmjjncaaU4XTk
import Derived.Test.YteefkljbmjjncaaLB
set_option linter.unusedVariables false
set_option linter.unusedSimpArgs false
namespace Go.Lt.P2
open Go Go.Lt Go.Proofs
theorem hul_bd {l : List Pr} : (hulQ l).2.length ≤ 2 * l.length := by
  unfold hulQ
  split
  · simp
  · split
    · dsimp only; omega
    · unfold hul
      have a := chn_len l
      have b := chn_len l.reverse
      rw [List.length_reverse] at b
      simp only [List.length_append, List.length_dropLast]
      omega
theorem hullsLaw {H : Hp} {v : Sl} {p : List Sd} (hv : SL H v p) (hb : p.length < 9223372036854775808) : Ok (r4 (appA 20) v H) fun r _ => r = true := by
  unfold r4
  have l1 : (p.take 9).length ≤ 1000 := by rw [List.length_take]; omega
  refine Ok.bind (r18_ok hv hb) fun w A ⟨gA, hw⟩ => Ok.bind (r23_ok (k := 18) hw l1) fun x B ⟨gB, hx⟩ => ?_
  have gHB := gA.trans gB
  refine Ok.bind (r19_ok (hv.gr gHB)) fun z C ⟨gC, hz⟩ => ?_
  subst hz
  by_cases hp : plateP p
  · rw [decide_eq_true hp]
    rw [plate_eq hp, if_pos hp] at hx
    have h6 := hp.1.2
    refine Ok.pos rfl (Ok.bind (r25_ok (hv.gr (gHB.trans gC)) (by omega) hp.2.1) fun u D ⟨gD, hu⟩ => ?_)
    have hpl := pts_len hp.2.1
    refine Ok.bind (r24_ok hu (by omega) (pts_near hp.2.1)) fun y E ⟨gE, hy1, hy2⟩ => ?_
    have e : hulR (pts p) = hulQ (pts p) := rfl
    rw [e] at hx
    have hbd := hul_bd (l := pts p)
    refine Ok.bind (r26_ok (hx.1.gr (gC.trans (gD.trans gE))) hy1 (by omega)) fun q F ⟨hF, hq⟩ => ?_
    subst hF hq
    rw [decide_eq_true rfl]
    refine Ok.pos rfl (Ok.pos (by rw [hx.2, hy2]) (Ok.ld (awk 20 _) (Ok.ld rfl (Ok.ret rfl))))
  · rw [decide_eq_false hp]
    rw [if_neg (fun q => hp (plate_take.1 q))] at hx
    subst hx
    exact Ok.neg (by simp) (Ok.pos rfl (Ok.pos rfl (Ok.ld (awk 20 _) (Ok.ld rfl (Ok.ret rfl)))))
theorem lawCall4 (H : Hp) (xs : List AV) (_ : NoOwn H) (h : RdAs H [.sl (.pair (.int .i64) (.pair (.int .i64) (.pair (.int .i64) .unit)))] xs) : ∃ H1, CallSim Try.prog 4 xs H (.bool true) H1 := by
  obtain ⟨x, _, rfl, hx, rfl⟩ := h
  obtain ⟨v, l, rfl, hv, hb⟩ := rd_sl (enc_pair enc_int (enc_pair enc_int (enc_unit enc_int))) hx
  obtain ⟨r, H1, h1, rfl⟩ := hullsLaw hv (by unfold maxLen at hb; omega)
  exact ⟨H1, sim4 (happ := appASim 20) h1⟩
end Go.Lt.P2
