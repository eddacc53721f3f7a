/- PLAIN LAWS OF WHAT IS COMPUTED, for the statement 'DealsIs'. Nothing is asked of the input. -/
import Derived.Test.YtficeemoekikdaaU5VPl
import Derived.Test.YtficeemoekikdaaLB
set_option linter.unusedVariables false
set_option linter.unusedSimpArgs false
namespace Go.Lt.P5
open Go Go.Lt Go.Proofs
theorem awakeB (k : Nat) (H : Hp) : appA k 19 [] H = some (.bool true, H) := rfl
/-- Of -/
theorem r25_ok (a b c d : Int) (H : Hp) : Ok (r25 a b c d H) fun r H' => Gr H H' ∧ r = (a, b, c, d) := by
  unfold r25
  have gp := Gr.push H (.cells [.int .i64 a, .int .i64 b, .int .i64 c, .int .i64 d] false)
  have g0 : (H.push (.cells [.int .i64 a, .int .i64 b, .int .i64 c, .int .i64 d] false)).get H.n = some (.cells [.int .i64 a, .int .i64 b, .int .i64 c, .int .i64 d] false) := Hp.get_push_new _ _
  generalize H.push (.cells [.int .i64 a, .int .i64 b, .int .i64 c, .int .i64 d] false) = A at *
  have gq := Gr.push A (.cells [.int .i64 0, .int .i64 0, .int .i64 0, .int .i64 0] false)
  have b0 : (A.push (.cells [.int .i64 0, .int .i64 0, .int .i64 0, .int .i64 0] false)).get H.n = some (.cells [.int .i64 a, .int .i64 b, .int .i64 c, .int .i64 d] false) := by rw [gq.2 _ (Hp.get_lt g0)]; exact g0
  obtain ⟨D, h1, h2, h3, h4⟩ := sts_blk [.int .i64 a, .int .i64 b, .int .i64 c, .int .i64 d] 0 (A.push (.cells [.int .i64 0, .int .i64 0, .int .i64 0, .int .i64 0] false)) [.int .i64 0, .int .i64 0, .int .i64 0, .int .i64 0] (Hp.get_push_new _ _) (by simp)
  refine Ok.lt (Ok.ld (ldI_get b0 rfl) (Ok.ld (ldI_get b0 rfl) (Ok.ld (ldI_get b0 rfl) (Ok.ld (ldI_get b0 rfl) (Ok.ld h1 (Ok.ld (ldI_get h2 rfl) (Ok.ld (ldI_get h2 rfl) (Ok.ld (ldI_get h2 rfl) (Ok.ld (ldI_get h2 rfl) (Ok.ret ⟨gp.trans ⟨?_, fun q hq => ?_⟩, rfl⟩))))))))))
  · rw [h3]; simp
  · rw [h4 q (by omega), Hp.get_push_old _ _ hq]
theorem isLaw {H : Hp} {v : Sl} {l : List Pr} (hv : SL H v l) (hb : l.length < 9223372036854775808) (a b c d : Int) : Ok (r5 (appA 20) v a b c d H) fun r _ => r = true := by
  unfold r5
  have ht : (l.take 11).length ≤ 1000 := by rw [List.length_take]; omega
  have gp := Gr.push H (.cells [.int .i64 a, .int .i64 b, .int .i64 c, .int .i64 d] false)
  have g0 : (H.push (.cells [.int .i64 a, .int .i64 b, .int .i64 c, .int .i64 d] false)).get H.n = some (.cells [.int .i64 a, .int .i64 b, .int .i64 c, .int .i64 d] false) := Hp.get_push_new _ _
  generalize H.push (.cells [.int .i64 a, .int .i64 b, .int .i64 c, .int .i64 d] false) = A at *
  refine Ok.lt (Ok.bind (r24_ok (hv.gr gp) hb) fun w B ⟨gB, hw, _⟩ => ?_)
  have b0 : B.get H.n = some (.cells [.int .i64 a, .int .i64 b, .int .i64 c, .int .i64 d] false) := by rw [gB.2 _ (Hp.get_lt g0)]; exact g0
  refine Ok.ld (ldI_get b0 rfl) (Ok.ld (ldI_get b0 rfl) (Ok.ld (ldI_get b0 rfl) (Ok.ld (ldI_get b0 rfl) (Ok.bind (r25_ok a b c d B) fun r C ⟨gC, hr⟩ => ?_))))
  subst hr
  refine Ok.bind (r23_ok (k := 18) (hw.gr gC) ht a b c d) fun p D ⟨gD, hp⟩ => ?_
  refine Ok.ck (ldI_get g0 rfl) (Ok.ck (ldI_get g0 rfl) (Ok.ck (ldI_get g0 rfl) (Ok.ck (ldI_get g0 rfl) ?_)))
  have gX := gB.trans (gC.trans gD)
  refine Ok.bind (r26_ok (hv.gr (gp.trans gX)) hb) fun o E ⟨gE, ho⟩ => ?_
  subst ho
  have bad : ∀ F, ¬ (offP l ∧ fr (a, b) ∧ fr (c, d)) → Ok (r5_j0 (appA 20) v H.n p.1 p.2 true F) fun r _ => r = true := fun F hno => by
    rw [if_neg (fun c => hno ⟨(off11 l).1 c.1, c.2⟩)] at hp
    subst hp
    unfold r5_j0
    exact Ok.pos rfl (Ok.neg (by simp) (Ok.pos rfl (Ok.ld (awakeB 20 _) (Ok.ld rfl (Ok.ret rfl)))))
  by_cases ho : offP l
  · rw [decide_eq_true ho]
    have hl8 := ho.2.1
    have hl1 := ho.1
    rw [List.take_of_length_le (by omega)] at hp
    have gY := gX.trans gE
    have e0 : E.get H.n = some (.cells [.int .i64 a, .int .i64 b, .int .i64 c, .int .i64 d] false) := by rw [gY.2 _ (Hp.get_lt g0)]; exact g0
    refine Ok.pos rfl (Ok.ld (ldI_get e0 rfl) (Ok.ld (ldI_get e0 rfl) (Ok.ld (ldI_get e0 rfl) (Ok.ld (ldI_get e0 rfl) (Ok.bind (r27_ok a b c d E) fun r F ⟨gF, hr⟩ => ?_)))))
    subst hr
    by_cases hf : fr (a, b) ∧ fr (c, d)
    · rw [decide_eq_true hf]
      rw [if_pos ⟨ho, hf⟩] at hp
      obtain ⟨q, hperm, hlex, hp⟩ := hp
      subst hp
      have f0 : F.get H.n = some (.cells [.int .i64 a, .int .i64 b, .int .i64 c, .int .i64 d] false) := by rw [gF.2 _ (Hp.get_lt e0)]; exact e0
      have hpl := hperm.length_eq
      have hne : q ≠ [] := by intro e; rw [e] at hpl; simp at hpl; omega
      unfold r5_j0
      refine Ok.neg (by simp) (Ok.ld (ldI_get f0 rfl) (Ok.ld (ldI_get f0 rfl) (Ok.ld (ldI_get f0 rfl) (Ok.ld (ldI_get f0 rfl) (Ok.bind (r28_ok (hv.gr (gp.trans (gY.trans gF))) ho hf.1 hf.2) fun z G ⟨gG, hz⟩ => ?_)))))
      subst hz
      have := plainIs hperm hlex hne hf.1 hf.2
      refine Ok.pos ?_ (Ok.pos rfl (Ok.ld (awakeB 20 _) (Ok.ld rfl (Ok.ret rfl))))
      rw [beq_iff_eq]
      exact decide_eq_decide.2 this
    · rw [decide_eq_false hf]
      exact bad _ (fun c => hf c.2)
  · rw [decide_eq_false ho]
    exact Ok.neg (by simp) (bad _ (fun c => ho c.1))
theorem lawCall5 (H : Hp) (xs : List AV) (_ : NoOwn H) (h : RdAs H [.sl (.rep 2 (.int .i64)), .pair (.pair (.int .i64) (.pair (.int .i64) .unit)) (.pair (.pair (.int .i64) (.pair (.int .i64) .unit)) .unit)] xs) : ∃ H1, CallSim Try.prog 5 xs H (.bool true) H1 := by
  obtain ⟨x, _, rfl, hx, y, _, rfl, hy, rfl⟩ := h
  obtain ⟨v, l, rfl, hv, hb⟩ := rd_sl (enc_rep2 enc_int) hx
  obtain ⟨ys, rfl, hy⟩ : ∃ ys, y = .agg ys ∧ Rd H (.pair (.pair (.int .i64) (.pair (.int .i64) .unit)) (.pair (.pair (.int .i64) (.pair (.int .i64) .unit)) .unit)) ys := hy
  obtain ⟨⟨⟨a, b⟩, c, d⟩, rfl⟩ := (enc_pair (enc_pair enc_int (enc_unit enc_int)) (enc_unit (enc_pair enc_int (enc_unit enc_int)))).2 H ys hy
  obtain ⟨r, H1, h1, rfl⟩ := isLaw hv (by unfold maxLen at hb; omega) a b c d
  exact ⟨H1, sim5 (happ := appASim 20) h1⟩
end Go.Lt.P5
