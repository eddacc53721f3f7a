/- PLAIN LAWS OF WHAT IS COMPUTED, for the statement 'CutsCuts'. Nothing is asked of the input. -/
import Derived.Test.YteefkljbmjjncaaU5WRc
set_option linter.unusedVariables false
set_option linter.unusedSimpArgs false
namespace Go.Lt.P2
open Go.Lt
theorem PI.one {L T : Int} {i : Nat} {s : Pr} (hL : 0 < L) (h : PI L T i s) : (s.2 = 1 ↔ Int.tmod T L = 0) ∧ (s.2 = 1 → s.1 = Int.tdiv T L) ∧ (s.1 = 0 ↔ T = 0) := by
  have v := h.val
  have hp := h.pos
  refine ⟨⟨fun e => ?_, fun e => ?_⟩, fun e => ?_, fun e => ?_, fun e => ?_⟩
  · rw [e, Int.mul_one] at v
    rw [← v]
    exact Int.mul_tmod_left _ _
  · have e2 := Int.mul_tdiv_add_tmod T L
    rw [e, Int.add_zero] at e2
    generalize Int.tdiv T L = u at *
    have e3 : s.1 = u * s.2 := by
      refine Int.eq_of_mul_eq_mul_right (show L ≠ 0 by omega) ?_
      rw [v, ← e2]
      grind
    have hc := h.cop
    rw [e3, Int.natAbs_mul, Nat.gcd_mul_left_left] at hc
    omega
  · rw [e, Int.mul_one] at v
    rw [← v, Int.mul_tdiv_cancel _ (by omega)]
  · rw [e, Int.zero_mul] at v
    exact (Int.mul_eq_zero.1 v.symm).resolve_right (by omega)
  · rw [e, Int.zero_mul] at v
    exact (Int.mul_eq_zero.1 v).resolve_right (by omega)
theorem cut_same {L T0 T1 T2 : Int} {i : Nat} {s0 s1 s2 : Pr} (hL : 0 < L) (h0 : PI L T0 i s0) (h1 : PI L T1 i s1) (h2 : PI L T2 i s2) {r : Int × Int × Int × Bool} {t : Int × Int × Int × Int} (hr : CutR s0 s1 s2 r) (ht : RefR L T0 T1 T2 t) : t = (r.1, r.2.1, r.2.2.1, if r.2.2.2 = true then 0 else 4) ∧ (r.2.2.2 = false → r = (0, 0, 0, false)) := by
  obtain ⟨a1, a2, a3⟩ := h0.one hL
  obtain ⟨b1, b2, b3⟩ := h1.one hL
  unfold CutR at hr
  unfold RefR at ht
  by_cases c : s0.2 ≠ 1 ∨ s1.2 ≠ 1 ∨ (s0.1 = 0 ∧ s1.1 = 0)
  · rw [if_pos c] at hr
    rw [if_pos] at ht
    · subst hr; subst ht
      exact ⟨rfl, fun _ => rfl⟩
    · rcases c with c | c | c
      · exact .inl fun e => c (a1.2 e)
      · exact .inr (.inl fun e => c (b1.2 e))
      · exact .inr (.inr ⟨a3.1 c.1, b3.1 c.2⟩)
  · rw [if_neg c] at hr
    have c0 : s0.2 = 1 := Classical.not_not.1 fun h => c (.inl h)
    have c1 : s1.2 = 1 := Classical.not_not.1 fun h => c (.inr (.inl h))
    rw [if_neg] at ht
    · obtain ⟨f, hf, rfl⟩ := hr
      obtain ⟨n, d, g, hred, hg, rfl⟩ := ht
      obtain ⟨q1, q2, q3, q4, q5⟩ := hred
      have hu := red_uniq (n := n) (d := d) (n' := s2.1) (d' := s2.2) q1 h2.pos q3 h2.cop (by
        refine Int.eq_of_mul_eq_mul_right (show L ≠ 0 by omega) ?_
        have v := h2.val
        have e1 : n * s2.2 * L = n * L * s2.2 := by grind
        have e2 : s2.1 * d * L = s2.1 * L * d := by grind
        rw [e1, e2, q4, v]
        grind)
      obtain ⟨e1, e2⟩ := hu
      subst e1; subst e2
      have := Fl.uniq q1 hf hg
      subst this
      refine ⟨?_, fun h => by simp at h⟩
      rw [← a2 c0, ← b2 c1]
      rfl
    · rintro (h | h | h)
      · exact h (a1.1 c0)
      · exact h (b1.1 c1)
      · exact c (.inr (.inr ⟨a3.2 h.1, b3.2 h.2⟩))
end Go.Lt.P2
