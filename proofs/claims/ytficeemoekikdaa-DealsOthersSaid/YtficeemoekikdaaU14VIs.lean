/- PLAIN LAWS OF WHAT IS COMPUTED, for the statement 'DealsOthers'. Nothing is asked of the input. -/
import Derived.Test.YtficeemoekikdaaU14VRu
import Derived.Test.YtficeemoekikdaaU14VSa
set_option linter.unusedVariables false
set_option linter.unusedSimpArgs false
namespace Go.Lt.P5
open Go Go.Lt Go.Proofs
theorem fr_fq {q : Rat} : fr (fq q) ↔ (fq q).2 ≤ 1000000 ∧ 0 ≤ (fq q).1 ∧ (fq q).1 ≤ 30 * (fq q).2 := by
  have h1 := fq_pos q
  have h2 := fq_gcd q
  unfold fr
  constructor
  · rintro ⟨_, b, c, d, _⟩; exact ⟨b, c, d⟩
  · rintro ⟨b, c, d⟩
    refine ⟨by omega, b, c, d, ?_⟩
    rw [show (fq q).1.toNat = (fq q).1.natAbs by omega, show (fq q).2.toNat = (fq q).2.natAbs by omega]
    exact h2
/-- Is, of a point in lowest terms -/
theorem r23_reg {k : Nat} {H : Hp} {v : Sl} {l : List Pr} {p : Rat × Rat} (hv : SL H v l) (ho : offP l) : Ok (r23 (appA (k + 2)) v (fq p.1).1 (fq p.1).2 (fq p.2).1 (fq p.2).2 H) fun r H' => Gr H H' ∧ ((fr (fq p.1) ∧ fr (fq p.2) ∧ ((r = (true, 0) ∧ reg l p.1 p.2) ∨ (r = (false, 0) ∧ ¬ reg l p.1 p.2))) ∨ (¬ (fr (fq p.1) ∧ fr (fq p.2)) ∧ r = (false, 2))) := by
  have h8 := ho.2.1
  refine Ok.mono (r23_ok (k := k) hv (by omega) (fq p.1).1 (fq p.1).2 (fq p.2).1 (fq p.2).2) fun r H' ⟨g, h⟩ => ⟨g, ?_⟩
  by_cases hf : fr (fq p.1) ∧ fr (fq p.2)
  · rw [if_pos ⟨ho, hf⟩] at h
    obtain ⟨q, hp, hs, rfl⟩ := h
    refine .inl ⟨hf.1, hf.2, ?_⟩
    have e : (∀ t ∈ linesF (chainF q).reverse, sat t ((fq p.1).1, (fq p.1).2) ((fq p.2).1, (fq p.2).2)) ↔ reg l p.1 p.2 := by
      rw [← lines_reg hp hs (perm_ne ho hp)]
      exact forall_congr' fun t => imp_congr_right fun _ => sat_fq
    by_cases hr : reg l p.1 p.2
    · exact .inl ⟨by rw [decide_eq_true (e.2 hr)], hr⟩
    · exact .inr ⟨by rw [decide_eq_false (fun q => hr (e.1 q))], hr⟩
  · rw [if_neg (fun q => hf q.2)] at h
    exact .inr ⟨hf, h⟩
end Go.Lt.P5
