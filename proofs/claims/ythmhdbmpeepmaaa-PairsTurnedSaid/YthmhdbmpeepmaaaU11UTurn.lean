/- PLAIN LAWS OF WHAT IS COMPUTED, for the statement 'PairsTurned'. Nothing is asked of the input. -/
import Derived.Test.YthmhdbmpeepmaaaU11USl
import Derived.Test.YthmhdbmpeepmaaaU11UPl
import Derived.Test.YthmhdbmpeepmaaaU11URv40
import Derived.Test.YthmhdbmpeepmaaaU11USplit
set_option linter.unusedVariables false
set_option linter.unusedSimpArgs false
namespace Go.Lt.P8
open Go Go.Lt Go.Proofs
/-- Turn -/
theorem r41_ok {s : Int} {row : List Int} {H : Hp} {v : Sl} (hv : SL H v row) (hb : row.length ≤ 1000) : Ok (r41 s v H) fun r H' => Gr H H' ∧ if placesF s row = none then r = (nilS, 2) else r.2 = 0 ∧ SL H' r.1 row.reverse := by
  unfold r41
  obtain ⟨w, ok, H1, e1, g1, h1⟩ := r81_spec (s := s) hv.is (by omega)
  refine Ok.ld e1 ?_
  cases hp : placesF s row with
  | none =>
    rw [hp] at h1
    rw [h1.2]
    exact Ok.neg (by simp) (Ok.ret ⟨g1, by simp; rfl⟩)
  | some l =>
    rw [hp] at h1
    rw [h1.1]
    obtain ⟨_, p2, p3, p4, p5, p6⟩ := placesF_some hp
    have h0 : row ≠ [] := fun e => by rw [e] at p2; simp at p2
    refine Ok.pos rfl ?_
    obtain ⟨w2, H2, e2, g2, i2, n2, b2⟩ := r36_is (hv.gr g1).is (by omega)
    obtain ⟨b1, b2, b3, b4⟩ := b2 (hv.nonnil h0)
    refine Ok.ld e2 ?_
    obtain ⟨H3, e3, g3, h3⟩ := r40_spec (Hb := H1) (v := w2) i2.ints.len b4 (by omega) h0 b1 g2 b3
    refine Ok.ld e3 (Ok.ret ⟨g1.trans g3, ?_⟩)
    rw [if_neg (by simp)]
    refine ⟨rfl, .of_get (by rw [encs_ints]; exact h3) b4 (by rw [i2.ints.len]; simp) i2.cap i2.opn (by rw [n2]; exact hv.nonnil h0)⟩
end Go.Lt.P8
