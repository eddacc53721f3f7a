/- PLAIN LAWS OF WHAT IS COMPUTED, for the statement 'PairsSpread'. Nothing is asked of the input. -/
import Derived.Test.YthmhdbmpeepmaaaU12UThI
set_option linter.unusedVariables false
set_option linter.unusedSimpArgs false
namespace Go.Lt.P8
open Go Go.Lt Go.Proofs
/-- IsThrees -/
theorem r53_ok {k : Nat} {n : Int} {H : Hp} {w : Sl} {l : List Tr} (hw : SL H w l) (hb : l.length ≤ 1000) : Ok (r53 (app (k + 1)) n w H) fun r H' => Gr H H' ∧ r = if 3 ≤ n ∧ n ≤ 9 then (areF n.toNat l, 0) else (false, 2) := by
  unfold r53
  have h88 : r88 n H = some (decide (3 ≤ n ∧ n ≤ 9), H) := by
    unfold r88
    by_cases h1 : 3 ≤ n <;> simp [h1]
  refine Ok.ld h88 ?_
  by_cases hn : 3 ≤ n ∧ n ≤ 9
  · rw [decide_eq_true hn, if_pos hn]
    obtain ⟨n, rfl⟩ : ∃ m : Nat, n = m := ⟨n.toNat, by omega⟩
    refine Ok.pos rfl (Ok.bind (r89_ok (by omega) hw hb) fun b H2 ⟨g2, hb2⟩ => Ok.ret ⟨g2, by rw [hb2]; rfl⟩)
  · rw [decide_eq_false hn, if_neg hn]
    exact Ok.neg (by simp) (Ok.ret ⟨.refl _, rfl⟩)
end Go.Lt.P8
