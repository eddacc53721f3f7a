/- PLAIN LAWS OF WHAT IS COMPUTED, for the statement 'PairsSpread'. Nothing is asked of the input. -/
import Derived.Test.YthmhdbmpeepmaaaU12USl
import Derived.Test.YthmhdbmpeepmaaaU12UCmp0
import Derived.Test.YthmhdbmpeepmaaaU12UCmpL
set_option linter.unusedVariables false
set_option linter.unusedSimpArgs false
namespace Go.Lt.P8
open Go Go.Lt Go.Proofs
/-- slices.Compare of numbers -/
theorem r50_ok {H : Hp} {v w : Sl} {l l' : List Int} (hv : SL H v l) (hw : SL H w l') (hb : l.length < 4611686018427387904) : Ok (r50 v w H) fun c H' => H' = H ∧ c = cmpL l l' := by
  unfold r50
  have h1 := hv.len
  have h2 := hw.len
  rw [h1]
  refine Ok.loop (L := fun K (s : Int) H2 => r50_l0 K v w v l.length s H2) (fun m s H' => H' = H ∧ ∃ i : Nat, s = i ∧ i + m = l.length ∧ i ≤ l'.length ∧ cmpL l l' = cmpL (l.drop i) (l'.drop i)) ?_ FUEL l.length 0 H (by unfold FUEL; omega) ⟨rfl, 0, rfl, by omega, by omega, rfl⟩
  rintro K m s H1 ⟨rfl, i, rfl, hm, hi, hc⟩ ih
  try dsimp only at *
  rw [r50_l0]
  by_cases h : i < l.length
  · refine Ok.pos (by omega) (Ok.ck (by omega) (Ok.ld (hv.ldI (i := i) (j := 0) h rfl) ?_))
    rw [List.drop_eq_getElem_cons h] at hc
    by_cases h' : i < l'.length
    · rw [List.drop_eq_getElem_cons h', cmpL] at hc
      refine Ok.neg (by omega) (Ok.ck (by omega) (Ok.ld (hw.ldI (i := i) (j := 0) h' rfl) (Ok.ld (r87_eq _ _ _) ?_)))
      dsimp only
      by_cases c1 : l[i] < l'[i]
      · rw [if_pos c1] at hc ⊢
        exact Ok.pos (by decide) (Ok.ret ⟨rfl, hc.symm⟩)
      · rw [if_neg c1] at hc ⊢
        by_cases c2 : l'[i] < l[i]
        · rw [if_pos c2] at hc ⊢
          exact Ok.pos (by decide) (Ok.ret ⟨rfl, hc.symm⟩)
        · rw [if_neg c2] at hc ⊢
          refine Ok.neg (by decide) ?_
          rw [w64_succ (by omega)]
          exact ih (m - 1) _ _ (by omega) ⟨rfl, i + 1, rfl, by omega, by omega, hc⟩
    · rw [List.drop_eq_nil_of_le (show l'.length ≤ i by omega), cmpL] at hc
      exact Ok.pos (by omega) (Ok.ret ⟨rfl, hc.symm⟩)
  · refine Ok.neg (by omega) ?_
    rw [List.drop_eq_nil_of_le (show l.length ≤ i by omega)] at hc
    by_cases h' : i < l'.length
    · rw [List.drop_eq_getElem_cons h', cmpL] at hc
      exact Ok.pos (by omega) (Ok.ret ⟨rfl, hc.symm⟩)
    · rw [List.drop_eq_nil_of_le (show l'.length ≤ i by omega), cmpL] at hc
      exact Ok.neg (by omega) (Ok.ret ⟨rfl, hc.symm⟩)
end Go.Lt.P8
