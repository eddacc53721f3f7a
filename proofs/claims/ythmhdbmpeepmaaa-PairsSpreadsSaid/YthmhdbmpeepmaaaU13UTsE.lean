/- PLAIN LAWS OF WHAT IS COMPUTED, for the statement 'PairsSpreads'. Nothing is asked of the input. -/
import Derived.Test.YthmhdbmpeepmaaaU13USl
import Derived.Test.YthmhdbmpeepmaaaLB
import Derived.Test.YthmhdbmpeepmaaaG13A
set_option linter.unusedVariables false
set_option linter.unusedSimpArgs false
namespace Go.Lt.P8
open Go Go.Lt Go.Proofs
theorem eqll_ok {k : Nat} {H : Hp} {v w : Sl} {us vs : List Sl} {ls ms : List (List Int)} (hv : SLL H v us ls) (hw : SLL H w vs ms) (hl : ∀ l ∈ ls, l.length ≤ 1000) (hb : ls.length ≤ 1000000) : Ok (r48 (app (k + 1)) v w H) fun b H' => H' = H ∧ b = decide (ls = ms) := by
  unfold r48 r85
  have h1 := hv.len
  have h2 := hw.len
  refine Ok.bind (P := fun b H' => H' = H ∧ b = decide (ls = ms)) ?_ fun b H' h => Ok.ret h
  by_cases hl2 : ls.length = ms.length
  · refine Ok.neg (by omega) ?_
    rw [h1]
    refine Ok.loop (L := fun K (s : Int) H2 => r85_l0 (app (k + 1)) K w (.fn 25 [] []) v ls.length s H2) (fun m s H' => H' = H ∧ ∃ i : Nat, s = i ∧ i + m = ls.length ∧ ls.take i = ms.take i) ?_ FUEL ls.length 0 H (by unfold FUEL; omega) ⟨rfl, 0, rfl, by omega, rfl⟩
    rintro K m s H1 ⟨rfl, i, rfl, hm, ht⟩ ih
    try dsimp only at *
    rw [r85_l0]
    by_cases h : i < ls.length
    · refine Ok.pos (by omega) (Ok.ck (by omega) (Ok.ld (hv.ldSl (i := i) h) (Ok.ck (by omega) (Ok.ld (hw.ldSl (i := i) (by omega)) ?_))))
      have hc : Ok (callv (app (k + 1)) (.fn 25 [] []) [.sl (us[i]'(by rw [hv.vlen]; exact h)), .sl (vs[i]'(by rw [hw.vlen]; omega))] H1) fun r H' => H' = H1 ∧ r = .bool (decide (ls[i] = ms[i]'(by omega))) := by
        show Ok ((r25 _ _ H1).map fun p => (AV.bool p.1, p.2)) _
        rw [r25_spec (hv.get h).is.ints (hw.get (by omega)).is.ints (by have := hl _ (List.getElem_mem h); omega)]
        exact Ok.ret ⟨rfl, rfl⟩
      refine Ok.bind hc fun r H2 ⟨e2, hr⟩ => ?_
      subst e2 hr
      refine Ok.ld rfl (Ok.ite (fun hc => ?_) fun hc => Ok.ret ⟨rfl, ?_⟩)
      · rw [w64_succ (by omega)]
        refine ih (m - 1) _ _ (by omega) ⟨rfl, i + 1, rfl, by omega, ?_⟩
        rw [List.take_succ_eq_append_getElem h, List.take_succ_eq_append_getElem (by omega), ht]
        congr 2
        exact of_decide_eq_true hc
      · symm
        rw [decide_eq_false_iff_not]
        rintro rfl
        exact hc (by simp)
    · refine Ok.neg (by omega) (Ok.ret ⟨rfl, ?_⟩)
      symm
      rw [decide_eq_true_iff]
      rw [List.take_of_length_le (by omega), List.take_of_length_le (by omega)] at ht
      exact ht
  · refine Ok.pos (by omega) (Ok.ret ⟨rfl, ?_⟩)
    symm
    rw [decide_eq_false_iff_not]
    rintro rfl
    exact hl2 rfl
end Go.Lt.P8
