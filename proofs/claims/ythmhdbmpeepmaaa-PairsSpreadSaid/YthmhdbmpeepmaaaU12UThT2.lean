/- PLAIN LAWS OF WHAT IS COMPUTED, for the statement 'PairsSpread'. Nothing is asked of the input. -/
import Derived.Test.YthmhdbmpeepmaaaU12UThK
import Derived.Test.YthmhdbmpeepmaaaLB
set_option linter.unusedVariables false
set_option linter.unusedSimpArgs false
namespace Go.Lt.P8
open Go Go.Lt Go.Proofs
/-- triples: the first sixteen -/
theorem r52_ok {l : List Tr} {H : Hp} {v : Sl} (hv : SL H v l) (hb : l.length < 9223372036854775808) : Ok (r52 v H) fun w H' => Gr H H' ∧ SL H' w (l.take 16) := by
  unfold r52
  have h1 := hv.len
  have hc := hv.cap
  have ho := hv.opn
  have e : (if 16 < (v.len : Int) then (16 : Int) else (v.len : Int)) = ((min 16 l.length : Nat) : Int) := by
    by_cases h : 16 < (v.len : Int)
    · rw [if_pos h]; omega
    · rw [if_neg h]; omega
  rw [e]
  refine Ok.ck ⟨by omega, ho⟩ ?_
  rw [Int.toNat_natCast]
  have hs := hv.cut (lo := 0) (hi := min 16 l.length) (by omega) (by omega)
  have hl : (l.drop 0).take (min 16 l.length - 0) = l.take 16 := by
    rw [List.drop_zero, Nat.sub_zero]
    by_cases h : 16 ≤ l.length
    · rw [Nat.min_eq_left h]
    · rw [Nat.min_eq_right (by omega), List.take_of_length_le (by omega), List.take_of_length_le (by omega)]
  rw [hl] at hs
  show Ok ((cloneR 3 _ H).bind fun p2 => some (p2.1, p2.2)) _
  refine Ok.bind (clone_ok hs (by simp; omega) rfl) fun w H2 ⟨g2, hw, _⟩ => Ok.ret ⟨g2, hw⟩
end Go.Lt.P8
