/- PLAIN LAWS OF WHAT IS COMPUTED, for the statement 'PairsThrees'. Nothing is asked of the input. -/
import Derived.Test.YthmhdbmpeepmaaaU14UThK
import Derived.Test.YthmhdbmpeepmaaaLB
set_option linter.unusedVariables false
set_option linter.unusedSimpArgs false
namespace Go.Lt.P8
open Go Go.Lt Go.Proofs
theorem keqs_three (a b c d e f : Int) : AV.keqs [.int .i64 a, .int .i64 b, .int .i64 c] [.int .i64 d, .int .i64 e, .int .i64 f] = decide ((a, b, c) = (d, e, f)) := by
  simp only [AV.keqs, AV.keq1, Bool.and_true, Prod.mk.injEq]
  by_cases h1 : a = d <;> by_cases h2 : b = e <;> by_cases h3 : c = f <;> simp [h1, h2, h3]
theorem r58_ok {l l' : List Tr} {H : Hp} {v w : Sl} (hv : SL H v l) (hw : SL H w l') (hb : l.length ≤ 1000000) : Ok (r58 v w H) fun b H' => H' = H ∧ b = decide (l = l') := by
  unfold r58
  have h1 := hv.len
  have h2 := hw.len
  by_cases hl : l.length = l'.length
  · refine Ok.neg (by omega) ?_
    rw [h1]
    refine Ok.loop (L := fun K (s : Int) H2 => r58_l0 K v w l.length s H2) (fun m s H' => H' = H ∧ ∃ i : Nat, s = i ∧ i + m = l.length ∧ l.take i = l'.take i) ?_ FUEL l.length 0 H (by unfold FUEL; omega) ⟨rfl, 0, rfl, by omega, rfl⟩
    rintro K m s H1 ⟨rfl, i, rfl, hm, ht⟩ ih
    try dsimp only at *
    rw [r58_l0]
    by_cases h : i < l.length
    · refine Ok.pos (by omega) (Ok.ck (by omega) (Ok.ld (hv.ldI (i := i) (j := 0) h rfl) (Ok.ld (hv.ldI (i := i) (j := 1) h rfl) (Ok.ld (hv.ldI (i := i) (j := 2) h rfl) (Ok.ck (by omega) (Ok.ld (hw.ldI (i := i) (j := 0) (by omega) rfl) (Ok.ld (hw.ldI (i := i) (j := 1) (by omega) rfl) (Ok.ld (hw.ldI (i := i) (j := 2) (by omega) rfl) ?_))))))))
      rw [keqs_three]
      refine Ok.ite (fun hc => ?_) fun hc => Ok.ret ⟨rfl, ?_⟩
      · rw [w64_succ (by omega)]
        refine ih (m - 1) _ _ (by omega) ⟨rfl, i + 1, rfl, by omega, ?_⟩
        rw [List.take_succ_eq_append_getElem h, List.take_succ_eq_append_getElem (by omega), ht]
        congr 2
        exact of_decide_eq_true hc
      · symm
        rw [decide_eq_false_iff_not]
        rintro rfl
        exact hc (by simp)
    · refine Ok.neg (by omega) (Ok.ret ⟨rfl, ?_⟩)
      symm
      rw [decide_eq_true_iff]
      rw [List.take_of_length_le (by omega), List.take_of_length_le (by omega)] at ht
      exact ht
  · refine Ok.pos (by omega) (Ok.ret ⟨rfl, ?_⟩)
    symm
    rw [decide_eq_false_iff_not]
    rintro rfl
    exact hl rfl
/-- triples: the first sixteen -/
theorem r52_ok {l : List Tr} {H : Hp} {v : Sl} (hv : SL H v l) (hb : l.length < 9223372036854775808) : Ok (r52 v H) fun w H' => Gr H H' ∧ SL H' w (l.take 16) := by
  unfold r52
  have h1 := hv.len
  have hc := hv.cap
  have ho := hv.opn
  have e : (if 16 < (v.len : Int) then (16 : Int) else (v.len : Int)) = ((min 16 l.length : Nat) : Int) := by
    by_cases h : 16 < (v.len : Int)
    · rw [if_pos h]; omega
    · rw [if_neg h]; omega
  rw [e]
  refine Ok.ck ⟨by omega, ho⟩ ?_
  rw [Int.toNat_natCast]
  have hs := hv.cut (lo := 0) (hi := min 16 l.length) (by omega) (by omega)
  have hl : (l.drop 0).take (min 16 l.length - 0) = l.take 16 := by
    rw [List.drop_zero, Nat.sub_zero]
    by_cases h : 16 ≤ l.length
    · rw [Nat.min_eq_left h]
    · rw [Nat.min_eq_right (by omega), List.take_of_length_le (by omega), List.take_of_length_le (by omega)]
  rw [hl] at hs
  show Ok ((cloneR 3 _ H).bind fun p2 => some (p2.1, p2.2)) _
  refine Ok.bind (clone_ok hs (by simp; omega) rfl) fun w H2 ⟨g2, hw, _⟩ => Ok.ret ⟨g2, hw⟩
end Go.Lt.P8
