/- PLAIN LAWS OF WHAT IS COMPUTED, for the statement 'PairsSpreads'. Nothing is asked of the input. -/
import Derived.Test.YthmhdbmpeepmaaaU13UTsH
import Derived.Test.YthmhdbmpeepmaaaU13UTsE
import Derived.Test.YthmhdbmpeepmaaaU13UThT2
import Derived.Test.YthmhdbmpeepmaaaU13UThK
import Derived.Test.YthmhdbmpeepmaaaU13UTsR
import Derived.Test.YthmhdbmpeepmaaaU13UFirst
import Derived.Test.YthmhdbmpeepmaaaLB
set_option linter.unusedVariables false
set_option linter.unusedSimpArgs false
namespace Go.Lt.P8
open Go Go.Lt Go.Proofs
theorem awake20c (H : Hp) : ∃ H', r23 (app 20) H = some (true, H') := awake_spec H (f := 19) (by omega) (by decide +kernel)
theorem first16c {v : Nat} (hv : 3 ≤ v ∧ v ≤ 9) (l : List Tr) : areF v (l.take 16) = refF v l := by
  by_cases h : l.length ≤ 16
  · rw [List.take_of_length_le h, threes_eq]
  · rw [Bool.eq_iff_iff, areF_iff, refF_iff]
    constructor
    · intro c
      have := c.len hv
      rw [List.length_take] at this
      omega
    · intro c
      have := c.len hv
      omega
theorem spreadsLaw {n : Int} {H : Hp} {w : Sl} {l : List Tr} (hw : SL H w l) (hb : l.length < 9223372036854775808) : Ok (r13 (app 20) n w H) fun b _ => b = true := by
  unfold r13
  refine Ok.bind (r52_ok hw hb) fun w1 H1 ⟨g1, hw1⟩ => ?_
  refine Ok.bind (r51_ok (k := 20) (by omega) hw1 (by simp; omega)) fun r2 H2 ⟨g2, h2⟩ => ?_
  obtain ⟨x, e⟩ := r2
  dsimp only at h2
  have out : ∀ H3, ¬ ((3 ≤ n ∧ n ≤ 9) ∧ areF n.toNat (l.take 16) = true) → Ok (r13_j0 (app 20) n w x e true H3) fun b _ => b = true := by
    intro H3 h
    rw [if_neg h] at h2
    injection h2 with hx he
    subst hx he
    unfold r13_j0
    obtain ⟨H', ha⟩ := awake20c H3
    exact Ok.pos rfl (Ok.pos rfl (Ok.pos rfl (Ok.ld ha (Ok.ret rfl))))
  refine Ok.ite (fun h => out _ (by omega)) fun h3 => Ok.ite (fun h => out _ (by omega)) fun h9 => ?_
  obtain ⟨v, rfl⟩ : ∃ m : Nat, n = m := ⟨n.toNat, by omega⟩
  try dsimp only at h3 h9
  have hv : 3 ≤ v ∧ v ≤ 9 := by omega
  rw [Int.toNat_natCast] at h2 out
  refine Ok.bind (r54_ok hv.2 (hw.gr (g1.trans g2)) (by omega)) fun b H3 ⟨g3, hb3⟩ => ?_
  subst hb3
  cases hrf : refF v l with
  | false => exact out _ (by rw [first16c hv, hrf]; simp)
  | true =>
    have T := refF_iff.1 hrf
    have hl12 := T.len hv
    have htk : l.take 16 = l := List.take_of_length_le (by omega)
    rw [if_pos ⟨by omega, by rw [first16c hv, hrf]⟩, htk] at h2
    obtain ⟨rfl, vs, hx⟩ := h2
    unfold r13_j0
    have g13 := g1.trans (g2.trans g3)
    refine Ok.neg (by simp) (Ok.bind (r55_ok (by omega) T.rng hl12 (by omega) (hw.gr g13)) fun y H4 ⟨g4, ws, hy⟩ => ?_)
    refine Ok.bind (eqll_ok (k := 19) (hx.gr (g3.trans g4)) hy (fun s hs => ?_) ?_) fun b H5 ⟨e5, hb5⟩ => ?_
    · have := spF_els 13 [] 0 0 (by simp) (by omega) s hs
      omega
    · have := spF_len12 (v := v) (f := 13) (q := []) (b := 0) (Nat.zero_le l.length) hl12
      omega
    · subst e5 hb5
      obtain ⟨H', ha⟩ := awake20c H5
      exact Ok.pos (by simp) (Ok.pos rfl (Ok.ld ha (Ok.ret rfl)))
theorem lawCall13 (H : Hp) (xs : List AV) (_ : NoOwn H) (h : RdAs H [.int .i64, .sl (.rep 3 (.int .i64))] xs) : ∃ H1, CallSim Try.prog 13 xs H (.bool true) H1 := by
  obtain ⟨x, _, rfl, hx, y, _, rfl, hy, rfl⟩ := h
  obtain ⟨a0, e0, _⟩ : Rd H (.int .i64) [x] := hx
  injection e0 with e0
  subst e0
  obtain ⟨v, l, rfl, hv, hb⟩ := rd_sl (enc_rep3 enc_int) hy
  obtain ⟨b, H1, h1, rfl⟩ := spreadsLaw (n := a0) hv (by unfold maxLen at hb; omega)
  exact ⟨H1, sim13 (happ := appSim 20) h1⟩
end Go.Lt.P8
