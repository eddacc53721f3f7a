/- PLAIN LAWS OF WHAT IS COMPUTED, for the statement 'PairsThrees'. Nothing is asked of the input. -/
import Derived.Test.YthmhdbmpeepmaaaU14UThR
import Derived.Test.YthmhdbmpeepmaaaU14UThI
import Derived.Test.YthmhdbmpeepmaaaU14UFirst
import Derived.Test.YthmhdbmpeepmaaaLB
set_option linter.unusedVariables false
set_option linter.unusedSimpArgs false
namespace Go.Lt.P8
open Go Go.Lt Go.Proofs
theorem awake20 (H : Hp) : ∃ H', r23 (app 20) H = some (true, H') := awake_spec H (f := 19) (by omega) (by decide +kernel)
theorem first16 {v : Nat} (hv : 3 ≤ v ∧ v ≤ 9) (l : List Tr) : areF v (l.take 16) = refF v l := by
  by_cases h : l.length ≤ 16
  · rw [List.take_of_length_le h, threes_eq]
  · rw [Bool.eq_iff_iff, areF_iff, refF_iff]
    constructor
    · intro c
      have := c.len hv
      rw [List.length_take] at this
      omega
    · intro c
      have := c.len hv
      omega
theorem threesLaw {n : Int} {H : Hp} {w : Sl} {l : List Tr} (hw : SL H w l) (hb : l.length < 9223372036854775808) : Ok (r14 (app 20) n w H) fun b _ => b = true := by
  unfold r14
  refine Ok.bind (r56_ok (by omega)) fun r1 H1 ⟨g1, h1⟩ => ?_
  refine Ok.bind (r52_ok (hw.gr g1) hb) fun w2 H2 ⟨g2, hw2⟩ => ?_
  refine Ok.bind (r53_ok (k := 19) hw2 (by simp; omega)) fun r3 H3 ⟨g3, h3⟩ => ?_
  obtain ⟨x, e1⟩ := r1
  dsimp only at h1
  by_cases hn : 3 ≤ n ∧ n ≤ 9
  · rw [if_pos hn] at h1 h3
    subst h3
    obtain ⟨v, rfl⟩ : ∃ m : Nat, n = m := ⟨n.toNat, by omega⟩
    rw [Int.toNat_natCast] at h1 ⊢
    have hv : 3 ≤ v ∧ v ≤ 9 := by omega
    refine Ok.neg (by omega) ?_
    rw [decide_eq_false (by omega)]
    unfold r14_j0
    refine Ok.neg (by simp) (Ok.bind (r57_ok (by omega) hv) fun r4 H4 ⟨g4, h4⟩ => ?_)
    obtain ⟨y, e4⟩ := r4
    have gg := g1.trans (g2.trans (g3.trans g4))
    have g34 := g2.trans (g3.trans g4)
    have fin : ∀ H5, Gr H4 H5 → e1 = e4 → Ok (if e1 = e4 then ((r54 v w H5).bind fun p11 => if (areF v (l.take 16) == p11.1) = true then (if (0 : Int) = 0 then ((r23 (app 20) p11.2).bind fun p14 => some (p14.1, p14.2)) else (some (false, p11.2))) else (some (false, p11.2))) else (some (false, H5))) fun b _ => b = true := by
      intro H5 g5 e
      refine Ok.pos e (Ok.bind (r54_ok (by omega) (hw.gr (gg.trans g5)) (by omega)) fun b H6 ⟨g6, hb6⟩ => ?_)
      subst hb6
      refine Ok.pos (by rw [first16 hv]; simp) (Ok.pos rfl ?_)
      obtain ⟨H', ha⟩ := awake20 H6
      exact Ok.ld ha (Ok.ret rfl)
    cases hg : growF v 13 [] with
    | some t =>
      rw [hg] at h1 h4
      dsimp only at h1 h4
      obtain ⟨hx, rfl⟩ := h1
      obtain ⟨hy, rfl⟩ := h4
      have ht : t.length ≤ 1000000 := by
        have := (growF_fine 13 [] t ⟨by simp, by simp [pairs3]⟩ hg).len hv
        omega
      refine Ok.bind (r58_ok (hx.gr g34) hy ht) fun b H5 ⟨e5, hb5⟩ => ?_
      subst e5 hb5
      exact Ok.pos (by simp) (fin H5 (.refl _) rfl)
    | none =>
      rw [hg] at h1 h4
      dsimp only at h1 h4
      injection h1 with hx he
      injection h4 with hy he'
      subst hx he hy he'
      refine Ok.bind (r58_ok (l := []) (l' := []) SL.nilS SL.nilS (by simp)) fun b H5 ⟨e5, hb5⟩ => ?_
      subst e5 hb5
      exact Ok.pos (by simp) (fin H5 (.refl _) rfl)
  · rw [if_neg hn] at h1 h3
    subst h3
    injection h1 with hx he
    subst hx he
    have out : Ok (r14_j0 (app 20) n w ⟨true, 0, 0, 0, 0, 0⟩ 2 false 2 true H3) fun b _ => b = true := by
      unfold r14_j0
      obtain ⟨H', ha⟩ := awake20 H3
      exact Ok.pos rfl (Ok.pos rfl (Ok.neg (by simp) (Ok.pos rfl (Ok.pos rfl (Ok.ld ha (Ok.ret rfl))))))
    refine Ok.ite (fun _ => out) fun h => ?_
    rw [decide_eq_true (by omega)]
    exact out
theorem lawCall14 (H : Hp) (xs : List AV) (_ : NoOwn H) (h : RdAs H [.int .i64, .sl (.rep 3 (.int .i64))] xs) : ∃ H1, CallSim Try.prog 14 xs H (.bool true) H1 := by
  obtain ⟨x, _, rfl, hx, y, _, rfl, hy, rfl⟩ := h
  obtain ⟨a0, e0, _⟩ : Rd H (.int .i64) [x] := hx
  injection e0 with e0
  subst e0
  obtain ⟨v, l, rfl, hv, hb⟩ := rd_sl (enc_rep3 enc_int) hy
  obtain ⟨b, H1, h1, rfl⟩ := threesLaw (n := a0) hv (by unfold maxLen at hb; omega)
  exact ⟨H1, sim14 (happ := appSim 20) h1⟩
end Go.Lt.P8
