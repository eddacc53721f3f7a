/- PLAIN LAWS OF WHAT IS COMPUTED, for the statement 'PairsMeet'. Nothing is asked of the input. -/
import Derived.Test.YthmhdbmpeepmaaaU18URrP
import Derived.Test.YthmhdbmpeepmaaaU18UCmp0
import Derived.Test.YthmhdbmpeepmaaaLB
set_option linter.unusedVariables false
set_option linter.unusedSimpArgs false
namespace Go.Lt.P8
open Go Go.Lt Go.Proofs
def cmpI (x y : Int) : Int := if x < y then -1 else if y < x then 1 else 0
def cmpP (p q : Pr) : Int := if cmpI p.1 q.1 ≠ 0 then cmpI p.1 q.1 else cmpI p.2 q.2
theorem cmpP_lt (p q : Pr) : cmpP p q < 0 ↔ ltP p q = true := by
  unfold cmpP cmpI ltP
  rw [decide_eq_true_iff]
  by_cases a : p.1 < q.1
  · rw [if_pos a, if_pos (by decide)]; omega
  · rw [if_neg a]
    by_cases b : q.1 < p.1
    · rw [if_pos b, if_pos (by decide)]; omega
    · rw [if_neg b, if_neg (by decide)]
      by_cases c : p.2 < q.2
      · rw [if_pos c]; omega
      · rw [if_neg c]
        by_cases d : q.2 < p.2
        · rw [if_pos d]; omega
        · rw [if_neg d]; omega
theorem r113_eq {H : Hp} {b : Nat} {x y : Int} (hg : H.get b = some (.cells [.int .i64 x, .int .i64 y] false)) : r113 ⟨false, b, 0, 2, 2, 0⟩ H = some ((if x ≠ 0 then x else y), H) := by
  unfold r113
  have e0 : H.ldI .i64 b (0 + (0 : Int).toNat * 1) = some x := ldI_get hg rfl
  have e1 : H.ldI .i64 b (0 + (1 : Int).toNat * 1) = some y := ldI_get hg rfl
  rw [show FUEL = 18446744073709551613 + 1 + 1 + 1 from rfl, r113_l0, if_pos (by simp), ck, if_pos (by simp), e0]
  simp only [Option.bind_some]
  by_cases hx : x = 0
  · rw [if_neg (by simpa using hx), show w64 (0 + 1) = 1 by decide, r113_l0, if_pos (by simp), ck, if_pos (by simp), e1]
    simp only [Option.bind_some]
    rw [if_neg (show ¬ x ≠ 0 by simpa using hx)]
    by_cases hy : y = 0
    · rw [if_neg (by simpa using hy), show w64 (1 + 1) = 2 by decide, r113_l0, if_neg (by simp), hy]
    · rw [if_pos hy]
  · rw [if_pos hx, if_pos hx]
/-- comparePairs -/
theorem r102_ok (p q : Pr) (H : Hp) : Ok (r102 p.1 p.2 q.1 q.2 H) fun c H' => Gr H H' ∧ c = cmpP p q := by
  unfold r102
  refine Ok.lt ?_
  generalize hB : (H.push (.cells [.int .i64 p.1, .int .i64 p.2] false)).push (.cells [.int .i64 q.1, .int .i64 q.2] false) = B
  have n1 : (H.push (.cells [.int .i64 p.1, .int .i64 p.2] false)).n = H.n + 1 := by simp
  rw [n1]
  have nB : B.n = H.n + 2 := by rw [← hB]; simp
  have gB : Gr H B := by rw [← hB]; exact (Gr.push _ _).trans (.push _ _)
  have b0 : B.get H.n = some (.cells [.int .i64 p.1, .int .i64 p.2] false) := by rw [← hB, Hp.get_push_old _ _ (by simp)]; simp
  have b1 : B.get (H.n + 1) = some (.cells [.int .i64 q.1, .int .i64 q.2] false) := by rw [← hB, ← n1, Hp.get_push_new]
  clear hB
  have l0 : B.ldI .i64 H.n (0 + (0 : Int).toNat * 1) = some p.1 := ldI_get b0 rfl
  have l1 : B.ldI .i64 H.n (0 + (1 : Int).toNat * 1) = some p.2 := ldI_get b0 rfl
  have m0 : B.ldI .i64 (H.n + 1) (0 + (0 : Int).toNat * 1) = some q.1 := ldI_get b1 rfl
  have m1 : B.ldI .i64 (H.n + 1) (0 + (1 : Int).toNat * 1) = some q.2 := ldI_get b1 rfl
  refine Ok.ld l0 (Ok.ld m0 (Ok.ld (r87_eq _ _ _) ?_))
  dsimp only
  refine Ok.ld l1 (Ok.ld m1 (Ok.ld (r87_eq _ _ _) ?_))
  dsimp only
  have gp := Gr.push B (.cells [.int .i64 (cmpI p.1 q.1), .int .i64 (cmpI p.2 q.2)] false)
  have c0 : (B.push (.cells [.int .i64 (cmpI p.1 q.1), .int .i64 (cmpI p.2 q.2)] false)).ldI .i64 H.n (0 + (1 : Int).toNat * 1) = some p.2 := ldI_get (by rw [gp.2 _ (by omega)]; exact b0) rfl
  have c1 : (B.push (.cells [.int .i64 (cmpI p.1 q.1), .int .i64 (cmpI p.2 q.2)] false)).ldI .i64 (H.n + 1) (0 + (1 : Int).toNat * 1) = some q.2 := ldI_get (by rw [gp.2 _ (by omega)]; exact b1) rfl
  refine Ok.ld (r113_eq (x := cmpI p.1 q.1) (y := cmpI p.2 q.2) (by simp [cmpI])) ?_
  exact Ok.ck l1 (Ok.ck m1 (Ok.ck l1 (Ok.ck m1 (Ok.ck c0 (Ok.ck c1 (Ok.ck c0 (Ok.ck c1 (Ok.ret ⟨gB.trans gp, rfl⟩))))))))
theorem call102 (k : Nat) (p q : Pr) (H : Hp) : Ok (callv (app (k + 1)) (.fn 102 [] []) [.agg [.int .i64 p.1, .int .i64 p.2], .agg [.int .i64 q.1, .int .i64 q.2]] H) fun r H' => Gr H H' ∧ r = .int .i64 (cmpP p q) := by
  obtain ⟨c, H', e, g, rfl⟩ := r102_ok p q H
  show Ok ((r102 p.1 p.2 q.1 q.2 H).map fun p => (AV.int .i64 p.1, p.2)) _
  rw [e]
  exact Ok.ret ⟨g, rfl⟩
theorem srt_adj : ∀ {l : List Pr}, srt l = true ↔ ∀ j (h : j + 1 < l.length), ltP l[j + 1] l[j] = false := by
  intro l
  induction l with
  | nil => simp [srt]
  | cons a l ih =>
    cases l with
    | nil => simp [srt]
    | cons b l =>
      rw [srt, Bool.and_eq_true, ih]
      constructor
      · rintro ⟨h1, h2⟩ j hj
        cases j with
        | zero => simpa using h1
        | succ j => exact h2 j (by simpa using hj)
      · intro h
        exact ⟨by have := h 0 (by simp); simpa using this, fun j hj => h (j + 1) (by simpa using hj)⟩
/-- slices.IsSortedFunc of pairs -/
theorem r101_ok {k : Nat} {H : Hp} {v : Sl} {l : List Pr} (hv : SL H v l) (hb : l.length ≤ 1000000) : Ok (r101 (app (k + 1)) v (.fn 102 [] []) H) fun b H' => Gr H H' ∧ b = srt l := by
  unfold r101
  have hlen := hv.len
  rw [hlen, w64_id (by omega) (by omega)]
  refine Ok.loop (L := fun K (s : Int) H' => r101_l0 (app (k + 1)) K v (.fn 102 [] []) s H') (fun m s H' => s = (m : Int) - 1 ∧ m ≤ l.length ∧ Gr H H' ∧ ∀ j (h : j + 1 < l.length), m ≤ j + 1 → ltP l[j + 1] l[j] = false) ?_ FUEL l.length _ H (by unfold FUEL; omega) ⟨rfl, Nat.le_refl _, .refl _, fun j h h2 => by omega⟩
  rintro K m s H1 ⟨rfl, hm, g, hi⟩ ih
  try dsimp only at *
  rw [r101_l0]
  by_cases h : 2 ≤ m
  · obtain ⟨i, rfl⟩ : ∃ i, m = i + 2 := ⟨m - 2, by omega⟩
    have e1 : ((i + 2 : Nat) : Int) - 1 = ((i + 1 : Nat) : Int) := by omega
    have e2 : w64 (((i + 1 : Nat) : Int) - 1) = (i : Int) := by rw [w64_id (by omega) (by omega)]; omega
    rw [e1, e2]
    have hg := hv.gr g
    refine Ok.pos (by omega) (Ok.ck (by omega) (Ok.ld (hg.ldI (i := i + 1) (j := 0) (by omega) rfl) (Ok.ld (hg.ldI (i := i + 1) (j := 1) (by omega) rfl) (Ok.ck (by omega) (Ok.ld (hg.ldI (i := i) (j := 0) (by omega) rfl) (Ok.ld (hg.ldI (i := i) (j := 1) (by omega) rfl) ?_))))))
    refine Ok.bind (call102 k l[i + 1] l[i] H1) fun r H2 ⟨g2, hr⟩ => ?_
    subst hr
    refine Ok.ld rfl (Ok.ite (fun hc => Ok.ret ⟨g.trans g2, ?_⟩) fun hc => ?_)
    · symm
      rw [Bool.eq_false_iff]
      intro hs
      have := srt_adj.1 hs i (by omega)
      rw [(cmpP_lt _ _).1 hc] at this
      cases this
    · refine ih (i + 1) _ H2 (by omega) ⟨by omega, by omega, g.trans g2, fun j hj hj2 => ?_⟩
      by_cases e : j = i
      · subst e
        cases hb : ltP l[j + 1] l[j] with
        | false => rfl
        | true => exact absurd ((cmpP_lt _ _).2 hb) hc
      · exact hi j hj (by omega)
  · refine Ok.neg (by omega) (Ok.ret ⟨g, ?_⟩)
    symm
    rw [srt_adj]
    exact fun j hj => hi j hj (by omega)
end Go.Lt.P8
