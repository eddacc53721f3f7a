/- PLAIN LAWS OF WHAT IS COMPUTED, for the statement 'DealsOthers'. Nothing is asked of the input. -/
import Derived.Test.YtficeemoekikdaaU14VEa
set_option linter.unusedVariables false
set_option linter.unusedSimpArgs false
namespace Go.Lt.P5
open Go Go.Lt Go.Proofs
theorem makes_id (k : Nat) (B : Hp) : Makes (appA (k + 1)) (.fn 62 [] []) B id fun _ => True := by
  intro H x g _
  show Ok ((r62 x.1 x.2 H).map fun p => (AV.agg [.int .i64 p.1.1, .int .i64 p.1.2], p.2)) _
  have gp := Gr.push H (.cells [.int .i64 x.1, .int .i64 x.2] false)
  have h1 : Ok (r62 x.1 x.2 H) fun r H' => Gr H H' ∧ r = (x.1, x.2) := by
    unfold r62
    refine Ok.lt ?_
    have hg : ((H.push (.cells [.int .i64 x.1, .int .i64 x.2] false)).push (.cells [.int .i64 0, .int .i64 0] false)).get H.n = some (.cells [.int .i64 x.1, .int .i64 x.2] false) := by
      rw [Hp.get_push_old _ _ (by simp)]; simp
    refine Ok.ld (ldI_get hg rfl) (Ok.ld (ldI_get hg rfl) ?_)
    obtain ⟨E, hE, hE', gE, nE⟩ := sts2 (H.push (.cells [.int .i64 x.1, .int .i64 x.2] false)) (.int .i64 x.1) (.int .i64 x.2) (.int .i64 0) (.int .i64 0)
    exact Ok.ld hE (Ok.ld (ldI_get hE' rfl) (Ok.ld (ldI_get hE' rfl) (Ok.ret ⟨gp.trans gE, rfl⟩)))
  obtain ⟨r, H', e, g2, rfl⟩ := h1
  rw [e]
  exact Ok.ret ⟨g2, rfl⟩
/-- Less -/
theorem r35_ok (k : Nat) {H : Hp} {v : Sl} {l : List Pr} (hv : SL H v l) (hb : l.length ≤ 1000) (d : Int) : Ok (r35 (appA (k + 1)) v d H) fun r H' => Gr H H' ∧ if offP l ∧ 0 ≤ d ∧ d < l.length then (if offP (l.eraseIdx d.toNat) then SL H' r.1 (l.eraseIdx d.toNat) ∧ r.2 = 0 else r = (⟨true, 0, 0, 0, 0, 0⟩, 4)) else r = (⟨true, 0, 0, 0, 0, 0⟩, 2) := by
  unfold r35
  have hlen := hv.len
  refine Ok.bind (r52_ok hv hb) fun b H1 ⟨g1, hb1⟩ => ?_
  subst hb1
  have out : ∀ H2, Gr H H2 → ¬ (offP l ∧ 0 ≤ d ∧ d < l.length) → Ok (r35_j0 (appA (k + 1)) v d true H2) fun r H' => Gr H H' ∧ if offP l ∧ 0 ≤ d ∧ d < l.length then (if offP (l.eraseIdx d.toNat) then SL H' r.1 (l.eraseIdx d.toNat) ∧ r.2 = 0 else r = (⟨true, 0, 0, 0, 0, 0⟩, 4)) else r = (⟨true, 0, 0, 0, 0, 0⟩, 2) := fun H2 g2 hno => by
    unfold r35_j0
    simp only [if_neg hno]
    exact Ok.pos (by simp) (Ok.ret ⟨g2, rfl⟩)
  by_cases ho : offP l
  · rw [decide_eq_true ho]
    refine Ok.pos rfl (Ok.ite (fun h => out _ g1 (fun c => by omega)) fun h0 => ?_)
    by_cases hd : d < l.length
    · obtain ⟨i, rfl⟩ : ∃ i : Nat, d = i := ⟨d.toNat, by omega⟩
      rw [decide_eq_false (by omega)]
      simp only [if_pos (show offP l ∧ (0 : Int) ≤ (i : Int) ∧ (i : Int) < l.length from ⟨ho, by omega, hd⟩), Int.toNat_natCast]
      unfold r35_j0
      have hnil : v.nil = false := hv.nonnil (by intro c; rw [c] at hd; simp at hd; omega)
      refine Ok.neg (by simp) ?_
      show Ok ((cloneR 2 v H1).bind _) _
      refine Ok.bind (clone_ok (hv.gr g1) (by omega) rfl) fun w H2 ⟨g2, _, _, hw⟩ => ?_
      refine Ok.bind (P := fun u H' => SL H' u (l.eraseIdx i) ∧ Gr H1 H') ?_ fun u H3 ⟨hu, g3⟩ => ?_
      · show Ok (delR 2 [.int .i64 0, .int .i64 0] w _ _ H2) _
        have hw' := hw hnil
        refine (del_ok hw'.1 (i := i) (by omega) (by omega) rfl _ rfl ?_).mono fun _ _ h => ⟨h.1, ?_⟩
        · rw [w64_succ (by omega)]
        · exact h.2.gr g2 hw'.2
      · refine Ok.bind (r59_ok (makes_id k _) hu (by rw [List.length_eraseIdx]; split <;> omega) fun _ _ => trivial) fun r H4 ⟨g4, h4⟩ => Ok.ret ⟨g1.trans (g3.trans g4), ?_⟩
        rw [List.map_id] at h4
        exact h4
    · rw [decide_eq_true (by omega)]
      exact out _ g1 (fun c => by omega)
  · rw [decide_eq_false ho]
    exact Ok.neg (by simp) (out _ g1 (fun c => ho c.1))
end Go.Lt.P5
