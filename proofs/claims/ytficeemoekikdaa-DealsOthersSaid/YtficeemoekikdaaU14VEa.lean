/- PLAIN LAWS OF WHAT IS COMPUTED, for the statement 'DealsOthers'. Nothing is asked of the input. -/
import Derived.Test.YtficeemoekikdaaU14VOff
import Derived.Test.YtficeemoekikdaaLB
import Derived.Test.YtficeemoekikdaaU14VAwk
set_option linter.unusedVariables false
set_option linter.unusedSimpArgs false
namespace Go.Lt.P5
open Go Go.Lt Go.Proofs
/-- a function value that makes a pair of a pair, from a heap on -/
def Makes (a : App) (fv : AV) (B : Hp) (f : Pr → Pr) (D : Pr → Prop) : Prop := ∀ H x, Gr B H → D x → Ok (callv a fv [.agg [.int .i64 x.1, .int .i64 x.2]] H) fun r H' => Gr H H' ∧ r = .agg [.int .i64 (f x).1, .int .i64 (f x).2]
theorem r59_ok {a : App} {fv : AV} {B : Hp} {f : Pr → Pr} {D : Pr → Prop} (hf : Makes a fv B f D) {v : Sl} {l : List Pr} (hv : SL B v l) (hb : l.length ≤ 1000) (hD : ∀ x ∈ l, D x) : Ok (r59 a v fv B) fun r H' => Gr B H' ∧ if offP (l.map f) then SL H' r.1 (l.map f) ∧ r.2 = 0 else r = (⟨true, 0, 0, 0, 0, 0⟩, 4) := by
  unfold r59
  have hlen := hv.len
  rw [hlen]
  refine Ok.loop (L := fun K (s : Sl × Int) H2 => r59_l0 a K fv s.1 v l.length s.2 H2) (fun m s H' => Gr B H' ∧ ∃ i : Nat, s.2 = i ∧ i + m = l.length ∧ AccL B.n H' s.1 ((l.take i).map f)) ?_ FUEL l.length (⟨true, 0, 0, 0, 0, 0⟩, 0) B (by unfold FUEL; omega) ⟨.refl _, 0, rfl, by omega, by simpa using AccL.nilS⟩
  rintro K m ⟨w, s⟩ H1 ⟨g1, i, rfl, hm, ha⟩ ih
  try dsimp only at *
  rw [r59_l0]
  by_cases h : i < l.length
  · have hg := hv.gr g1
    obtain ⟨E, hE, hE', gE, nE⟩ := sts2 H1 (.int .i64 l[i].1) (.int .i64 l[i].2) (.int .i64 0) (.int .i64 0)
    have gB := g1.trans gE
    refine Ok.pos (by omega) (Ok.ck (by omega) (Ok.ld (hg.ldI (i := i) (j := 0) h rfl) (Ok.ld (hg.ldI (i := i) (j := 1) h rfl) (Ok.ld hE (Ok.ld (ldI_get hE' rfl) (Ok.ld (ldI_get hE' rfl) ?_))))))
    refine Ok.bind (hf E l[i] gB (hD _ (List.getElem_mem h))) fun r H2 ⟨g2, hr⟩ => ?_
    subst hr
    refine Ok.ld rfl (Ok.ck rfl (Ok.ld rfl (Ok.ld rfl (Ok.ld rfl (Ok.ld rfl ?_)))))
    have gC := gB.trans g2
    refine Ok.bind ((ha.gr (gE.trans g2)).push gC (f l[i]) rfl rfl (by simp; omega)) fun w2 H3 ⟨ha3, g3, _⟩ => ?_
    rw [w64_succ (by omega)]
    refine ih (m - 1) (w2, _) H3 (by omega) ⟨g3, i + 1, rfl, by omega, ?_⟩
    rw [List.take_succ_eq_append_getElem h, List.map_append]
    exact ha3
  · rw [List.take_of_length_le (by omega)] at ha
    refine Ok.neg (by omega) (Ok.bind (r52_ok ha.sl (by simp; omega)) fun b H2 ⟨g2, hb2⟩ => ?_)
    subst hb2
    by_cases ho : offP (l.map f)
    · rw [decide_eq_true ho]
      simp only [if_pos ho]
      exact Ok.pos (by simp) (Ok.ret ⟨g1.trans g2, ha.sl.gr g2, rfl⟩)
    · rw [decide_eq_false ho]
      simp only [if_neg ho]
      exact Ok.neg (by simp) (Ok.ret ⟨g1.trans g2, rfl⟩)
end Go.Lt.P5
