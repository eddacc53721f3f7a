/- PLAIN LAWS OF WHAT IS COMPUTED, for the statement 'DealsEdges'. Nothing is asked of the input. -/
import Derived.Test.YtficeemoekikdaaU6VEp
import Derived.Test.YtficeemoekikdaaU6VRg
import Derived.Test.YtficeemoekikdaaU6VEg
import Derived.Test.YtficeemoekikdaaU6VEq
import Derived.Test.YtficeemoekikdaaLB
set_option linter.unusedVariables false
set_option linter.unusedSimpArgs false
namespace Go.Lt.P5
open Go Go.Lt Go.Proofs
theorem awakeC (k : Nat) (H : Hp) : appA k 19 [] H = some (.bool true, H) := rfl
theorem edgesLaw {H : Hp} {v : Sl} {l : List Pr} (hv : SL H v l) (hb : l.length < 9223372036854775808) : Ok (r6 (appA 20) v H) fun r _ => r = true := by
  unfold r6
  have ht : (l.take 11).length ≤ 1000 := by rw [List.length_take]; omega
  refine Ok.bind (r24_ok hv hb) fun w A ⟨gA, hw, _⟩ => ?_
  refine Ok.bind (P := fun r H' => Gr A H' ∧ if offP l then ∃ q, q.Perm l ∧ q.Pairwise lexP ∧ SL H' r.1 (chainF q).reverse ∧ r.2 = 0 else r = (⟨true, 0, 0, 0, 0, 0⟩, 2)) ?_ fun r B ⟨gB, hr⟩ => ?_
  · unfold r29
    refine Ok.bind (r52_ok hw ht) fun b C ⟨gC, hbC⟩ => ?_
    subst hbC
    by_cases ho : offP l
    · have hl8 := ho.2.1
      rw [List.take_of_length_le (by omega)] at hw ⊢
      rw [decide_eq_true ho]
      simp only [if_pos ho]
      exact Ok.pos (by simp) (Ok.bind (r56_ok (k := 18) (hw.gr gC) ho) fun u D ⟨gD, q, h1, h2, h3⟩ => Ok.ret ⟨gC.trans gD, q, h1, h2, h3, rfl⟩)
    · have ho' : ¬ offP (l.take 11) := fun c => ho ((off11 l).1 c)
      rw [decide_eq_false ho']
      simp only [if_neg ho]
      exact Ok.neg (by simp) (Ok.ret ⟨gC, rfl⟩)
  have gX := gA.trans gB
  refine Ok.bind (r26_ok (hv.gr gX) hb) fun o C ⟨gC, ho⟩ => ?_
  subst ho
  by_cases ho : offP l
  · rw [decide_eq_true ho]
    rw [if_pos ho] at hr
    obtain ⟨q, hperm, hlex, hs, he⟩ := hr
    have hl8 := ho.2.1
    have hl1 := ho.1
    refine Ok.pos rfl (Ok.bind (r31_ok (hv.gr (gX.trans gC)) ho) fun u D ⟨gD, E, hi, hE, hu⟩ => ?_)
    have hpl := hperm.length_eq
    have hne : q ≠ [] := by intro e; rw [e] at hpl; simp at hpl; omega
    have hc := chain_ok hlex
    have hcl := chainF_len q
    have heq := edge_eq hperm hc (hc.ne hne) hi hE
    rw [← heq] at hu
    refine Ok.bind (r30_ok (hs.gr (gC.trans gD)) hu (by simp; omega)) fun b F ⟨hF, hbF⟩ => ?_
    subst hF
    subst hbF
    exact Ok.pos (by simp) (Ok.pos he (Ok.ld (awakeC 20 _) (Ok.ld rfl (Ok.ret rfl))))
  · rw [decide_eq_false ho]
    rw [if_neg ho] at hr
    subst hr
    exact Ok.neg (by simp) (Ok.pos rfl (Ok.pos rfl (Ok.ld (awakeC 20 _) (Ok.ld rfl (Ok.ret rfl)))))
theorem lawCall6 (H : Hp) (xs : List AV) (_ : NoOwn H) (h : RdAs H [.sl (.rep 2 (.int .i64))] xs) : ∃ H1, CallSim Try.prog 6 xs H (.bool true) H1 := by
  obtain ⟨x, _, rfl, hx, rfl⟩ := h
  obtain ⟨v, l, rfl, hv, hb⟩ := rd_sl (enc_rep2 enc_int) hx
  obtain ⟨r, H1, h1, rfl⟩ := edgesLaw hv (by unfold maxLen at hb; omega)
  exact ⟨H1, sim6 (happ := appASim 20) h1⟩
end Go.Lt.P5
