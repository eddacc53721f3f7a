/- PLAIN LAWS OF WHAT IS COMPUTED, for the statement 'DealsOthers'. Nothing is asked of the input. -/
import Derived.Test.YtficeemoekikdaaU14VLi
import Derived.Test.YtficeemoekikdaaU14VAt
set_option linter.unusedVariables false
set_option linter.unusedSimpArgs false
namespace Go.Lt.P5
open Go Go.Lt Go.Proofs
/-- a triple that isn't great -/
def tb (t : Tr) : Prop := -30 ≤ t.1 ∧ t.1 ≤ 30 ∧ -30 ≤ t.2.1 ∧ t.2.1 ≤ 30 ∧ -1800 ≤ t.2.2 ∧ t.2.2 ≤ 1800
/-- a point lies on a line or below it -/
def sat (t : Tr) (x y : Pr) : Prop := t.1 * x.1 * y.2 + t.2.1 * y.1 * x.2 ≤ t.2.2 * x.2 * y.2
instance (t : Tr) (x y : Pr) : Decidable (sat t x y) := by unfold sat; infer_instance
/-- the line through an offer and another one to the right of it and below -/
def candG (o p : Pr) : List Tr := if o.1 < p.1 ∧ p.2 < o.2 then [(o.2 - p.2, p.1 - o.1, (o.2 - p.2) * o.1 + (p.1 - o.1) * o.2)] else []
def candF (l : List Pr) (o : Pr) : List Tr := (1, 0, o.1) :: (0, 1, o.2) :: l.flatMap (candG o)
def cands (l : List Pr) : List Tr := l.flatMap (candF l)
/-- all offers lie under it -/
def keeps (l : List Pr) (t : Tr) : Prop := ∀ o ∈ l, t.1 * o.1 + t.2.1 * o.2 ≤ t.2.2
instance (l : List Pr) (t : Tr) : Decidable (keeps l t) := by unfold keeps; infer_instance
def limits (l : List Pr) : List Tr := (cands l).filter fun t => decide (keeps l t)
/-- each line of the chain is a limit -/
theorem line_limit {q l : List Pr} (hp : q.Perm l) (hs : q.Pairwise lexP) (hne : q ≠ []) : ∀ t ∈ linesF (chainF q).reverse, t ∈ limits l := by
  have hc := chain_ok hs
  have hn := hc.ne hne
  generalize chainF q = s at *
  have hpos := List.length_pos_iff.2 hn
  have hin : ∀ j, j < s.length → at' s j ∈ l := fun j hj => hp.mem_iff.1 (hc.sub _ (at_mem hj))
  intro t ht
  unfold linesF at ht
  rw [List.length_reverse] at ht
  unfold limits
  rw [List.mem_filter]
  rcases List.mem_cons.1 ht with rfl | ht
  · rw [at_rev hpos, Nat.sub_zero]
    refine ⟨List.mem_flatMap.2 ⟨_, hin (s.length - 1) (by omega), by unfold candF; simp⟩, decide_eq_true fun o ho => ?_⟩
    have := und_last s (hc.ud o (hp.mem_iff.2 ho)) hn
    dsimp only
    omega
  · rcases List.mem_cons.1 ht with rfl | ht
    · rw [at_rev (by omega), Nat.sub_self]
      refine ⟨List.mem_flatMap.2 ⟨_, hin 0 (by omega), by unfold candF; simp⟩, decide_eq_true fun o ho => ?_⟩
      match s, hn, hc with
      | a :: r, _, hc =>
        have := hc.top a r rfl o (hp.mem_iff.2 ho)
        have e : at' (a :: r) 0 = a := rfl
        rw [e]
        dsimp only
        omega
    · obtain ⟨i, hi, rfl⟩ := List.mem_map.1 ht
      rw [List.mem_range] at hi
      rw [at_rev (by omega), at_rev (by omega)]
      have ej : s.length - 1 - i = (s.length - 1 - (i + 1)) + 1 := by omega
      rw [ej]
      generalize hj : s.length - 1 - (i + 1) = j
      have hj1 : j + 1 < s.length := by omega
      have hcv := conv_at s hc.cv j hj1
      have hu := hin (j + 1) hj1
      have ht := hin j (by omega)
      have hund := fun o ho => und_at s (hc.ud o (hp.mem_iff.2 ho)) j hj1
      generalize at' s (j + 1) = u at *
      generalize at' s j = t at *
      refine ⟨List.mem_flatMap.2 ⟨u, hu, ?_⟩, decide_eq_true fun o ho => ?_⟩
      · unfold candF
        refine List.mem_cons_of_mem _ (List.mem_cons_of_mem _ (List.mem_flatMap.2 ⟨t, ht, ?_⟩))
        unfold candG lineB
        rw [if_pos ⟨hcv.1, hcv.2⟩, List.mem_singleton]
        have : (u.2 - t.2) * t.1 + (t.1 - u.1) * t.2 = (u.2 - t.2) * u.1 + (t.1 - u.1) * u.2 := by grind
        rw [this]
      · have := hund o ho
        unfold under at this
        unfold lineB
        dsimp only
        grind
end Go.Lt.P5
