/- PLAIN LAWS OF WHAT IS COMPUTED, for the statement 'DealsOthers'. Nothing is asked of the input. -/
import Derived.Test.YtficeemoekikdaaU14VEp
import Derived.Test.YtficeemoekikdaaU14VLm
set_option linter.unusedVariables false
set_option linter.unusedSimpArgs false
namespace Go.Lt.P5
open Go Go.Lt Go.Proofs
/-- what the edge is -/
structure EdgeP (l e : List Pr) : Prop where
  pos : 0 < e.length
  le : e.length ≤ 8
  mem : ∀ i, i < e.length → at' e i ∈ l
  step : ∀ i, i + 1 < e.length → (at' e i).1 < (at' e (i + 1)).1 ∧ (at' e (i + 1)).2 < (at' e i).2
  turn : ∀ i, i + 2 < e.length → turn (at' e i) (at' e (i + 1)) (at' e (i + 2)) < 0
  last : ∀ i, i < e.length → ∀ y ∈ l, ¬ dom (at' e i) y
  out : ∀ y ∈ l, y.2 ≤ (at' e 0).2 ∧ y.1 ≤ (at' e (e.length - 1)).1
theorem edgeP {q l : List Pr} (ho : offP l) (hp : q.Perm l) (hs : q.Pairwise lexP) : EdgeP l (chainF q).reverse := by
  have hpl := hp.length_eq
  have h1 := ho.1
  have h8 := ho.2.1
  have hne : q ≠ [] := by intro e; rw [e] at hpl; simp at hpl; omega
  have hcl := chainF_len q
  have hc := chain_ok hs
  have hn := hc.ne hne
  generalize chainF q = s at *
  have hpos := List.length_pos_iff.2 hn
  have hl : s.reverse.length = s.length := by simp
  have hin : ∀ j, j < s.length → at' s j ∈ l := fun j hj => hp.mem_iff.1 (hc.sub _ (at_mem hj))
  refine ⟨by omega, by omega, fun i hi => ?_, fun i hi => ?_, fun i hi => ?_, fun i hi y hy => ?_, fun y hy => ?_⟩
  · rw [at_rev (by omega)]; exact hin _ (by omega)
  · rw [at_rev (by omega), at_rev (by omega)]
    have := conv_at s hc.cv (s.length - 1 - (i + 1)) (by omega)
    rw [show s.length - 1 - (i + 1) + 1 = s.length - 1 - i by omega] at this
    exact this
  · rw [at_rev (by omega), at_rev (by omega), at_rev (by omega)]
    have := conv_turn s hc.cv (s.length - 1 - (i + 2)) (by omega)
    rw [show s.length - 1 - (i + 2) + 2 = s.length - 1 - i by omega, show s.length - 1 - (i + 2) + 1 = s.length - 1 - (i + 1) by omega] at this
    exact this
  · rw [at_rev (by omega)]
    exact (corner_last hp hc (show s.length - 1 - i < s.length by omega) y hy).1
  · rw [hl, at_rev (by omega), at_rev (by omega), Nat.sub_zero, Nat.sub_self]
    refine ⟨und_last s (hc.ud y (hp.mem_iff.2 hy)) hn, ?_⟩
    match s, hn, hc with
    | t :: r, _, hc => exact (hc.top t r rfl y (hp.mem_iff.2 hy)).1
/-- in one order alone -/
theorem lex_uniq {q q' l : List Pr} (h : q.Perm l) (h' : q'.Perm l) (hs : q.Pairwise lexP) (hs' : q'.Pairwise lexP) : q = q' :=
  List.Perm.eq_of_pairwise (le := lexP) (fun a b _ _ h1 h2 => by unfold lexP at h1 h2; omega) hs hs' (h.trans h'.symm)
/-- the lines' terms -/
def lb (t : Tr) : Prop := (0 ≤ t.1 ∧ t.1 ≤ 30) ∧ (0 ≤ t.2.1 ∧ t.2.1 ≤ 30) ∧ (0 ≤ t.2.2 ∧ t.2.2 ≤ 1800) ∧ (0 < t.1 ∨ 0 < t.2.1)
theorem lineB_lb {u t : Pr} (hu : num u) (ht : num t) (h1 : u.1 < t.1) (h2 : t.2 < u.2) : lb (lineB u t) ∧ 0 < (lineB u t).1 ∧ 0 < (lineB u t).2.1 := by
  unfold num at hu ht
  have b1 := pr_bd (x := u.2 - t.2) (y := t.1) (by omega) (by omega) (by omega) (by omega)
  have b2 := pr_bd (x := t.1 - u.1) (y := t.2) (by omega) (by omega) (by omega) (by omega)
  have b3 : 0 ≤ (u.2 - t.2) * t.1 := Int.mul_nonneg (by omega) (by omega)
  have b4 : 0 ≤ (t.1 - u.1) * t.2 := Int.mul_nonneg (by omega) (by omega)
  unfold lb lineB
  dsimp only
  omega
theorem EdgeP.lines {l e : List Pr} (ho : offP l) (h : EdgeP l e) : (linesF e).length = e.length + 1 ∧ ∀ t ∈ linesF e, lb t := by
  have hn := fun i hi => ho.2.2.1 _ (h.mem i hi)
  have hp := h.pos
  refine ⟨by unfold linesF; simp; omega, fun t ht => ?_⟩
  unfold linesF at ht
  rcases List.mem_cons.1 ht with rfl | ht
  · have := hn 0 hp; unfold num at this; unfold lb; dsimp only; omega
  · rcases List.mem_cons.1 ht with rfl | ht
    · have := hn (e.length - 1) (by omega); unfold num at this; unfold lb; dsimp only; omega
    · obtain ⟨i, hi, rfl⟩ := List.mem_map.1 ht
      rw [List.mem_range] at hi
      have := h.step i (by omega)
      exact (lineB_lb (hn i (by omega)) (hn (i + 1) (by omega)) this.1 this.2).1
theorem EdgeP.top {l e : List Pr} (h : EdgeP l e) : (0, 1, (at' e 0).2) ∈ linesF e ∧ (1, 0, (at' e (e.length - 1)).1) ∈ linesF e := by
  unfold linesF; simp
end Go.Lt.P5
