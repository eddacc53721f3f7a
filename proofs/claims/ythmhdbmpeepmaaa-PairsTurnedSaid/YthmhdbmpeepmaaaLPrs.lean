/- THE LIBRARY OF THESE PROOFS, A PART: an abstract heap, and that the model's steps keep to it. Nothing is asked of the input. -/
import Derived.Test.YthmhdbmpeepmaaaLBits
set_option linter.unusedVariables false
namespace Go.Lt
/-- the cells of pairs -/
def prC (ps : List (Int × Int)) : List AV := ps.flatMap fun p => [.int .i64 p.1, .int .i64 p.2]
theorem prC_length (ps : List (Int × Int)) : (prC ps).length = ps.length * 2 := by
  induction ps with
  | nil => rfl
  | cons p ps ih => simp only [prC, List.flatMap_cons, List.length_append, List.length_cons, List.length_nil] at *; omega
theorem prC_get (ps : List (Int × Int)) : ∀ (i : Nat) (h : i < ps.length), (prC ps)[i * 2]? = some (.int .i64 ps[i].1) ∧ (prC ps)[i * 2 + 1]? = some (.int .i64 ps[i].2) := by
  induction ps with
  | nil => intro i h; simp at h
  | cons p ps ih =>
    intro i h
    cases i with
    | zero => exact ⟨rfl, rfl⟩
    | succ i =>
      have := ih i (by simpa using h)
      have e : prC (p :: ps) = [AV.int .i64 p.1, .int .i64 p.2] ++ prC ps := rfl
      rw [e, show (i + 1) * 2 = i * 2 + 2 by omega, List.getElem?_append_right (by simp), List.getElem?_append_right (by simp)]
      simpa using this
def Prs (H : Hp) (v : Sl) (ps : List (Int × Int)) : Prop := Cs H 2 v (prC ps)
theorem Prs.len {H : Hp} {v : Sl} {ps : List (Int × Int)} (h : Prs H v ps) : v.len = ps.length := by
  have := h.1; rw [prC_length] at this; omega
theorem Prs.ld1 {H : Hp} {v : Sl} {ps : List (Int × Int)} (h : Prs H v ps) {i : Nat} (hi : i < ps.length) : H.ldI .i64 v.b (v.o + i * 2) = some ps[i].1 := by
  have h1 := (prC_get ps i hi).1
  have hl : i * 2 < (prC ps).length := by rw [prC_length]; omega
  rw [List.getElem?_eq_getElem hl] at h1
  have h2 := Cs.ld h hl
  injection h1 with h1
  rw [h1] at h2
  simp [Hp.ldI, h2, AV.asI]
theorem Prs.ld2 {H : Hp} {v : Sl} {ps : List (Int × Int)} (h : Prs H v ps) {i : Nat} (hi : i < ps.length) : H.ldI .i64 v.b (v.o + i * 2 + 1) = some ps[i].2 := by
  have h1 := (prC_get ps i hi).2
  have hl : i * 2 + 1 < (prC ps).length := by rw [prC_length]; omega
  rw [List.getElem?_eq_getElem hl] at h1
  have h2 := Cs.ld h hl
  injection h1 with h1
  rw [h1] at h2
  rw [show v.o + i * 2 + 1 = v.o + (i * 2 + 1) by omega]
  simp [Hp.ldI, h2, AV.asI]
theorem Prs.gr {H H' : Hp} (g : Gr H H') {v : Sl} {ps : List (Int × Int)} (h : Prs H v ps) : Prs H' v ps := Cs.gr g h

/-- a pair laid in a block of its own -/
theorem sts2 (H : Hp) (x y a b : AV) : ∃ D, (H.push (.cells [a, b] false)).sts H.n 0 [x, y] = some D ∧ D.get H.n = some (.cells [x, y] false) ∧ Gr H D ∧ D.n = H.n + 1 := by
  refine ⟨((H.push (.cells [a, b] false)).set H.n (.cells [x, b] false)).set H.n (.cells [x, y] false), ?_, Hp.get_set_same _ _ (by simp), ⟨by simp, fun c hc => ?_⟩, by simp⟩
  · simp only [Hp.sts]
    rw [st_eq (b := H.n) (cs := [a, b]) (by simp) (by simp)]
    simp only [Option.bind_some, List.set_cons_zero, Nat.zero_add]
    rw [st_eq (b := H.n) (cs := [x, b]) (Hp.get_set_same _ _ (by simp)) (by simp)]
    rfl
  · rw [Hp.get_set_other _ _ (by omega), Hp.get_set_other _ _ (by omega), Hp.get_push_old _ _ hc]
end Go.Lt
