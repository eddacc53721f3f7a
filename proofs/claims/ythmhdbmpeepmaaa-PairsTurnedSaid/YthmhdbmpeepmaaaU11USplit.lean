/- PLAIN LAWS OF WHAT IS COMPUTED, for the statement 'PairsTurned'. Nothing is asked of the input. -/
import Derived.Test.YthmhdbmpeepmaaaU11UOcc
import Derived.Test.YthmhdbmpeepmaaaLPrs
set_option linter.unusedVariables false
set_option linter.unusedSimpArgs false
set_option linter.unusedSimpArgs false
namespace Go.Lt.P8
open Go Go.Lt Go.Proofs
theorem okK_some {s : Int} {row : List Int} {k : Nat} {i : Int} (hs : 1 ≤ s) (hk : 1 ≤ k) (h : okK s row k = some i) :
    ∃ t : Nat, i = t ∧ ∃ (h1 : t < row.length), ∃ (h2 : t + k + s.toNat - 1 < row.length), row[t] = k ∧ row[t + k + s.toNat - 1] = k := by
  unfold okK at h
  rcases idxF_cases (k : Int) row 0 (Int.le_refl 0) with ⟨h1, h2⟩ | ⟨t, ht, h1, h2, h3⟩
  · simp only [h1] at h
    rw [if_pos (.inl (by decide))] at h
    cases h
  · simp only [h1] at h
    split at h
    · cases h
    · rename_i hc
      injection h with h
      have c1 : ¬ ((row.length : Int) ≤ 0 + (t : Int) + k + s - 1) := fun c => hc (.inr (.inl c))
      have c2 : ¬ (row.getD ((0 : Int) + (t : Int) + k + s - 1).toNat 0 ≠ (k : Int)) := fun c => hc (.inr (.inr (.inl c)))
      have ej : ((0 : Int) + (t : Int) + k + s - 1).toNat = t + k + s.toNat - 1 := by omega
      rw [ej] at c2
      have hlt : t + k + s.toNat - 1 < row.length := by omega
      refine ⟨t, by omega, ht, hlt, h2, ?_⟩
      rw [List.getD_eq_getElem?_getD, List.getElem?_eq_getElem hlt] at c2
      simpa using c2
theorem plF_some {s : Int} {row : List Int} : ∀ (m k : Nat) (acc l : List Int), plF s row m k acc = some l → ∃ l', l = acc ++ l' ∧ l'.length = m ∧ ∀ t (h : t < l'.length), okK s row (k + t) = some l'[t] := by
  intro m
  induction m with
  | zero => intro k acc l h; simp only [plF, Option.some.injEq] at h; exact ⟨[], by simp [h], rfl, fun t h => absurd h (by simp)⟩
  | succ m ih =>
    intro k acc l h
    rw [plF, Option.bind_eq_some_iff] at h
    obtain ⟨i, h1, h2⟩ := h
    obtain ⟨l', h3, h4, h5⟩ := ih _ _ _ h2
    refine ⟨i :: l', by rw [h3]; simp, by simp [h4], fun t ht => ?_⟩
    cases t with
    | zero => simpa using h1
    | succ t =>
      have := h5 t (by simpa using ht)
      rw [show k + 1 + t = k + (t + 1) by omega] at this
      simpa using this
/-- what places finds -/
theorem placesF_some {s : Int} {row l : List Int} (h : placesF s row = some l) : (s = 1 ∨ s = 2) ∧ 1 ≤ row.length / 2 ∧ row.length / 2 ≤ 8 ∧ row.length = 2 * (row.length / 2) ∧ l.length = row.length / 2 ∧
    ∀ k (hk : k < l.length), ∃ t : Nat, l[k] = t ∧ ∃ (h1 : t < row.length), ∃ (h2 : t + k + s.toNat < row.length), row[t] = (k + 1 : Nat) ∧ row[t + k + s.toNat] = (k + 1 : Nat) := by
  unfold placesF at h
  split at h
  · rename_i hc
    obtain ⟨l', h1, h2, h3⟩ := plF_some _ _ _ _ h
    simp only [List.nil_append] at h1
    subst h1
    refine ⟨hc.1, hc.2.1, hc.2.2.1, hc.2.2.2, h2, fun k hk => ?_⟩
    obtain ⟨t, e, h4, h5, h6, h7⟩ := okK_some (by omega) (by omega) (h3 k hk)
    refine ⟨t, e, h4, by omega, by rw [h6]; congr 1; omega, ?_⟩
    have e2 : t + (1 + k) + s.toNat - 1 = t + k + s.toNat := by omega
    simp only [e2] at h7
    rw [h7]; congr 1; omega
  · cases h

def splitF (l : List Int) (i : Nat) : List (Int × Int) := match l with
  | [] => []
  | x :: r => (x + 1, x + i + 2) :: splitF r (i + 1)
theorem splitF_get : ∀ (l : List Int) (i : Nat), (splitF l i).length = l.length ∧ ∀ k (h : k < (splitF l i).length) (h' : k < l.length), (splitF l i)[k] = (l[k] + 1, l[k] + (i + k : Nat) + 2) := by
  intro l
  induction l with
  | nil => intro i; exact ⟨rfl, fun k h => absurd h (by simp [splitF])⟩
  | cons x r ih =>
    intro i
    refine ⟨by simp [splitF, (ih (i + 1)).1], fun k h h' => ?_⟩
    cases k with
    | zero => simp [splitF]
    | succ k =>
      have := (ih (i + 1)).2 k (by simpa [splitF] using h) (by simpa using h')
      simp only [splitF, List.getElem_cons_succ]
      rw [this, show i + 1 + k = i + (k + 1) by omega]
end Go.Lt.P8
