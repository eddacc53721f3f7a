/- PLAIN LAWS OF WHAT IS COMPUTED, for the statement 'PairsSpread'. Nothing is asked of the input. -/
import Derived.Test.YthmhdbmpeepmaaaLB
import Derived.Test.YthmhdbmpeepmaaaG12A
set_option linter.unusedVariables false
set_option linter.unusedSimpArgs false
namespace Go.Lt.P8
open Go Go.Lt Go.Proofs

def idxF : List Int → Int → Int → Int
  | [], _, _ => -1
  | y :: l, x, i => if x = y then i else idxF l x (i + 1)

theorem idxF_cases (x : Int) : ∀ (l : List Int) (i : Int), 0 ≤ i → (idxF l x i = -1 ∧ x ∉ l) ∨ ∃ t, ∃ (h : t < l.length), idxF l x i = i + t ∧ l[t] = x ∧ ∀ j (hj : j < t), l[j] ≠ x := by
  intro l
  induction l with
  | nil => intro i hi; exact .inl ⟨rfl, by simp⟩
  | cons y l ih =>
    intro i hi
    unfold idxF
    by_cases h : x = y
    · rw [if_pos h]
      exact .inr ⟨0, by simp, by simp, h.symm, fun j hj => absurd hj (by omega)⟩
    · rw [if_neg h]
      rcases ih (i + 1) (by omega) with ⟨h1, h2⟩ | ⟨t, ht, h1, h2, h3⟩
      · exact .inl ⟨h1, by simp [h, h2]⟩
      · refine .inr ⟨t + 1, by simp; omega, by rw [h1]; push_cast; omega, by simpa using h2, fun j hj => ?_⟩
        cases j with
        | zero => exact fun e => h e.symm
        | succ j => simpa using h3 j (by omega)

theorem idx_at {row : List Int} {t : Nat} (ht : t < row.length) (h : row[t] = 0) (hb : ∀ j (hj : j < t), row[j] ≠ 0) : idxF row 0 0 = t := by
  rcases idxF_cases 0 row 0 (Int.le_refl 0) with ⟨_, h2⟩ | ⟨t', ht', h1, h2, h3⟩
  · exact absurd (h ▸ List.getElem_mem ht) h2
  · rcases Nat.lt_trichotomy t t' with hlt | rfl | hgt
    · exact absurd h (h3 t hlt)
    · omega
    · exact absurd h2 (hb t' hgt)
theorem idx_none {row : List Int} (hb : ∀ j (hj : j < row.length), row[j] ≠ 0) : idxF row 0 0 = -1 := by
  rcases idxF_cases 0 row 0 (Int.le_refl 0) with ⟨h1, _⟩ | ⟨t', ht', h1, h2, h3⟩
  · exact h1
  · exact absurd h2 (hb t' ht')

theorem r108_loop {H : Hp} {v : Sl} {l : List Int} (h : Ints H v l) (hb : l.length < 4611686018427387904) (x : Int) : ∀ (suf : List Int) (i k : Nat), l.drop i = suf → i ≤ l.length → suf.length < k →
    r108_l0 k v x (v.len : Int) (i : Int) H = some (idxF suf x i, H) := by
  intro suf
  induction suf with
  | nil =>
    intro i k hd hi hk
    obtain ⟨k, rfl⟩ : ∃ j, k = j + 1 := ⟨k - 1, by omega⟩
    have hlen := h.len
    have : ¬ i < l.length := fun hlt => by rw [List.drop_eq_getElem_cons hlt] at hd; cases hd
    rw [r108_l0, if_neg (by omega)]
    rfl
  | cons y suf ih =>
    intro i k hd hi hk
    obtain ⟨k, rfl⟩ : ∃ j, k = j + 1 := ⟨k - 1, by omega⟩
    have hlen := h.len
    have hlt : i < l.length := by
      rcases Nat.lt_or_ge i l.length with hlt | hge
      · exact hlt
      · rw [List.drop_eq_nil_of_le hge] at hd; cases hd
    rw [List.drop_eq_getElem_cons hlt] at hd
    injection hd with hd1 hd2
    rw [r108_l0, if_pos (by omega)]
    simp only [ck, Int.toNat_natCast, Nat.mul_one]
    rw [if_pos (by omega), h.ldI hlt]
    simp only [Option.bind_some, hd1, idxF]
    split
    · rfl
    · rw [w64_id (by omega) (by omega)]
      exact ih (i + 1) k hd2 (by omega) (by simpa using hk)
theorem r108_spec {H : Hp} {v : Sl} {l : List Int} (h : Ints H v l) (hb : l.length < 4611686018427387904) (x : Int) : r108 v x H = some (idxF l x 0, H) :=
  r108_loop h hb x l 0 FUEL rfl (by omega) (by unfold FUEL; omega)
end Go.Lt.P8
