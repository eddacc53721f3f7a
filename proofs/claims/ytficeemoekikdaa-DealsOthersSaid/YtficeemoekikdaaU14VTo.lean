/- PLAIN LAWS OF WHAT IS COMPUTED, for the statement 'DealsOthers'. Nothing is asked of the input. -/
import Derived.Test.YtficeemoekikdaaU14VDl
import Derived.Test.YtficeemoekikdaaU14VEe
set_option linter.unusedVariables false
set_option linter.unusedSimpArgs false
namespace Go.Lt.P5
open Go.Lt
/-! ### the last deal on a way, by lines -/
def restF (t : Tr) (d : Pr) : Int := t.2.2 - t.1 * d.1 - t.2.1 * d.2
def perq (t : Tr) (u v : Rat) : Rat := (t.1 : Rat) * u + (t.2.1 : Rat) * v
theorem lq_step {t : Tr} {d : Pr} {u v s : Rat} : lq t ((d.1 : Rat) + s * u) ((d.2 : Rat) + s * v) ↔ s * perq t u v ≤ (restF t d : Rat) := by
  unfold lq perq restF
  rw [Rat.intCast_sub, Rat.intCast_sub, Rat.intCast_mul, Rat.intCast_mul]
  generalize (t.1 : Rat) = a at *
  generalize (t.2.1 : Rat) = b at *
  generalize (t.2.2 : Rat) = c at *
  constructor <;> intro h <;> grind
theorem perq_nn {t : Tr} {u v : Rat} (h : lb t) (hu : 0 ≤ u) (hv : 0 ≤ v) : 0 ≤ perq t u v := by
  unfold lb at h
  have h1 : (0 : Rat) ≤ t.1 := by exact_mod_cast h.1.1
  have h2 : (0 : Rat) ≤ t.2.1 := by exact_mod_cast h.2.1.1
  have m1 := Rat.mul_nonneg h1 hu
  have m2 := Rat.mul_nonneg h2 hv
  unfold perq
  grind
/-- where a search for the least stands -/
def MinSt (L : List Tr) (d : Pr) (u v : Rat) : Option Rat → Prop
  | none => ∀ t ∈ L, perq t u v = 0
  | some m => (∀ t ∈ L, perq t u v ≠ 0 → m * perq t u v ≤ (restF t d : Rat)) ∧ ∃ t ∈ L, perq t u v ≠ 0 ∧ m * perq t u v = (restF t d : Rat)
theorem MinSt.nil {d : Pr} {u v : Rat} : MinSt [] d u v none := fun _ h => by cases h
section
variable {L : List Tr} {d : Pr} {u v : Rat} {t : Tr}
theorem MinSt.skip {o : Option Rat} (h : MinSt L d u v o) (hp : perq t u v = 0) : MinSt (L ++ [t]) d u v o := by
  cases o with
  | none =>
    intro x hx
    rcases List.mem_append.1 hx with hx | hx
    · exact h x hx
    · rw [List.mem_singleton] at hx; subst hx; exact hp
  | some m =>
    refine ⟨fun x hx hne => ?_, ?_⟩
    · rcases List.mem_append.1 hx with hx | hx
      · exact h.1 x hx hne
      · rw [List.mem_singleton] at hx; subst hx; exact absurd hp hne
    · obtain ⟨x, hx, e⟩ := h.2
      exact ⟨x, List.mem_append_left _ hx, e⟩
theorem MinSt.take {n : Rat} {o : Option Rat} (h : MinSt L d u v o) (hL : ∀ t ∈ L, 0 ≤ perq t u v) (hp : 0 < perq t u v) (hn : n * perq t u v = (restF t d : Rat)) (ho : ∀ m, o = some m → n ≤ m) : MinSt (L ++ [t]) d u v (some n) := by
  refine ⟨fun x hx hne => ?_, t, by simp, by grind, hn⟩
  rcases List.mem_append.1 hx with hx | hx
  · cases o with
    | none => exact absurd (h x hx) hne
    | some m =>
      have h1 := h.1 x hx hne
      have h2 := Rat.mul_le_mul_of_nonneg_right (ho m rfl) (hL x hx)
      exact Rat.le_trans h2 h1
  · rw [List.mem_singleton] at hx; subst hx; rw [hn]; exact Rat.le_refl
theorem MinSt.keep {n m : Rat} (h : MinSt L d u v (some m)) (hp : 0 < perq t u v) (hn : n * perq t u v = (restF t d : Rat)) (ho : ¬ n < m) : MinSt (L ++ [t]) d u v (some m) := by
  refine ⟨fun x hx hne => ?_, ?_⟩
  · rcases List.mem_append.1 hx with hx | hx
    · exact h.1 x hx hne
    · rw [List.mem_singleton] at hx; subst hx
      rw [← hn]
      exact Rat.mul_le_mul_of_nonneg_right (by grind) (by grind)
  · obtain ⟨x, hx, e⟩ := h.2
    exact ⟨x, List.mem_append_left _ hx, e⟩
end
theorem MinSt.top {l : List Pr} {L : List Tr} {d : Pr} {u v m : Rat} (h : MinSt L d u v (some m)) (hL : ∀ x y, (∀ t ∈ L, lq t x y) ↔ reg l x y) (hn : ∀ t ∈ L, 0 ≤ perq t u v) (hr : ∀ t ∈ L, 0 ≤ restF t d) : IsTop l d u v m := by
  intro s
  rw [← hL]
  constructor
  · intro hs
    obtain ⟨t, ht, hne, he⟩ := h.2
    have h1 := lq_step.1 (hs t ht)
    rw [← he] at h1
    exact Rat.le_of_mul_le_mul_right h1 (by have := hn t ht; grind)
  · intro hs t ht
    rw [lq_step]
    by_cases c : perq t u v = 0
    · rw [c, Rat.mul_zero]
      exact_mod_cast hr t ht
    · exact Rat.le_trans (Rat.mul_le_mul_of_nonneg_right hs (hn t ht)) (h.1 t ht c)
/-- room -/
theorem room_iff {l : List Pr} {L : List Tr} {d : Pr} (hL : ∀ x y, (∀ t ∈ L, lq t x y) ↔ reg l x y) (hb : ∀ t ∈ L, lb t) : (∀ t ∈ L, 0 < restF t d) ↔ roomP l d := by
  constructor
  · intro h
    refine ⟨(d.1 : Rat) + 1 / 60 * 1, (d.2 : Rat) + 1 / 60 * 1, ?_, by grind, by grind⟩
    rw [← hL]
    intro t ht
    rw [lq_step]
    have h1 : (1 : Rat) ≤ (restF t d : Rat) := by exact_mod_cast h t ht
    obtain ⟨⟨_, a2⟩, ⟨_, b2⟩, _⟩ := hb t ht
    have a3 : (t.1 : Rat) ≤ 30 := by exact_mod_cast a2
    have b3 : (t.2.1 : Rat) ≤ 30 := by exact_mod_cast b2
    unfold perq
    grind
  · rintro ⟨x, y, hxy, hx, hy⟩ t ht
    have h1 := (hL x y).2 hxy t ht
    obtain ⟨⟨a1, _⟩, ⟨b1, _⟩, _, hne⟩ := hb t ht
    have : (0 : Rat) < (restF t d : Rat) := by
      unfold lq at h1
      unfold restF
      rw [Rat.intCast_sub, Rat.intCast_sub, Rat.intCast_mul, Rat.intCast_mul]
      have a3 : (0 : Rat) ≤ t.1 := by exact_mod_cast a1
      have b3 : (0 : Rat) ≤ t.2.1 := by exact_mod_cast b1
      have m1 := Rat.mul_nonneg a3 (show 0 ≤ x - d.1 by grind)
      have m2 := Rat.mul_nonneg b3 (show 0 ≤ y - d.2 by grind)
      rcases hne with c | c
      · have c' : (0 : Rat) < t.1 := by exact_mod_cast c
        have := Rat.mul_pos c' (show 0 < x - d.1 by grind)
        grind
      · have c' : (0 : Rat) < t.2.1 := by exact_mod_cast c
        have := Rat.mul_pos c' (show 0 < y - d.2 by grind)
        grind
    exact_mod_cast this
end Go.Lt.P5
