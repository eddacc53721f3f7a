/- PLAIN LAWS OF WHAT IS COMPUTED, for the statement 'PairsSpread'. Nothing is asked of the input. -/
import Derived.Test.YthmhdbmpeepmaaaU12URrMp
import Derived.Test.YthmhdbmpeepmaaaU12UCmpL
set_option linter.unusedVariables false
set_option linter.unusedSimpArgs false
namespace Go.Lt.P8
open Go Go.Lt
abbrev Tr := Int × Int × Int
def prs3 (t : Tr) : List Pr := [(t.1, t.2.1), (t.1, t.2.2), (t.2.1, t.2.2)]
def inT (v : Nat) (t : Tr) : Prop := 0 ≤ t.1 ∧ t.1 < t.2.1 ∧ t.2.1 < t.2.2 ∧ t.2.2 < (v : Int)
instance (v : Nat) (t : Tr) : Decidable (inT v t) := by unfold inT; infer_instance
def list3 (t : Tr) : List Int := [t.1, t.2.1, t.2.2]
def cmpT (s t : Tr) : Int := cmpL (list3 s) (list3 t)
/-- all pairs of players, rising -/
def allP (v : Nat) : List Pr := rowB (fun _ _ => true) v v
def firstP (v : Nat) (S : List Pr) : Option Pr := (allP v).find? fun p => decide (p ∉ S)
/-- triples as the program sees them -/
def arT (v : Nat) : List Tr → Option Tr → List Pr → Option (List Pr)
  | [], _, S => some S
  | t :: ts, q, S => if ¬ inT v t ∨ (∃ p ∈ prs3 t, p ∈ S) ∨ q.any (fun y => decide (0 ≤ cmpT y t)) = true then none else arT v ts (some t) (S ++ prs3 t)
def areF (v : Nat) (l : List Tr) : Bool := match arT v l none [] with
  | none => false
  | some S => (firstP v S).isNone
/-- as the reference sees them -/
def arR (v : Nat) : List Tr → Option Tr → List Pr → Option (List Pr)
  | [], _, M => some M
  | t :: ts, q, M => if ¬ inT v t ∨ q.any (fun y => decide (0 ≤ cmpT y t)) = true then none else arR v ts (some t) (M ++ prs3 t)
def refF (v : Nat) (l : List Tr) : Bool := match arR v l none [] with
  | none => false
  | some M => (allP v).all fun p => M.count p == 1
def pairs3 (l : List Tr) : List Pr := l.flatMap prs3
def adj (l : List Tr) : Prop := ∀ j (h : j + 1 < l.length), cmpT l[j] l[j + 1] < 0
theorem prs3_nodup {v : Nat} {t : Tr} (h : inT v t) : (prs3 t).Nodup := by
  unfold inT at h
  simp only [prs3, List.nodup_cons, List.mem_cons, Prod.mk.injEq, List.not_mem_nil, or_false, not_or, not_false_eq_true, List.nodup_nil, and_true]
  omega
theorem pairs3_cons (t : Tr) (l : List Tr) : pairs3 (t :: l) = prs3 t ++ pairs3 l := rfl
theorem pairs3_append (a b : List Tr) : pairs3 (a ++ b) = pairs3 a ++ pairs3 b := by unfold pairs3; rw [List.flatMap_append]
theorem pairs3_len (l : List Tr) : (pairs3 l).length = 3 * l.length := by
  induction l with
  | nil => rfl
  | cons t l ih => rw [pairs3_cons, List.length_append, ih]; simp [prs3]; omega
def adjF : Option Tr → List Tr → Prop
  | _, [] => True
  | q, t :: ts => (∀ y, q = some y → cmpT y t < 0) ∧ adjF (some t) ts
theorem arR_some {v : Nat} : ∀ (l : List Tr) (q : Option Tr) (M M' : List Pr), arR v l q M = some M' ↔ (∀ t ∈ l, inT v t) ∧ adjF q l ∧ M' = M ++ pairs3 l := by
  intro l
  induction l with
  | nil => intro q M M'; simp only [arR, Option.some.injEq, adjF, pairs3]; simp; exact eq_comm
  | cons t l ih =>
    intro q M M'
    rw [arR]
    by_cases h : ¬ inT v t ∨ q.any (fun y => decide (0 ≤ cmpT y t)) = true
    · rw [if_pos h]
      constructor
      · intro c; cases c
      · rintro ⟨a, ⟨b, _⟩, _⟩
        rcases h with h | h
        · exact absurd (a t (by simp)) h
        · cases q with
          | none => simp at h
          | some y => have := b y rfl; simp at h; omega
    · rw [if_neg h, ih]
      simp only [not_or, Classical.not_not] at h
      constructor
      · rintro ⟨a, b, c⟩
        refine ⟨fun x hx => ?_, ⟨fun y hy => ?_, b⟩, by rw [c, pairs3_cons]; simp⟩
        · rcases List.mem_cons.1 hx with rfl | hx
          · exact h.1
          · exact a x hx
        · subst hy; have := h.2; simp at this; omega
      · rintro ⟨a, ⟨_, b⟩, c⟩
        exact ⟨fun x hx => a x (by simp [hx]), b, by rw [c, pairs3_cons]; simp⟩
theorem arT_some {v : Nat} : ∀ (l : List Tr) (q : Option Tr) (S S' : List Pr), S.Nodup → (arT v l q S = some S' ↔ (∀ t ∈ l, inT v t) ∧ adjF q l ∧ (S ++ pairs3 l).Nodup ∧ S' = S ++ pairs3 l) := by
  intro l
  induction l with
  | nil => intro q S S' hS; simp only [arT, Option.some.injEq, adjF, pairs3]; simp [hS]; exact eq_comm
  | cons t l ih =>
    intro q S S' hS
    rw [arT]
    by_cases h : ¬ inT v t ∨ (∃ p ∈ prs3 t, p ∈ S) ∨ q.any (fun y => decide (0 ≤ cmpT y t)) = true
    · rw [if_pos h]
      constructor
      · intro c; cases c
      · rintro ⟨a, ⟨b, _⟩, c, _⟩
        rcases h with h | ⟨p, h1, h2⟩ | h
        · exact absurd (a t (by simp)) h
        · rw [pairs3_cons, ← List.append_assoc] at c
          exact absurd rfl ((List.nodup_append.1 (List.nodup_append.1 c).1).2.2 p h2 p h1)
        · cases q with
          | none => simp at h
          | some y => have := b y rfl; simp at h; omega
    · rw [if_neg h]
      simp only [not_or, Classical.not_not, not_exists, not_and] at h
      obtain ⟨h1, h2, h3⟩ := h
      have hS2 : (S ++ prs3 t).Nodup := List.nodup_append.2 ⟨hS, prs3_nodup h1, fun x hx y hy e => h2 y hy (e ▸ hx)⟩
      rw [ih _ _ _ hS2]
      constructor
      · rintro ⟨a, b, c, d⟩
        refine ⟨fun x hx => ?_, ⟨fun y hy => ?_, b⟩, by rw [pairs3_cons, ← List.append_assoc]; exact c, by rw [d, pairs3_cons]; simp⟩
        · rcases List.mem_cons.1 hx with rfl | hx
          · exact h1
          · exact a x hx
        · subst hy; simp at h3; omega
      · rintro ⟨a, ⟨_, b⟩, c, d⟩
        rw [pairs3_cons, ← List.append_assoc] at c
        exact ⟨fun x hx => a x (by simp [hx]), b, c, by rw [d, pairs3_cons]; simp⟩
theorem selB_mem {c : Nat → Nat → Bool} {a t : Nat} {p : Pr} : p ∈ selB c a t ↔ ∃ b : Nat, a + 1 ≤ b ∧ b < a + 1 + t ∧ c a b = true ∧ p = ((a : Int), (b : Int)) := by
  unfold selB
  rw [List.mem_map]
  constructor
  · rintro ⟨b, hb, rfl⟩
    rw [List.mem_filter, List.mem_range'_1] at hb
    exact ⟨b, hb.1.1, hb.1.2, hb.2, rfl⟩
  · rintro ⟨b, h1, h2, h3, rfl⟩
    exact ⟨b, by rw [List.mem_filter, List.mem_range'_1]; exact ⟨⟨h1, h2⟩, h3⟩, rfl⟩
theorem allP_mem {v : Nat} {p : Pr} : p ∈ allP v ↔ 0 ≤ p.1 ∧ p.1 < p.2 ∧ p.2 < (v : Int) := by
  unfold allP rowB
  rw [List.mem_flatMap]
  constructor
  · rintro ⟨a, ha, h⟩
    obtain ⟨b, h1, h2, _, rfl⟩ := selB_mem.1 h
    rw [List.mem_range] at ha
    dsimp only; omega
  · rintro ⟨h1, h2, h3⟩
    refine ⟨p.1.toNat, by rw [List.mem_range]; omega, selB_mem.2 ⟨p.2.toNat, by omega, by omega, rfl, ?_⟩⟩
    exact Prod.ext (by simp; omega) (by simp; omega)
theorem prs3_all {v : Nat} {t : Tr} (h : inT v t) : ∀ p ∈ prs3 t, p ∈ allP v := by
  unfold inT at h
  intro p hp
  rw [allP_mem]
  simp only [prs3, List.mem_cons, List.not_mem_nil, or_false] at hp
  rcases hp with rfl | rfl | rfl <;> dsimp only <;> omega
/-- triples, in plain words -/
structure ThreesV (v : Nat) (l : List Tr) : Prop where
  rng : ∀ t ∈ l, inT v t
  up : adjF none l
  once : (pairs3 l).Nodup
  every : ∀ p ∈ allP v, p ∈ pairs3 l
theorem areF_iff {v : Nat} {l : List Tr} : areF v l = true ↔ ThreesV v l := by
  unfold areF
  constructor
  · intro h
    cases hq : arT v l none [] with
    | none => rw [hq] at h; cases h
    | some S =>
      rw [hq] at h
      obtain ⟨a, b, c, d⟩ := (arT_some _ _ _ _ (by simp)).1 hq
      rw [List.nil_append] at c d
      refine ⟨a, b, c, fun p hp => ?_⟩
      simp only [Option.isNone_iff_eq_none, firstP, List.find?_eq_none] at h
      have := h p hp
      subst d
      simpa using this
  · rintro ⟨a, b, c, d⟩
    rw [(arT_some l none [] (pairs3 l) (by simp)).2 ⟨a, b, by simpa using c, by simp⟩]
    simp only [Option.isNone_iff_eq_none, firstP, List.find?_eq_none]
    intro p hp
    simpa using d p hp
theorem refF_iff {v : Nat} {l : List Tr} : refF v l = true ↔ ThreesV v l := by
  unfold refF
  constructor
  · intro h
    cases hq : arR v l none [] with
    | none => rw [hq] at h; cases h
    | some M =>
      rw [hq] at h
      obtain ⟨a, b, d⟩ := (arR_some _ _ _ _).1 hq
      rw [List.nil_append] at d
      subst d
      simp only [List.all_eq_true, beq_iff_eq] at h
      refine ⟨a, b, List.nodup_iff_count.2 fun p => ?_, fun p hp => List.count_pos_iff.1 (by rw [h p hp]; omega)⟩
      by_cases hp : p ∈ pairs3 l
      · obtain ⟨t, ht, hpt⟩ := List.mem_flatMap.1 hp
        rw [h p (prs3_all (a t ht) p hpt)]
        exact Nat.le_refl _
      · rw [List.count_eq_zero.2 hp]; omega
  · rintro ⟨a, b, c, d⟩
    rw [(arR_some l none [] (pairs3 l)).2 ⟨a, b, by simp⟩]
    simp only [List.all_eq_true, beq_iff_eq]
    intro p hp
    have := List.nodup_iff_count.1 c p
    have := List.count_pos_iff.2 (d p hp)
    omega
theorem threes_eq (v : Nat) (l : List Tr) : areF v l = refF v l := by rw [Bool.eq_iff_iff, areF_iff, refF_iff]
theorem allP_len (v : Nat) : (allP v).length ≤ v * v := rowB_len _ v v
theorem allP_small : ∀ v ∈ [3, 4, 5, 6, 7, 8, 9], (allP v).length ≤ 36 ∧ (allP v).Nodup := by decide +kernel
theorem ThreesV.len {v : Nat} (hv : 3 ≤ v ∧ v ≤ 9) {l : List Tr} (h : ThreesV v l) : l.length ≤ 12 := by
  have h1 := (allP_small v (by simp; omega)).1
  have h2 := nodup_le h.once fun p hp => by
    obtain ⟨t, ht, hpt⟩ := List.mem_flatMap.1 hp
    exact prs3_all (h.rng t ht) p hpt
  rw [pairs3_len] at h2
  omega
end Go.Lt.P8
