/- PLAIN LAWS OF WHAT IS COMPUTED, for the statement 'PairsRenamed'. Nothing is asked of the input. -/
import Derived.Test.YthmhdbmpeepmaaaU17UPinD
set_option linter.unusedVariables false
set_option linter.unusedSimpArgs false
namespace Go.Lt.P8
open Go Go.Lt Go.Proofs

def arrI (x : Int) (i : Nat) : List Int → Nat → List (Int × Int)
  | [], _ => []
  | y :: ys, j => ((i : Int) - j, x - y) :: arrI x i ys (j + 1)
theorem pinI_iff {x : Int} {i : Nat} : ∀ (ys : List Int) (j : Nat) (S S' : List (Int × Int)), S.Nodup → (pinI x i ys j S = some S' ↔ x ∉ ys ∧ S' = S ++ arrI x i ys j ∧ (S ++ arrI x i ys j).Nodup) := by
  intro ys
  induction ys with
  | nil =>
    intro j S S' hS
    simp only [pinI, arrI, List.append_nil, Option.some.injEq, List.not_mem_nil, not_false_eq_true, true_and]
    exact ⟨fun h => ⟨h.symm, hS⟩, fun h => h.1.symm⟩
  | cons y ys ih =>
    intro j S S' hS
    rw [pinI]
    by_cases h1 : x = y
    · rw [if_pos (.inl h1)]
      simp [h1]
    by_cases h2 : ((i : Int) - j, x - y) ∈ S
    · rw [if_pos (.inr h2)]
      constructor
      · intro h; cases h
      · rintro ⟨_, _, h⟩
        rw [List.nodup_append] at h
        exact absurd rfl (h.2.2 _ h2 _ (by simp [arrI]))
    · rw [if_neg (fun h => h.elim h1 h2)]
      have hS2 : (S ++ [((i : Int) - j, x - y)]).Nodup := by
        rw [List.nodup_append]
        exact ⟨hS, by simp, by rintro a ha b hb rfl; simp at hb; exact h2 (hb ▸ ha)⟩
      rw [ih (j + 1) _ S' hS2]
      simp only [arrI, List.append_assoc, List.singleton_append, List.mem_cons, not_or, h1, not_false_eq_true, true_and]
def arrO (l : List Int) : List Int → Nat → List (Int × Int)
  | [], _ => []
  | x :: xs, i => arrI x i (l.take i) 0 ++ arrO l xs (i + 1)
theorem pinO_iff {l : List Int} : ∀ (xs : List Int) (i : Nat) (S : List (Int × Int)), S.Nodup →
    (pinO l xs i S = true ↔ (∀ x ∈ xs, 0 ≤ x ∧ x < l.length) ∧ (∀ t (h : t < xs.length), xs[t] ∉ l.take (i + t)) ∧ (S ++ arrO l xs i).Nodup) := by
  intro xs
  induction xs with
  | nil => intro i S hS; simp [pinO, arrO, hS]
  | cons x xs ih =>
    intro i S hS
    rw [pinO]
    by_cases h1 : x < 0 ∨ (l.length : Int) ≤ x
    · rw [if_pos h1]
      constructor
      · intro h; cases h
      · rintro ⟨h, _⟩
        have := h x (by simp)
        omega
    · rw [if_neg h1]
      cases hp : pinI x i (l.take i) 0 S with
      | none =>
        simp only [Bool.false_eq_true, false_iff]
        rintro ⟨_, h3, h4⟩
        have := (pinI_iff (l.take i) 0 S (S ++ arrI x i (l.take i) 0) hS).2 ⟨by have := h3 0 (by simp); simpa using this, rfl, by
          rw [arrO, ← List.append_assoc] at h4
          exact (List.nodup_append.1 h4).1⟩
        rw [hp] at this
        cases this
      | some S' =>
        obtain ⟨h2, rfl, h4⟩ := (pinI_iff _ _ _ _ hS).1 hp
        simp only
        rw [ih (i + 1) _ h4, arrO, ← List.append_assoc]
        constructor
        · rintro ⟨a, b, c⟩
          refine ⟨fun y hy => ?_, fun t ht => ?_, c⟩
          · rcases List.mem_cons.1 hy with rfl | hy
            · omega
            · exact a y hy
          · cases t with
            | zero => simpa using h2
            | succ t => have := b t (by simpa using ht); rw [show i + 1 + t = i + (t + 1) by omega] at this; simpa using this
        · rintro ⟨a, b, c⟩
          refine ⟨fun y hy => a y (by simp [hy]), fun t ht => ?_, c⟩
          have := b (t + 1) (by simpa using ht)
          rw [show i + (t + 1) = i + 1 + t by omega] at this
          simpa using this
end Go.Lt.P8
namespace Go.Lt.P8
open Go Go.Lt Go.Proofs
theorem arrI_mem {x : Int} {i : Nat} {p : Int × Int} : ∀ {ys : List Int} {j : Nat}, p ∈ arrI x i ys j ↔ ∃ t, ∃ (h : t < ys.length), p = ((i : Int) - (j + t : Nat), x - ys[t]) := by
  intro ys
  induction ys with
  | nil => intro j; simp [arrI]
  | cons y ys ih =>
    intro j
    simp only [arrI, List.mem_cons, ih]
    constructor
    · rintro (rfl | ⟨t, h, rfl⟩)
      · exact ⟨0, by simp, by simp⟩
      · exact ⟨t + 1, by simp; omega, by simp; omega⟩
    · rintro ⟨t, h, rfl⟩
      cases t with
      | zero => left; simp
      | succ t => right; exact ⟨t, by simpa using h, by simp; omega⟩
theorem arrI_nodup {x : Int} {i : Nat} : ∀ {ys : List Int} {j : Nat}, (arrI x i ys j).Nodup := by
  intro ys
  induction ys with
  | nil => intro j; simp [arrI]
  | cons y ys ih =>
    intro j
    rw [arrI, List.nodup_cons]
    refine ⟨fun h => ?_, ih⟩
    obtain ⟨t, _, e⟩ := arrI_mem.1 h
    simp only [Prod.mk.injEq] at e
    omega
theorem arrO_mem {l : List Int} {p : Int × Int} : ∀ {xs : List Int} {i : Nat}, p ∈ arrO l xs i ↔ ∃ t, ∃ (h : t < xs.length), p ∈ arrI xs[t] (i + t) (l.take (i + t)) 0 := by
  intro xs
  induction xs with
  | nil => intro i; simp [arrO]
  | cons x xs ih =>
    intro i
    simp only [arrO, List.mem_append, ih]
    constructor
    · rintro (h | ⟨t, h, e⟩)
      · exact ⟨0, by simp, by simpa using h⟩
      · exact ⟨t + 1, by simpa using h, by rw [show i + (t + 1) = i + 1 + t by omega]; simpa using e⟩
    · rintro ⟨t, h, e⟩
      cases t with
      | zero => left; simpa using e
      | succ t => right; exact ⟨t, by simpa using h, by rw [show i + 1 + t = i + (t + 1) by omega]; simpa using e⟩
theorem arrO_nodup {l : List Int} : ∀ {xs : List Int} {i : Nat}, (arrO l xs i).Nodup ↔ ∀ t t' (h : t < xs.length) (h' : t' < xs.length), t < t' → ∀ p, p ∈ arrI xs[t] (i + t) (l.take (i + t)) 0 → p ∉ arrI xs[t'] (i + t') (l.take (i + t')) 0 := by
  intro xs
  induction xs with
  | nil => intro i; simp [arrO]
  | cons x xs ih =>
    intro i
    rw [arrO, List.nodup_append, ih]
    constructor
    · rintro ⟨_, h2, h3⟩ t t' ht ht' hlt p hp hp'
      cases t' with
      | zero => omega
      | succ t' =>
        cases t with
        | zero =>
          exact h3 p (by simpa using hp) p (arrO_mem.2 ⟨t', by simpa using ht', by rw [show i + 1 + t' = i + (t' + 1) by omega]; simpa using hp'⟩) rfl
        | succ t =>
          exact h2 t t' (by simpa using ht) (by simpa using ht') (by omega) p (by rw [show i + 1 + t = i + (t + 1) by omega]; simpa using hp) (by rw [show i + 1 + t' = i + (t' + 1) by omega]; simpa using hp')
    · intro h
      refine ⟨arrI_nodup, fun t t' ht ht' hlt p hp hp' => ?_, ?_⟩
      · exact h (t + 1) (t' + 1) (by simpa using ht) (by simpa using ht') (by omega) p (by rw [show i + (t + 1) = i + 1 + t by omega]; simpa using hp) (by rw [show i + (t' + 1) = i + 1 + t' by omega]; simpa using hp')
      · rintro p hp q hq rfl
        obtain ⟨t, ht, e⟩ := arrO_mem.1 hq
        exact h 0 (t + 1) (by simp) (by simpa using ht) (by omega) p (by simpa using hp) (by rw [show i + (t + 1) = i + 1 + t by omega]; simpa using e)

/-- pins, in plain words -/
structure Pins (l : List Int) : Prop where
  rng : ∀ i (h : i < l.length), 0 ≤ l[i] ∧ l[i] < l.length
  inj : ∀ i j (h : i < l.length) (h' : j < l.length), l[i] = l[j] → i = j
  arr : ∀ i j i' j' (h : i < l.length) (h' : i' < l.length), (hj : j < i) → (hj' : j' < i') → i - j = i' - j' → l[i] - l[j] = l[i'] - l[j'] → i = i'
theorem pinsF_iff (l : List Int) : pinsF l = true ↔ Pins l := by
  unfold pinsF
  rw [pinO_iff l 0 [] (by simp), List.nil_append, arrO_nodup]
  simp only [Nat.zero_add]
  constructor
  · rintro ⟨a, b, c⟩
    have inj : ∀ i j (h : i < l.length) (h' : j < l.length), j < i → l[i] ≠ l[j] := by
      intro i j h h' hlt e
      apply b i h
      rw [e]
      exact List.mem_iff_getElem.2 ⟨j, by simp; omega, by simp⟩
    refine ⟨fun i h => a _ (List.getElem_mem h), fun i j h h' e => ?_, fun i j i' j' h h' hj hj' e1 e2 => ?_⟩
    · rcases Nat.lt_trichotomy i j with hl | rfl | hl
      · exact absurd e.symm (inj j i h' h hl)
      · rfl
      · exact absurd e (inj i j h h' hl)
    · have m1 : ((i : Int) - (j : Int), l[i] - l[j]) ∈ arrI l[i] i (l.take i) 0 := arrI_mem.2 ⟨j, by simp; omega, by simp⟩
      have m2 : ((i' : Int) - (j' : Int), l[i'] - l[j']) ∈ arrI l[i'] i' (l.take i') 0 := arrI_mem.2 ⟨j', by simp; omega, by simp⟩
      have ee : ((i : Int) - (j : Int), l[i] - l[j]) = ((i' : Int) - (j' : Int), l[i'] - l[j']) := by rw [e2, show (i : Int) - j = (i' : Int) - j' by omega]
      rcases Nat.lt_trichotomy i i' with hl | rfl | hl
      · exact absurd (ee ▸ m2) (c i i' h h' hl _ m1)
      · rfl
      · exact absurd (ee ▸ m1) (c i' i h' h hl _ m2)
  · intro hp
    refine ⟨fun x hx => ?_, fun t h hm => ?_, fun t t' h h' hlt p hp1 hp2 => ?_⟩
    · obtain ⟨i, hi, rfl⟩ := List.mem_iff_getElem.1 hx
      exact hp.rng i hi
    · obtain ⟨j, hj, e⟩ := List.mem_iff_getElem.1 hm
      simp at hj e
      have := hp.inj _ _ _ _ e
      omega
    · obtain ⟨j, hj, e⟩ := arrI_mem.1 hp1
      obtain ⟨j', hj', e'⟩ := arrI_mem.1 hp2
      rw [e] at e'
      simp at hj hj' e'
      have := hp.arr t j t' j' h h' (by omega) (by omega) (by omega) e'.2
      omega
end Go.Lt.P8
