/- PLAIN LAWS OF WHAT IS COMPUTED, for the statement 'PairsRenamed'. Nothing is asked of the input. -/
import Derived.Test.YthmhdbmpeepmaaaU17UPinP
set_option linter.unusedVariables false
set_option linter.unusedSimpArgs false
namespace Go.Lt.P8
open Go Go.Lt Go.Proofs
theorem nodup_sub {l : List Int} : ∀ {m : List Int}, l.Nodup → (∀ x ∈ l, x ∈ m) → l.length ≤ m.length := by
  induction l with
  | nil => intro m _ _; simp
  | cons x l ih =>
    intro m hn hs
    rw [List.nodup_cons] at hn
    have hx := hs x (by simp)
    have := ih (m := m.erase x) hn.2 (fun y hy => by
      rw [List.mem_erase_of_ne (show y ≠ x by rintro rfl; exact hn.1 hy)]
      exact hs y (by simp [hy]))
    rw [List.length_erase_of_mem hx] at this
    have := List.length_pos_of_mem hx
    simp only [List.length_cons]
    omega
theorem onto {l : List Int} (hn : l.Nodup) (hr : ∀ x ∈ l, 0 ≤ x ∧ x < l.length) {a : Nat} (ha : a < l.length) : (a : Int) ∈ l := by
  apply Classical.byContradiction
  intro h
  have hm : ∀ x ∈ l, x ∈ (((List.range l.length).map fun (i : Nat) => (i : Int)).erase (a : Int)) := by
    intro x hx
    rw [List.mem_erase_of_ne (show x ≠ (a : Int) by rintro rfl; exact h hx)]
    have := hr x hx
    exact List.mem_map.2 ⟨x.toNat, by simp; omega, by omega⟩
  have h1 := nodup_sub hn hm
  rw [List.length_erase_of_mem (List.mem_map.2 ⟨a, by simpa using ha, rfl⟩)] at h1
  simp at h1
  omega
end Go.Lt.P8
namespace Go.Lt.P8
open Go Go.Lt Go.Proofs
end Go.Lt.P8
namespace Go.Lt.P8
open Go Go.Lt Go.Proofs
def qF (n : Nat) : List Int → Nat → List Int → List Int
  | [], _, q => q
  | x :: xs, i, q => qF n xs (i + 1) (q.set x.toNat ((n : Int) - 1 - i))
end Go.Lt.P8
namespace Go.Lt.P8
open Go Go.Lt Go.Proofs
theorem qF_get {n : Nat} : ∀ (xs : List Int) (i : Nat) (q : List Int), (∀ t (h : t < xs.length), 0 ≤ xs[t] ∧ xs[t] < q.length) → xs.Nodup →
    (qF n xs i q).length = q.length ∧ (∀ t (h : t < xs.length), (qF n xs i q)[xs[t].toNat]? = some ((n : Int) - 1 - (i + t : Nat))) ∧ ∀ a : Nat, (a : Int) ∉ xs → (qF n xs i q)[a]? = q[a]? := by
  intro xs
  induction xs with
  | nil => intro i q _ _; exact ⟨rfl, fun t h => absurd h (by simp), fun a _ => rfl⟩
  | cons x xs ih =>
    intro i q hr hn
    rw [List.nodup_cons] at hn
    have hx := hr 0 (by simp)
    simp only [List.getElem_cons_zero] at hx
    obtain ⟨h1, h2, h3⟩ := ih (i + 1) (q.set x.toNat ((n : Int) - 1 - i)) (fun t h => by have := hr (t + 1) (by simpa using h); simpa using this) hn.2
    refine ⟨by rw [qF, h1]; simp, fun t h => ?_, fun a ha => ?_⟩
    · cases t with
      | zero =>
        rw [qF, List.getElem_cons_zero, h3 x.toNat (by rw [Int.toNat_of_nonneg hx.1]; exact hn.1), List.getElem?_set_self (by omega)]
        simp
      | succ t =>
        have := h2 t (by simpa using h)
        rw [qF, List.getElem_cons_succ, this]
        congr 1
        omega
    · rw [List.mem_cons, not_or] at ha
      rw [qF, h3 a ha.2, List.getElem?_set_ne (by omega)]
/-- a quarter, in plain words -/
def quarter (l : List Int) : List Int := qF l.length l 0 (List.replicate l.length 0)
theorem Pins.nodup {l : List Int} (h : Pins l) : l.Nodup := by
  rw [List.nodup_iff_pairwise_ne, List.pairwise_iff_getElem]
  intro i j hi hj hlt e
  have := h.inj i j hi hj e
  omega
theorem quarter_get {l : List Int} (h : Pins l) : (quarter l).length = l.length ∧ ∀ t (ht : t < l.length), (quarter l)[l[t].toNat]? = some ((l.length : Int) - 1 - t) := by
  obtain ⟨h1, h2, _⟩ := qF_get (n := l.length) l 0 (List.replicate l.length 0) (fun t ht => by have := h.rng t ht; simpa using this) h.nodup
  refine ⟨by unfold quarter; rw [h1]; simp, fun t ht => ?_⟩
  have := h2 t ht
  rw [Nat.zero_add] at this
  exact this
end Go.Lt.P8
namespace Go.Lt.P8
open Go Go.Lt Go.Proofs
theorem Pins.onto {l : List Int} (h : Pins l) {a : Nat} (ha : a < l.length) : ∃ t, ∃ (ht : t < l.length), l[t] = (a : Int) := by
  have := P8.onto h.nodup (fun x hx => by obtain ⟨i, hi, rfl⟩ := List.mem_iff_getElem.1 hx; exact h.rng i hi) ha
  obtain ⟨t, ht, e⟩ := List.mem_iff_getElem.1 this
  exact ⟨t, ht, e⟩
theorem quarter_at {l : List Int} (h : Pins l) {a : Nat} (ha : a < (quarter l).length) : ∃ t, ∃ (ht : t < l.length), l[t] = (a : Int) ∧ (quarter l)[a] = (l.length : Int) - 1 - t := by
  obtain ⟨h1, h2⟩ := quarter_get h
  obtain ⟨t, ht, e⟩ := h.onto (a := a) (by omega)
  have h3 := h2 t ht
  rw [e, Int.toNat_natCast, List.getElem?_eq_getElem ha] at h3
  exact ⟨t, ht, e, by injection h3⟩
/-- pins turned by a quarter are pins -/
theorem Pins.quarter {l : List Int} (h : Pins l) : Pins (quarter l) := by
  have hl := (quarter_get h).1
  refine ⟨fun i hi => ?_, fun i j hi hj e => ?_, fun i j i' j' hi hi' hj hj' e1 e2 => ?_⟩
  · obtain ⟨t, ht, _, e⟩ := quarter_at h hi
    rw [e, hl]; omega
  · obtain ⟨t, ht, a1, b1⟩ := quarter_at h hi
    obtain ⟨s, hs, a2, b2⟩ := quarter_at h hj
    have : t = s := by omega
    subst this
    omega
  · obtain ⟨t, ht, a1, b1⟩ := quarter_at h hi
    obtain ⟨s, hs, a2, b2⟩ := quarter_at h (show j < _ by omega)
    obtain ⟨t', ht', a3, b3⟩ := quarter_at h hi'
    obtain ⟨s', hs', a4, b4⟩ := quarter_at h (show j' < _ by omega)
    rw [b1, b2, b3, b4] at e2
    have hd : l[t] - l[s] = l[t'] - l[s'] := by omega
    rcases Nat.lt_trichotomy s t with hlt | rfl | hgt
    · have := h.arr t s t' s' ht ht' hlt (by omega) (by omega) hd
      subst this
      omega
    · omega
    · have := h.arr s t s' t' hs hs' hgt (by omega) (by omega) (by omega)
      subst this
      omega
end Go.Lt.P8
namespace Go.Lt.P8
open Go Go.Lt Go.Proofs
theorem quarter_pt {l : List Int} (h : Pins l) {t a : Nat} (ht : t < l.length) (e : l[t] = (a : Int)) : ∃ (ha : a < (quarter l).length), (quarter l)[a] = ((l.length - 1 - t : Nat) : Int) := by
  obtain ⟨h1, h2⟩ := quarter_get h
  have hr := h.rng t ht
  have ha : a < (quarter l).length := by omega
  have h3 := h2 t ht
  rw [e, Int.toNat_natCast, List.getElem?_eq_getElem ha] at h3
  refine ⟨ha, ?_⟩
  injection h3 with h3
  rw [h3]
  omega
theorem quarter4 {l : List Int} (h : Pins l) : quarter (quarter (quarter (quarter l))) = l := by
  have p1 := h.quarter
  have p2 := p1.quarter
  have p3 := p2.quarter
  have l1 := (quarter_get h).1
  have l2 := (quarter_get p1).1
  have l3 := (quarter_get p2).1
  have l4 := (quarter_get p3).1
  apply List.ext_getElem (by omega)
  intro t ht ht2
  have hr := h.rng t ht2
  obtain ⟨a, ha⟩ : ∃ a : Nat, l[t] = (a : Int) := ⟨l[t].toNat, by omega⟩
  obtain ⟨b1, e1⟩ := quarter_pt h ht2 ha
  obtain ⟨b2, e2⟩ := quarter_pt p1 b1 e1
  obtain ⟨b3, e3⟩ := quarter_pt p2 b2 e2
  have e3' : (quarter (quarter (quarter l)))[(quarter l).length - 1 - a] = ((t : Nat) : Int) := by rw [e3]; congr 1; omega
  obtain ⟨b4, e4⟩ := quarter_pt p3 b3 e3'
  rw [e4, ha]
  congr 1
  omega
end Go.Lt.P8
