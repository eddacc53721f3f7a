/- PLAIN LAWS OF WHAT IS COMPUTED, for the statement 'PairsTurned'. Nothing is asked of the input. -/
import Derived.Test.YthmhdbmpeepmaaaU11UOcc
import Derived.Test.YthmhdbmpeepmaaaU11URows2
import Derived.Test.YthmhdbmpeepmaaaU11UQ
import Derived.Test.YthmhdbmpeepmaaaU11UCmpL
import Derived.Test.YthmhdbmpeepmaaaLBits
import Derived.Test.YthmhdbmpeepmaaaLLst
set_option linter.unusedVariables false
set_option linter.unusedSimpArgs false
namespace Go.Lt
theorem gD_set (l : List Int) (i p : Nat) (x d : Int) (h : i < l.length) : (l.set i x).getD p d = if p = i then x else l.getD p d := by
  rw [List.getD_eq_getElem?_getD, List.getD_eq_getElem?_getD, List.getElem?_set]
  by_cases e : p = i
  · subst e; simp [h]
  · rw [if_neg (fun c => e c.symm), if_neg e]
theorem getD_at {l : List Int} {p : Nat} {d : Int} (h : p < l.length) : l.getD p d = l[p] := by
  rw [List.getD_eq_getElem?_getD, List.getElem?_eq_getElem h]; rfl
theorem getD_rev {l : List Int} {p : Nat} {d : Int} (h : p < l.length) : l.reverse.getD p d = l.getD (l.length - 1 - p) d := by
  rw [getD_at (by simpa using h), getD_at (by omega), List.getElem_reverse]
theorem counts_cons (x : Int) (r : List Int) : ∀ (ks : List Int), (ks.map fun k => (x :: r).count k).sum = (ks.map fun k => r.count k).sum + ks.count x := by
  intro ks
  induction ks with
  | nil => rfl
  | cons k ks ih =>
    rw [List.map_cons, List.sum_cons, ih, List.map_cons, List.sum_cons, List.count_cons, List.count_cons]
    by_cases h : k = x
    · subst h; simp; omega
    · have h' : ¬ x = k := fun e => h e.symm
      simp [h, h']; omega
theorem counts_le {ks : List Int} (hk : ks.Nodup) : ∀ (r : List Int), (ks.map fun k => r.count k).sum ≤ r.length := by
  intro r
  induction r with
  | nil =>
    have : ∀ (l : List Int), (l.map fun k => ([] : List Int).count k).sum = 0 := by
      intro l
      induction l with
      | nil => rfl
      | cons a l ih => simpa using ih
    rw [this]; simp
  | cons x r ih =>
    rw [counts_cons]
    have := List.nodup_iff_count.1 hk x
    simp only [List.length_cons]
    omega
theorem sum_ge {f : Int → Nat} : ∀ {ks : List Int}, (∀ k ∈ ks, 2 ≤ f k) → 2 * ks.length ≤ (ks.map f).sum := by
  intro ks
  induction ks with
  | nil => intro _; simp
  | cons k ks ih =>
    intro h
    have := ih fun j hj => h j (by simp [hj])
    have := h k (by simp)
    simp only [List.map_cons, List.sum_cons, List.length_cons]
    omega
theorem sum_gt {f : Int → Nat} : ∀ {ks : List Int}, (∀ k ∈ ks, 2 ≤ f k) → (∃ k ∈ ks, 3 ≤ f k) → 2 * ks.length + 1 ≤ (ks.map f).sum := by
  intro ks
  induction ks with
  | nil => rintro _ ⟨k, h, _⟩; simp at h
  | cons k ks ih =>
    rintro h ⟨j, hj, hf⟩
    simp only [List.map_cons, List.sum_cons, List.length_cons]
    have h1 := h k (by simp)
    have h2 := sum_ge fun j hj => h j (List.mem_cons_of_mem k hj)
    rcases List.mem_cons.1 hj with rfl | hj
    · omega
    · have := ih (fun j hj => h j (by simp [hj])) ⟨j, hj, hf⟩
      omega
end Go.Lt
namespace Go.Lt.P8
open Go Go.Lt Go.Proofs
theorem occ_has (x : Int) : ∀ (l : List Int) (i : Int) (p : Nat), p < l.length → l.getD p 0 = x → i + p ∈ occF l x i := by
  intro l
  induction l with
  | nil => intro i p h; simp at h
  | cons y l ih =>
    intro i p h e
    rw [occF]
    cases p with
    | zero =>
      have : y = x := by simpa using e
      simp [this]
    | succ p =>
      have := ih (i + 1) p (by simpa using h) (by simpa using e)
      rw [show i + ((p + 1 : Nat) : Int) = i + 1 + p by push_cast; omega]
      split
      · exact List.mem_cons_of_mem _ this
      · exact this
theorem occ_many {x : Int} {r : List Int} {ps : List Int} (hn : ps.Nodup) (h : ∀ p ∈ ps, 0 ≤ p ∧ p < r.length ∧ r.getD p.toNat 0 = x) : ps.length ≤ r.count x := by
  rw [← occ_count x r 0]
  refine nodup_sub hn fun p hp => ?_
  obtain ⟨h1, h2, h3⟩ := h p hp
  have := occ_has x r 0 p.toNat (by omega) h3
  rw [Int.toNat_of_nonneg h1] at this
  simpa using this

/-- a row, in plain words -/
def RowV (n s : Nat) (r : List Int) : Prop := r.length = 2 * n ∧ ∀ k, 1 ≤ k → k ≤ n → ∃ a, a + (k + s - 1) < 2 * n ∧ r.getD a 0 = k ∧ r.getD (a + (k + s - 1)) 0 = k
theorem RowV.reverse {n s : Nat} {r : List Int} (h : RowV n s r) : RowV n s r.reverse := by
  obtain ⟨hl, h⟩ := h
  refine ⟨by simpa using hl, fun k h1 h2 => ?_⟩
  obtain ⟨a, ha, e1, e2⟩ := h k h1 h2
  refine ⟨2 * n - 1 - (a + (k + s - 1)), by omega, ?_, ?_⟩
  · rw [getD_rev (by omega), ← e2]; congr 1; omega
  · rw [getD_rev (by omega), ← e1]; congr 1; omega
theorem RowV.two {n s : Nat} {r : List Int} (hs : 1 ≤ s) (h : RowV n s r) {k a p : Nat} (h1 : 1 ≤ k) (h2 : k ≤ n) (ha : a + (k + s - 1) < 2 * n) (e1 : r.getD a 0 = k) (e2 : r.getD (a + (k + s - 1)) 0 = k) (hp : p < 2 * n) (e : r.getD p 0 = k) : p = a ∨ p = a + (k + s - 1) := by
  apply Classical.byContradiction
  intro hc
  obtain ⟨hl, h⟩ := h
  have c3 : 3 ≤ r.count (k : Int) := occ_many (ps := [(a : Int), ((a + (k + s - 1) : Nat) : Int), (p : Int)]) (by simp; omega) (by
    intro q hq
    simp only [List.mem_cons, List.not_mem_nil, or_false] at hq
    rcases hq with rfl | rfl | rfl
    · exact ⟨by omega, by omega, by simpa using e1⟩
    · exact ⟨by omega, by omega, by rw [Int.toNat_natCast]; exact e2⟩
    · exact ⟨by omega, by omega, by simpa using e⟩)
  have hks : ((List.range' 1 n).map fun (x : Nat) => (x : Int)).Nodup := nodup_map (f := fun (x : Nat) => (x : Int)) (fun a b e => by simp only [Int.natCast_inj] at e; exact e) (List.nodup_range' (step := 1))
  have hle := counts_le hks r
  have hge := sum_gt (f := fun k => r.count k) (ks := (List.range' 1 n).map fun (x : Nat) => (x : Int)) (fun j hj => by
    obtain ⟨m, hm, rfl⟩ := List.mem_map.1 hj
    rw [List.mem_range'_1] at hm
    obtain ⟨b, hb, f1, f2⟩ := h m hm.1 (by omega)
    exact occ_many (ps := [(b : Int), ((b + (m + s - 1) : Nat) : Int)]) (by simp; omega) (by
      intro q hq
      simp only [List.mem_cons, List.not_mem_nil, or_false] at hq
      rcases hq with rfl | rfl
      · exact ⟨by omega, by omega, by simpa using f1⟩
      · exact ⟨by omega, by omega, by rw [Int.toNat_natCast]; exact f2⟩)) ⟨(k : Int), List.mem_map.2 ⟨k, by rw [List.mem_range'_1]; omega, rfl⟩, c3⟩
  simp only [List.length_map, List.length_range'] at hge
  omega
theorem okK_of {n s : Nat} {r : List Int} (hs : 1 ≤ s) (h : RowV n s r) {k : Nat} (h1 : 1 ≤ k) (h2 : k ≤ n) : ∃ i, okK s r k = some i := by
  obtain ⟨a, ha, e1, e2⟩ := h.2 k h1 h2
  have hl := h.1
  have hu := fun p hp e => h.two hs (p := p) h1 h2 ha e1 e2 hp e
  unfold okK
  rcases idxF_cases (k : Int) r 0 (Int.le_refl 0) with ⟨_, h4⟩ | ⟨t, ht, h3, h4, h5⟩
  · rw [getD_at (by omega)] at e1
    exact absurd (e1 ▸ List.getElem_mem _) h4
  · have hta : t = a := by
      rcases hu t (by omega) (by rw [getD_at ht]; exact h4) with e | e
      · exact e
      · exfalso
        refine h5 a (by omega) ?_
        rw [getD_at (by omega)] at e1; exact e1
    subst hta
    have ej : ((0 : Int) + (t : Int) + k + s - 1).toNat = t + (k + s - 1) := by omega
    simp only [h3]
    rw [if_neg]
    · exact ⟨_, rfl⟩
    rintro (c | c | c | c | c)
    · omega
    · omega
    · rw [ej] at c; exact c e2
    · obtain ⟨p, hp, e⟩ := List.mem_iff_getElem.1 c
      simp only [List.length_take, List.length_drop] at hp
      rw [List.getElem_take, List.getElem_drop] at e
      have := hu (((0 : Int) + (t : Int)).toNat + 1 + p) (by omega) (by rw [getD_at (by omega)]; exact e)
      omega
    · obtain ⟨p, hp, e⟩ := List.mem_iff_getElem.1 c
      simp only [List.length_drop] at hp
      rw [List.getElem_drop] at e
      have := hu (((0 : Int) + (t : Int) + k + s - 1).toNat + 1 + p) (by omega) (by rw [getD_at (by omega)]; exact e)
      omega
theorem plF_of {s : Int} {row : List Int} : ∀ (m k : Nat) (acc : List Int), (∀ t, t < m → ∃ i, okK s row (k + t) = some i) → ∃ l, plF s row m k acc = some l := by
  intro m
  induction m with
  | zero => intro k acc _; exact ⟨acc, rfl⟩
  | succ m ih =>
    intro k acc h
    obtain ⟨i, hi⟩ := h 0 (by omega)
    rw [Nat.add_zero] at hi
    rw [plF, hi]
    exact ih (k + 1) _ fun t ht => by have := h (t + 1) (by omega); rwa [show k + (t + 1) = k + 1 + t by omega] at this
theorem places_of {n s : Nat} {r : List Int} (hs : s = 1 ∨ s = 2) (hn1 : 1 ≤ n) (hn : n ≤ 8) (h : RowV n s r) : (placesF s r).isSome = true := by
  unfold placesF
  have hl := h.1
  rw [if_pos ⟨by omega, by omega, by omega, by omega⟩]
  obtain ⟨l, e⟩ := plF_of (s := (s : Int)) (row := r) (r.length / 2) 1 [] fun t ht => okK_of (by omega) h (by omega) (by omega)
  rw [e]; rfl
end Go.Lt.P8
