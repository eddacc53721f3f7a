/- THE LIBRARY OF THESE PROOFS, A PART: an abstract heap, and that the model's steps keep to it. Nothing is asked of the input. -/
namespace Go.Lt
theorem nodup_map {α β : Type} {f : α → β} (hf : ∀ a b, f a = f b → a = b) {l : List α} (h : l.Nodup) : (l.map f).Nodup := by
  rw [List.nodup_iff_pairwise_ne, List.pairwise_map]
  exact (List.nodup_iff_pairwise_ne.1 h).imp fun hab e => hab (hf _ _ e)
theorem perm_of_sub {α : Type} [BEq α] [LawfulBEq α] : ∀ {l m : List α}, l.Nodup → (∀ x ∈ l, x ∈ m) → m.length ≤ l.length → l.Perm m := by
  intro l
  induction l with
  | nil =>
    intro m _ _ h
    have : m = [] := List.length_eq_zero_iff.1 (by simpa using h)
    subst this; exact .refl _
  | cons x l ih =>
    intro m hn hs hl
    rw [List.nodup_cons] at hn
    have hx := hs x (by simp)
    have h1 := ih (m := m.erase x) hn.2 (fun y hy => by
      rw [List.mem_erase_of_ne (show y ≠ x by rintro rfl; exact hn.1 hy)]
      exact hs y (by simp [hy])) (by rw [List.length_erase_of_mem hx]; simp at hl; omega)
    exact (List.Perm.cons x h1).trans (List.perm_cons_erase hx).symm
theorem nodup_inj {α : Type} {l : List α} (h : l.Nodup) {i j : Nat} (hi : i < l.length) (hj : j < l.length) (e : l[i] = l[j]) : i = j := by
  rw [List.nodup_iff_pairwise_ne, List.pairwise_iff_getElem] at h
  rcases Nat.lt_trichotomy i j with hlt | rfl | hgt
  · exact absurd e (h i j hi hj hlt)
  · rfl
  · exact absurd e.symm (h j i hj hi hgt)
theorem range_ints_nodup (n : Nat) : ((List.range n).map fun (x : Nat) => (x : Int)).Nodup := nodup_map (f := fun (x : Nat) => (x : Int)) (fun a b e => by simp only [Int.natCast_inj] at e; exact e) List.nodup_range
end Go.Lt
