/- PLAIN LAWS OF WHAT IS COMPUTED, for the statement 'PairsRenamed'. Nothing is asked of the input. -/
import Derived.Test.YthmhdbmpeepmaaaU17UIdx
set_option linter.unusedVariables false
set_option linter.unusedSimpArgs false
namespace Go.Lt.P8
open Go Go.Lt Go.Proofs
def occF : List Int → Int → Int → List Int
  | [], _, _ => []
  | y :: l, x, i => if y = x then i :: occF l x (i + 1) else occF l x (i + 1)
theorem occF_append (x : Int) : ∀ (a b : List Int) (i : Int), occF (a ++ b) x i = occF a x i ++ occF b x (i + a.length) := by
  intro a
  induction a with
  | nil => intro b i; simp [occF]
  | cons y a ih =>
    intro b i
    simp only [List.cons_append, occF, List.length_cons]
    rw [ih b (i + 1), show i + 1 + (a.length : Int) = i + ((a.length + 1 : Nat) : Int) by push_cast; omega]
    split <;> simp
theorem occF_nil {x : Int} : ∀ {l : List Int} {i : Int}, occF l x i = [] ↔ x ∉ l := by
  intro l
  induction l with
  | nil => intro i; simp [occF]
  | cons y l ih =>
    intro i
    simp only [occF, List.mem_cons]
    split
    · rename_i h; simp [h]
    · rename_i h; rw [ih]; simp [Ne.symm h]
theorem occF_mem {x : Int} : ∀ {l : List Int} {i q : Int}, q ∈ occF l x i → ∃ t, ∃ (h : t < l.length), q = i + t ∧ l[t] = x := by
  intro l
  induction l with
  | nil => intro i q h; simp [occF] at h
  | cons y l ih =>
    intro i q h
    simp only [occF] at h
    split at h
    · rename_i hy
      rcases List.mem_cons.1 h with rfl | h
      · exact ⟨0, by simp, by simp, hy⟩
      · obtain ⟨t, ht, rfl, e⟩ := ih h
        exact ⟨t + 1, by simp; omega, by push_cast; omega, by simpa using e⟩
    · obtain ⟨t, ht, rfl, e⟩ := ih h
      exact ⟨t + 1, by simp; omega, by push_cast; omega, by simpa using e⟩
theorem occF_bound (x : Int) : ∀ (l : List Int) (i : Int), (occF l x i).length ≤ l.length := by
  intro l
  induction l with
  | nil => intro i; simp [occF]
  | cons y l ih =>
    intro i
    simp only [occF]
    split
    · simp only [List.length_cons]; have := ih (i + 1); omega
    · simp only [List.length_cons]; have := ih (i + 1); omega

/-- what the program asks of one number -/
def okK (s : Int) (row : List Int) (k : Nat) : Option Int :=
  let i := idxF row k 0
  let j := i + k + s - 1
  if i < 0 ∨ (row.length : Int) ≤ j ∨ row.getD j.toNat 0 ≠ k ∨ (k : Int) ∈ (row.drop (i.toNat + 1)).take (j.toNat - (i.toNat + 1)) ∨ (k : Int) ∈ row.drop (j.toNat + 1) then none else some i

theorem okK_ref {s : Int} {row : List Int} {k : Nat} (hs : 1 ≤ s) (hk : 1 ≤ k) : okK s row k = if (occF row k 0).length = 2 ∧ (occF row k 0).getD 1 0 - (occF row k 0).getD 0 0 = k + s - 1 then some ((occF row k 0).getD 0 0) else none := by
  unfold okK
  rcases idxF_cases (k : Int) row 0 (Int.le_refl 0) with ⟨h1, h2⟩ | ⟨t, ht, h1, h2, h3⟩
  · simp only [h1]
    rw [if_pos (.inl (by decide)), occF_nil.2 h2]
    simp
  · simp only [h1]
    have hti : ((0 : Int) + (t : Int)).toNat = t := by omega
    simp only [hti]
    have hfront : occF (row.take (t + 1)) k 0 = [(t : Int)] := by
      rw [List.take_succ_eq_append_getElem ht, occF_append, occF_nil.2]
      · simp [occF, h2]; omega
      · intro hm
        obtain ⟨j, hj, e⟩ := List.mem_iff_getElem.1 hm
        simp at hj
        exact h3 j (by omega) (by simpa using e)
    have hsplit : occF row k 0 = [(t : Int)] ++ occF (row.drop (t + 1)) k (t + 1) := by
      conv => lhs; rw [← List.take_append_drop (t + 1) row]
      rw [occF_append, hfront]
      simp only [List.length_take]
      rw [Nat.min_eq_left (by omega)]
      simp
    by_cases hj : (row.length : Int) ≤ 0 + (t : Int) + k + s - 1
    · rw [if_pos (.inr (.inl hj)), if_neg]
      rintro ⟨hl, hd⟩
      rw [hsplit] at hl hd
      match hocc : occF (row.drop (t + 1)) k (t + 1), hl with
      | [q], _ =>
        rw [hocc] at hd
        simp at hd
        obtain ⟨p, hp, e, _⟩ := occF_mem (x := (k : Int)) (l := row.drop (t + 1)) (i := t + 1) (q := q) (by rw [hocc]; simp)
        simp at hp
        omega
    · obtain ⟨j, hj'⟩ : ∃ j : Nat, (0 : Int) + (t : Int) + k + s - 1 = j := ⟨(0 + (t : Int) + k + s - 1).toNat, by omega⟩
      rw [hj']
      simp only [Int.toNat_natCast]
      have hjl : j < row.length := by omega
      have hmid : occF (row.drop (t + 1)) k (t + 1) = occF ((row.drop (t + 1)).take (j - (t + 1))) k (t + 1) ++ (if row[j] = (k : Int) then [(j : Int)] else []) ++ occF (row.drop (j + 1)) k (j + 1) := by
        conv => lhs; rw [← List.take_append_drop (j - (t + 1)) (row.drop (t + 1))]
        rw [occF_append, List.append_assoc]
        congr 1
        rw [List.drop_drop, List.length_take, List.length_drop, Nat.min_eq_left (by omega), show t + 1 + (j - (t + 1)) = j by omega, List.drop_eq_getElem_cons hjl]
        simp only [occF]
        rw [show (t : Int) + 1 + ((j - (t + 1) : Nat) : Int) = j by omega]
        split <;> simp
      rw [hmid] at hsplit
      by_cases hrow : row[j] = (k : Int)
      · rw [if_pos hrow] at hsplit
        have hgd : row.getD j 0 = k := by simp [List.getD, List.getElem?_eq_getElem hjl, hrow]
        by_cases hm : (k : Int) ∈ (row.drop (t + 1)).take (j - (t + 1))
        · rw [if_pos (.inr (.inr (.inr (.inl hm)))), if_neg]
          rintro ⟨hl, _⟩
          rw [hsplit] at hl
          have : occF ((row.drop (t + 1)).take (j - (t + 1))) k (t + 1) ≠ [] := fun e => (occF_nil.1 e) hm
          have := List.length_pos_iff.2 this
          simp at hl
          omega
        · by_cases hm2 : (k : Int) ∈ row.drop (j + 1)
          · rw [if_pos (.inr (.inr (.inr (.inr hm2)))), if_neg]
            rintro ⟨hl, _⟩
            rw [hsplit] at hl
            have : occF (row.drop (j + 1)) k (j + 1) ≠ [] := fun e => (occF_nil.1 e) hm2
            have := List.length_pos_iff.2 this
            simp at hl
            omega
          · rw [if_neg, hsplit, occF_nil.2 hm, occF_nil.2 hm2, if_pos]
            · simp
            · simp; omega
            · rintro (h | h | h | h | h)
              · omega
              · omega
              · exact h hgd
              · exact hm h
              · exact hm2 h
      · rw [if_pos (.inr (.inr (.inl (by simp [List.getD, List.getElem?_eq_getElem hjl, hrow])))), if_neg]
        rintro ⟨hl, hd⟩
        rw [if_neg hrow] at hsplit
        rw [hsplit] at hl hd
        match hocc : occF ((row.drop (t + 1)).take (j - (t + 1))) k (t + 1) ++ [] ++ occF (row.drop (j + 1)) k (j + 1), hl with
        | [q], _ =>
          rw [hocc] at hd
          simp at hd
          have hq : q ∈ occF (row.drop (t + 1)) k (t + 1) := by rw [hmid, if_neg hrow, hocc]; simp
          obtain ⟨p, hp, e, e2⟩ := occF_mem hq
          simp at e2 hp
          have : t + 1 + p = j := by omega
          subst this
          exact hrow e2
def plF (s : Int) (row : List Int) : Nat → Nat → List Int → Option (List Int)
  | 0, _, acc => some acc
  | m + 1, k, acc => (okK s row k).bind fun i => plF s row m (k + 1) (acc ++ [i])
def placesF (s : Int) (row : List Int) : Option (List Int) :=
  if (s = 1 ∨ s = 2) ∧ 1 ≤ row.length / 2 ∧ row.length / 2 ≤ 8 ∧ row.length = 2 * (row.length / 2) then plF s row (row.length / 2) 1 [] else none

theorem half {row : List Int} {v : Sl} (hlen : v.len = row.length) (hb : row.length < 4611686018427387904) : w64 (Int.tdiv (v.len : Int) 2) = ((row.length / 2 : Nat) : Int) := by
  rw [hlen, show Int.tdiv (row.length : Int) 2 = ((row.length / 2 : Nat) : Int) by simp, w64_id (by omega) (by omega)]
theorem half' {row : List Int} {v : Sl} (hlen : v.len = row.length) (hb : row.length < 9223372036854775808) : w64 (Int.tdiv (v.len : Int) 2) = ((row.length / 2 : Nat) : Int) := by
  rw [hlen, Int.tdiv_eq_ediv_of_nonneg (by omega), w64_id (by omega) (by omega)]
  omega
def refK (s : Int) (row : List Int) (k : Nat) : Bool := (occF row k 0).length == 2 && (occF row k 0).getD 1 0 - (occF row k 0).getD 0 0 == k + s - 1
def refRow (s : Int) (row : List Int) : Bool := decide (1 ≤ row.length / 2 ∧ row.length / 2 ≤ 8 ∧ row.length = 2 * (row.length / 2)) && (List.range' 1 (row.length / 2)).all (refK s row)

/-- program and reference agree -/
theorem plF_ref {s : Int} {row : List Int} (hs : 1 ≤ s) : ∀ (m k : Nat) (acc : List Int), 1 ≤ k → plF s row m k acc = if (List.range' k m).all (refK s row) = true then some (acc ++ (List.range' k m).map fun (k : Nat) => (occF row (k : Int) 0).getD 0 0) else none := by
  intro m
  induction m with
  | zero => intro k acc _; simp [plF]
  | succ m ih =>
    intro k acc hk
    rw [plF, okK_ref hs hk, List.range'_succ, List.all_cons]
    by_cases h : (occF row k 0).length = 2 ∧ (occF row k 0).getD 1 0 - (occF row k 0).getD 0 0 = k + s - 1
    · have hr : refK s row k = true := by unfold refK; rw [h.2, h.1]; simp
      rw [if_pos h, hr, Bool.true_and]
      simp only [Option.bind_some]
      rw [ih (k + 1) _ (by omega)]
      simp
    · have hr : refK s row k = false := by
        unfold refK
        rw [Bool.and_eq_false_iff]
        by_cases h1 : (occF row k 0).length = 2
        · right
          have : ¬ ((occF row k 0).getD 1 0 - (occF row k 0).getD 0 0 = k + s - 1) := fun e => h ⟨h1, e⟩
          simpa using this
        · left; simpa using h1
      rw [if_neg h, hr]
      simp
theorem placesF_ref {s : Int} {row : List Int} (hs : s = 1 ∨ s = 2) : placesF s row = if refRow s row = true then some ((List.range' 1 (row.length / 2)).map fun (k : Nat) => (occF row (k : Int) 0).getD 0 0) else none := by
  unfold placesF refRow
  by_cases h : 1 ≤ row.length / 2 ∧ row.length / 2 ≤ 8 ∧ row.length = 2 * (row.length / 2)
  · rw [if_pos ⟨hs, h⟩, decide_eq_true h, Bool.true_and, plF_ref (by omega) _ _ _ (by omega)]
    simp
  · rw [if_neg (fun h' => h h'.2), decide_eq_false h]
    simp
theorem occ_count (x : Int) : ∀ (l : List Int) (i : Int), (occF l x i).length = l.count x := by
  intro l
  induction l with
  | nil => intro i; rfl
  | cons y l ih =>
    intro i
    rw [List.count_cons]
    unfold occF
    by_cases h : y = x
    · simp [h, ih]
    · simp [h, ih]
end Go.Lt.P8
