/- PLAIN LAWS OF WHAT IS COMPUTED, for the statement 'PairsSplits'. Nothing is asked of the input. -/
import Derived.Test.YthmhdbmpeepmaaaU9UList
set_option linter.unusedVariables false
namespace Go.Lt.P8
open Go Go.Lt Go.Proofs

/-! ### where a number stands -/
def occF : List Int → Int → Int → List Int
  | [], _, _ => []
  | y :: l, x, i => if y = x then i :: occF l x (i + 1) else occF l x (i + 1)
theorem occF_append (x : Int) : ∀ (a b : List Int) (i : Int), occF (a ++ b) x i = occF a x i ++ occF b x (i + a.length) := by
  intro a
  induction a with
  | nil => intro b i; simp [occF]
  | cons y a ih =>
    intro b i
    simp only [List.cons_append, occF, List.length_cons]
    rw [ih b (i + 1), show i + 1 + (a.length : Int) = i + ((a.length + 1 : Nat) : Int) by push_cast; omega]
    split <;> simp
theorem occF_nil {x : Int} : ∀ {l : List Int} {i : Int}, occF l x i = [] ↔ x ∉ l := by
  intro l
  induction l with
  | nil => intro i; simp [occF]
  | cons y l ih =>
    intro i
    simp only [occF, List.mem_cons]
    split
    · rename_i h; simp [h]
    · rename_i h; rw [ih]; simp [Ne.symm h]
theorem occF_mem {x : Int} : ∀ {l : List Int} {i q : Int}, q ∈ occF l x i → ∃ t, ∃ (h : t < l.length), q = i + t ∧ l[t] = x := by
  intro l
  induction l with
  | nil => intro i q h; simp [occF] at h
  | cons y l ih =>
    intro i q h
    simp only [occF] at h
    split at h
    · rename_i hy
      rcases List.mem_cons.1 h with rfl | h
      · exact ⟨0, by simp, by simp, hy⟩
      · obtain ⟨t, ht, rfl, e⟩ := ih h
        exact ⟨t + 1, by simp; omega, by push_cast; omega, by simpa using e⟩
    · obtain ⟨t, ht, rfl, e⟩ := ih h
      exact ⟨t + 1, by simp; omega, by push_cast; omega, by simpa using e⟩
theorem occF_bound (x : Int) : ∀ (l : List Int) (i : Int), (occF l x i).length ≤ l.length := by
  intro l
  induction l with
  | nil => intro i; simp [occF]
  | cons y l ih =>
    intro i
    simp only [occF]
    split
    · simp only [List.length_cons]; have := ih (i + 1); omega
    · simp only [List.length_cons]; have := ih (i + 1); omega

/-- what the program asks of one number -/
def okK (s : Int) (row : List Int) (k : Nat) : Option Int :=
  let i := idxF row k 0
  let j := i + k + s - 1
  if i < 0 ∨ (row.length : Int) ≤ j ∨ row.getD j.toNat 0 ≠ k ∨ (k : Int) ∈ (row.drop (i.toNat + 1)).take (j.toNat - (i.toNat + 1)) ∨ (k : Int) ∈ row.drop (j.toNat + 1) then none else some i

theorem okK_ref {s : Int} {row : List Int} {k : Nat} (hs : 1 ≤ s) (hk : 1 ≤ k) : okK s row k = if (occF row k 0).length = 2 ∧ (occF row k 0).getD 1 0 - (occF row k 0).getD 0 0 = k + s - 1 then some ((occF row k 0).getD 0 0) else none := by
  unfold okK
  rcases idxF_cases (k : Int) row 0 (Int.le_refl 0) with ⟨h1, h2⟩ | ⟨t, ht, h1, h2, h3⟩
  · simp only [h1]
    rw [if_pos (.inl (by decide)), occF_nil.2 h2]
    simp
  · simp only [h1]
    have hti : ((0 : Int) + (t : Int)).toNat = t := by omega
    simp only [hti]
    have hfront : occF (row.take (t + 1)) k 0 = [(t : Int)] := by
      rw [List.take_succ_eq_append_getElem ht, occF_append, occF_nil.2]
      · simp [occF, h2]; omega
      · intro hm
        obtain ⟨j, hj, e⟩ := List.mem_iff_getElem.1 hm
        simp at hj
        exact h3 j (by omega) (by simpa using e)
    have hsplit : occF row k 0 = [(t : Int)] ++ occF (row.drop (t + 1)) k (t + 1) := by
      conv => lhs; rw [← List.take_append_drop (t + 1) row]
      rw [occF_append, hfront]
      simp only [List.length_take]
      rw [Nat.min_eq_left (by omega)]
      simp
    by_cases hj : (row.length : Int) ≤ 0 + (t : Int) + k + s - 1
    · rw [if_pos (.inr (.inl hj)), if_neg]
      rintro ⟨hl, hd⟩
      rw [hsplit] at hl hd
      match hocc : occF (row.drop (t + 1)) k (t + 1), hl with
      | [q], _ =>
        rw [hocc] at hd
        simp at hd
        obtain ⟨p, hp, e, _⟩ := occF_mem (x := (k : Int)) (l := row.drop (t + 1)) (i := t + 1) (q := q) (by rw [hocc]; simp)
        simp at hp
        omega
    · obtain ⟨j, hj'⟩ : ∃ j : Nat, (0 : Int) + (t : Int) + k + s - 1 = j := ⟨(0 + (t : Int) + k + s - 1).toNat, by omega⟩
      rw [hj']
      simp only [Int.toNat_natCast]
      have hjl : j < row.length := by omega
      have hmid : occF (row.drop (t + 1)) k (t + 1) = occF ((row.drop (t + 1)).take (j - (t + 1))) k (t + 1) ++ (if row[j] = (k : Int) then [(j : Int)] else []) ++ occF (row.drop (j + 1)) k (j + 1) := by
        conv => lhs; rw [← List.take_append_drop (j - (t + 1)) (row.drop (t + 1))]
        rw [occF_append, List.append_assoc]
        congr 1
        rw [List.drop_drop, List.length_take, List.length_drop, Nat.min_eq_left (by omega), show t + 1 + (j - (t + 1)) = j by omega, List.drop_eq_getElem_cons hjl]
        simp only [occF]
        rw [show (t : Int) + 1 + ((j - (t + 1) : Nat) : Int) = j by omega]
        split <;> simp
      rw [hmid] at hsplit
      by_cases hrow : row[j] = (k : Int)
      · rw [if_pos hrow] at hsplit
        have hgd : row.getD j 0 = k := by simp [List.getD, List.getElem?_eq_getElem hjl, hrow]
        by_cases hm : (k : Int) ∈ (row.drop (t + 1)).take (j - (t + 1))
        · rw [if_pos (.inr (.inr (.inr (.inl hm)))), if_neg]
          rintro ⟨hl, _⟩
          rw [hsplit] at hl
          have : occF ((row.drop (t + 1)).take (j - (t + 1))) k (t + 1) ≠ [] := fun e => (occF_nil.1 e) hm
          have := List.length_pos_iff.2 this
          simp at hl
          omega
        · by_cases hm2 : (k : Int) ∈ row.drop (j + 1)
          · rw [if_pos (.inr (.inr (.inr (.inr hm2)))), if_neg]
            rintro ⟨hl, _⟩
            rw [hsplit] at hl
            have : occF (row.drop (j + 1)) k (j + 1) ≠ [] := fun e => (occF_nil.1 e) hm2
            have := List.length_pos_iff.2 this
            simp at hl
            omega
          · rw [if_neg, hsplit, occF_nil.2 hm, occF_nil.2 hm2, if_pos]
            · simp
            · simp; omega
            · rintro (h | h | h | h | h)
              · omega
              · omega
              · exact h hgd
              · exact hm h
              · exact hm2 h
      · rw [if_pos (.inr (.inr (.inl (by simp [List.getD, List.getElem?_eq_getElem hjl, hrow])))), if_neg]
        rintro ⟨hl, hd⟩
        rw [if_neg hrow] at hsplit
        rw [hsplit] at hl hd
        match hocc : occF ((row.drop (t + 1)).take (j - (t + 1))) k (t + 1) ++ [] ++ occF (row.drop (j + 1)) k (j + 1), hl with
        | [q], _ =>
          rw [hocc] at hd
          simp at hd
          have hq : q ∈ occF (row.drop (t + 1)) k (t + 1) := by rw [hmid, if_neg hrow, hocc]; simp
          obtain ⟨p, hp, e, e2⟩ := occF_mem hq
          simp at e2 hp
          have : t + 1 + p = j := by omega
          subst this
          exact hrow e2
end Go.Lt.P8
namespace Go.Lt.P8
open Go Go.Lt Go.Proofs
theorem r77_spec {H : Hp} {v : Sl} {l : List Int} (h : Ints H v l) (hb : l.length < 4611686018427387904) (x : Int) : r77 v x H = some (decide (x ∈ l), H) := by
  unfold r77
  rw [r108_spec h hb]
  simp only [Option.bind_some]
  rcases idxF_cases x l 0 (Int.le_refl 0) with ⟨h1, h2⟩ | ⟨t, ht, h1, h2, _⟩
  · rw [h1, decide_eq_false (by omega), decide_eq_false h2]
  · rw [h1, decide_eq_true (by omega), decide_eq_true (h2 ▸ List.getElem_mem ht)]

def plF (s : Int) (row : List Int) : Nat → Nat → List Int → Option (List Int)
  | 0, _, acc => some acc
  | m + 1, k, acc => (okK s row k).bind fun i => plF s row m (k + 1) (acc ++ [i])
def placesF (s : Int) (row : List Int) : Option (List Int) :=
  if (s = 1 ∨ s = 2) ∧ 1 ≤ row.length / 2 ∧ row.length / 2 ≤ 8 ∧ row.length = 2 * (row.length / 2) then plF s row (row.length / 2) 1 [] else none

theorem r81_loop {s : Int} {row : List Int} {Hb : Hp} {v : Sl} (hs : s = 1 ∨ s = 2) (hv : IS Hb v row) (hnil : v.nil = false) {n : Nat} (hn : n ≤ 8) (hl : row.length ≤ 16) : ∀ (m k K : Nat) (acc : List Int) (w : Sl) (H : Hp), k + m = n + 1 → 1 ≤ k → m < K → acc.length < k → Gr Hb H → Acc Hb.n 1 H w (acc.map (.int .i64)) →
    ∃ w' ok H', r81_l1 K s v w (n : Int) (k : Int) H = some ((w', ok), H') ∧ Gr Hb H' ∧ match plF s row m k acc with
      | none => w' = ⟨true, 0, 0, 0, 0, 0⟩ ∧ ok = false
      | some l => ok = true ∧ IS H' w' l := by
  intro m
  induction m with
  | zero =>
    intro k K acc w H hk h1 hK ha g hw
    obtain ⟨K, rfl⟩ : ∃ j, K = j + 1 := ⟨K - 1, by omega⟩
    rw [r81_l1, if_neg (by omega)]
    exact ⟨_, _, _, rfl, g, rfl, .ofAcc hw⟩
  | succ m ih =>
    intro k K acc w H hk h1 hK ha g hw
    obtain ⟨K, rfl⟩ : ∃ j, K = j + 1 := ⟨K - 1, by omega⟩
    have hi := hv.ints.gr g
    have hlen := hi.len
    have hcap := hv.cap
    have bad : okK s row k = none → plF s row (m + 1) k acc = none := fun h => by rw [plF, h]; rfl
    rw [r81_l1, if_pos (by omega), r108_spec hi (by omega)]
    simp only [Option.bind_some]
    rcases idxF_cases (k : Int) row 0 (Int.le_refl 0) with ⟨e1, _⟩ | ⟨t, ht, e1, _, _⟩
    · have hk : okK s row k = none := by unfold okK; simp only [e1]; rw [if_pos (.inl (by decide))]
      rw [e1, if_pos (by decide), r81_j2, if_pos rfl, bad hk]
      exact ⟨_, _, _, rfl, g, rfl, rfl⟩
    · rw [show (0 : Int) + (t : Int) = t by omega] at e1
      rw [e1, if_neg (by omega)]
      have ej : w64 ((w64 ((w64 ((t : Int) + k)) + s)) - 1) = t + k + s - 1 := by rw [w64_id (n := (t : Int) + k) (by omega) (by omega), w64_id (n := (t : Int) + k + s) (by omega) (by omega), w64_id (by omega) (by omega)]
      simp only [ej]
      by_cases hj : (row.length : Int) ≤ t + k + s - 1
      · have hk : okK s row k = none := by unfold okK; simp only [e1]; rw [if_pos (.inr (.inl hj))]
        rw [if_pos (by omega), r81_j2, if_pos rfl, bad hk]
        exact ⟨_, _, _, rfl, g, rfl, rfl⟩
      obtain ⟨j, hj'⟩ : ∃ j : Nat, (t : Int) + k + s - 1 = j := ⟨((t : Int) + k + s - 1).toNat, by omega⟩
      have hjl : j < row.length := by omega
      rw [hj', if_neg (by omega), ck, if_pos (by omega)]
      simp only [Int.toNat_natCast, Nat.mul_one]
      rw [hi.ldI hjl]
      simp only [Option.bind_some]
      have hokk : okK s row k = if row[j] ≠ (k : Int) ∨ (k : Int) ∈ (row.drop (t + 1)).take (j - (t + 1)) ∨ (k : Int) ∈ row.drop (j + 1) then none else some (t : Int) := by
        unfold okK
        simp only [e1, hj', Int.toNat_natCast]
        have hgd : row.getD j 0 = row[j] := by simp [List.getD, List.getElem?_eq_getElem hjl]
        rw [hgd]
        have a1 : ¬ ((t : Int) < 0) := by omega
        have a2 : ¬ ((row.length : Int) ≤ (j : Int)) := by omega
        simp only [a1, a2, false_or]
      by_cases hrow : row[j] = (k : Int)
      · rw [if_neg (by simpa using hrow)]
        have ew1 : w64 ((t : Int) + 1) = ((t + 1 : Nat) : Int) := by rw [w64_id (by omega) (by omega)]; push_cast; rfl
        have ew2 : w64 ((j : Int) + 1) = ((j + 1 : Nat) : Int) := by rw [w64_id (by omega) (by omega)]; push_cast; rfl
        have ew3 : w64 ((k : Int) + 1) = ((k + 1 : Nat) : Int) := by rw [w64_id (by omega) (by omega)]; push_cast; rfl
        simp only [ew1, ew2, ck, Int.toNat_natCast]
        rw [if_pos ⟨by omega, hv.opn⟩]
        have hc1 := hi.cut hnil (lo := t + 1) (hi := j) (by omega) (by omega)
        rw [r77_spec hc1 (by simp; omega)]
        simp only [Option.bind_some]
        by_cases hm : (k : Int) ∈ (row.drop (t + 1)).take (j - (t + 1))
        · have hk : okK s row k = none := by rw [hokk, if_pos (.inr (.inl hm))]
          rw [decide_eq_true hm, if_pos rfl, r81_j2, if_pos rfl, bad hk]
          exact ⟨_, _, _, rfl, g, rfl, rfl⟩
        · rw [decide_eq_false hm, if_neg (by simp), if_pos ⟨by omega, hv.opn⟩]
          have hc2 := hi.cut hnil (lo := j + 1) (hi := v.len) (by omega) (by omega)
          rw [r77_spec hc2 (by simp; omega)]
          simp only [Option.bind_some]
          have e3 : (row.drop (j + 1)).take (v.len - (j + 1)) = row.drop (j + 1) := by rw [List.take_of_length_le]; simp; omega
          rw [e3]
          by_cases hm2 : (k : Int) ∈ row.drop (j + 1)
          · have hk : okK s row k = none := by rw [hokk, if_pos (.inr (.inr hm2))]
            rw [decide_eq_true hm2, r81_j2, if_pos rfl, bad hk]
            exact ⟨_, _, _, rfl, g, rfl, rfl⟩
          · have hk : okK s row k = some (t : Int) := by rw [hokk, if_neg]; rintro (h | h | h); exact h hrow; exact hm h; exact hm2 h
            rw [decide_eq_false hm2, r81_j2, if_neg (by simp)]
            have hwl := hw.cs.1
            simp only [List.length_map, Nat.mul_one] at hwl
            obtain ⟨w', H', h1', h2', h3', _⟩ := hw.apN (es := 1) (xs := [.int .i64 (t : Int)]) (k := 1) (by omega) (by simp) (by omega) g.1
            rw [h1', ew3]
            simp only [Option.bind_some]
            have := ih (k + 1) K (acc ++ [(t : Int)]) w' H' (by omega) (by omega) (by omega) (by simp; omega) (h3'.gr hw g) (by simpa using h2')
            rw [plF, hk]
            exact this
      · have hk : okK s row k = none := by rw [hokk, if_pos (.inl hrow)]
        rw [if_pos hrow, r81_j2, if_pos rfl, bad hk]
        exact ⟨_, _, _, rfl, g, rfl, rfl⟩

theorem r80_spec (s : Int) (H : Hp) : r80 s H = some (decide (s = 1 ∨ s = 2), H) := by
  unfold r80
  by_cases h : s = 1 <;> simp [h]
/-- places -/
theorem r81_spec {s : Int} {row : List Int} {H : Hp} {v : Sl} (hv : IS H v row) (hb : row.length < 4611686018427387904) :
    ∃ w' ok H', r81 s v H = some ((w', ok), H') ∧ Gr H H' ∧ match placesF s row with
      | none => w' = ⟨true, 0, 0, 0, 0, 0⟩ ∧ ok = false
      | some l => ok = true ∧ IS H' w' l := by
  unfold r81
  have hlen := hv.ints.len
  rw [r80_spec]
  simp only [Option.bind_some]
  have en : w64 (Int.tdiv (v.len : Int) 2) = ((row.length / 2 : Nat) : Int) := by
    rw [hlen, show Int.tdiv (row.length : Int) 2 = ((row.length / 2 : Nat) : Int) by simp, w64_id (by omega) (by omega)]
  have e2n : w64 (2 * ((row.length / 2 : Nat) : Int)) = ((2 * (row.length / 2) : Nat) : Int) := by rw [w64_id (by omega) (by omega)]; push_cast; rfl
  simp only [en, e2n]
  unfold placesF r81_j0
  by_cases hs : s = 1 ∨ s = 2
  · rw [decide_eq_true hs, if_pos rfl]
    by_cases h1 : ((row.length / 2 : Nat) : Int) < 1
    · rw [if_pos h1, if_pos rfl, if_neg (by omega)]
      exact ⟨_, _, _, rfl, .refl _, rfl, rfl⟩
    rw [if_neg h1]
    by_cases h2 : 8 < ((row.length / 2 : Nat) : Int)
    · rw [if_pos h2, if_pos rfl, if_neg (by omega)]
      exact ⟨_, _, _, rfl, .refl _, rfl, rfl⟩
    rw [if_neg h2]
    by_cases h3 : row.length = 2 * (row.length / 2)
    · rw [decide_eq_false (by omega), if_neg (by simp), if_pos ⟨hs, by omega, by omega, h3⟩]
      have hnil : v.nil = false := by
        cases hn : v.nil with
        | false => rfl
        | true => have := (hv.nil hn).2; subst this; simp at h1
      exact r81_loop hs hv hnil (n := row.length / 2) (by omega) (by omega) (row.length / 2) 1 FUEL [] ⟨true, 0, 0, 0, 0, 0⟩ H (by omega) (by omega) (by unfold FUEL; omega) (by simp) (.refl _) .nilS
    · rw [decide_eq_true (by omega), if_pos rfl, if_neg (by omega)]
      exact ⟨_, _, _, rfl, .refl _, rfl, rfl⟩
  · rw [decide_eq_false hs, if_neg (by simp), if_pos rfl, if_neg (fun h => hs h.1)]
    exact ⟨_, _, _, rfl, .refl _, rfl, rfl⟩
theorem half {row : List Int} {v : Sl} (hlen : v.len = row.length) (hb : row.length < 4611686018427387904) : w64 (Int.tdiv (v.len : Int) 2) = ((row.length / 2 : Nat) : Int) := by
  rw [hlen, show Int.tdiv (row.length : Int) 2 = ((row.length / 2 : Nat) : Int) by simp, w64_id (by omega) (by omega)]
end Go.Lt.P8
