/- PLAIN LAWS OF WHAT IS COMPUTED, for the statement 'PairsSplits'. Nothing is asked of the input. -/
import Derived.Test.YthmhdbmpeepmaaaU9UPl
import Derived.Test.YthmhdbmpeepmaaaLPrs
set_option linter.unusedVariables false
namespace Go.Lt.P8
open Go Go.Lt Go.Proofs

theorem okK_some {s : Int} {row : List Int} {k : Nat} {i : Int} (hs : 1 ≤ s) (hk : 1 ≤ k) (h : okK s row k = some i) :
    ∃ t : Nat, i = t ∧ ∃ (h1 : t < row.length), ∃ (h2 : t + k + s.toNat - 1 < row.length), row[t] = k ∧ row[t + k + s.toNat - 1] = k := by
  unfold okK at h
  rcases idxF_cases (k : Int) row 0 (Int.le_refl 0) with ⟨h1, h2⟩ | ⟨t, ht, h1, h2, h3⟩
  · simp only [h1] at h
    rw [if_pos (.inl (by decide))] at h
    cases h
  · simp only [h1] at h
    split at h
    · cases h
    · rename_i hc
      injection h with h
      have c1 : ¬ ((row.length : Int) ≤ 0 + (t : Int) + k + s - 1) := fun c => hc (.inr (.inl c))
      have c2 : ¬ (row.getD ((0 : Int) + (t : Int) + k + s - 1).toNat 0 ≠ (k : Int)) := fun c => hc (.inr (.inr (.inl c)))
      have ej : ((0 : Int) + (t : Int) + k + s - 1).toNat = t + k + s.toNat - 1 := by omega
      rw [ej] at c2
      have hlt : t + k + s.toNat - 1 < row.length := by omega
      refine ⟨t, by omega, ht, hlt, h2, ?_⟩
      rw [List.getD_eq_getElem?_getD, List.getElem?_eq_getElem hlt] at c2
      simpa using c2
theorem plF_some {s : Int} {row : List Int} : ∀ (m k : Nat) (acc l : List Int), plF s row m k acc = some l → ∃ l', l = acc ++ l' ∧ l'.length = m ∧ ∀ t (h : t < l'.length), okK s row (k + t) = some l'[t] := by
  intro m
  induction m with
  | zero => intro k acc l h; simp only [plF, Option.some.injEq] at h; exact ⟨[], by simp [h], rfl, fun t h => absurd h (by simp)⟩
  | succ m ih =>
    intro k acc l h
    rw [plF, Option.bind_eq_some_iff] at h
    obtain ⟨i, h1, h2⟩ := h
    obtain ⟨l', h3, h4, h5⟩ := ih _ _ _ h2
    refine ⟨i :: l', by rw [h3]; simp, by simp [h4], fun t ht => ?_⟩
    cases t with
    | zero => simpa using h1
    | succ t =>
      have := h5 t (by simpa using ht)
      rw [show k + 1 + t = k + (t + 1) by omega] at this
      simpa using this
/-- what places finds -/
theorem placesF_some {s : Int} {row l : List Int} (h : placesF s row = some l) : (s = 1 ∨ s = 2) ∧ 1 ≤ row.length / 2 ∧ row.length / 2 ≤ 8 ∧ row.length = 2 * (row.length / 2) ∧ l.length = row.length / 2 ∧
    ∀ k (hk : k < l.length), ∃ t : Nat, l[k] = t ∧ ∃ (h1 : t < row.length), ∃ (h2 : t + k + s.toNat < row.length), row[t] = (k + 1 : Nat) ∧ row[t + k + s.toNat] = (k + 1 : Nat) := by
  unfold placesF at h
  split at h
  · rename_i hc
    obtain ⟨l', h1, h2, h3⟩ := plF_some _ _ _ _ h
    simp only [List.nil_append] at h1
    subst h1
    refine ⟨hc.1, hc.2.1, hc.2.2.1, hc.2.2.2, h2, fun k hk => ?_⟩
    obtain ⟨t, e, h4, h5, h6, h7⟩ := okK_some (by omega) (by omega) (h3 k hk)
    refine ⟨t, e, h4, by omega, by rw [h6]; congr 1; omega, ?_⟩
    have e2 : t + (1 + k) + s.toNat - 1 = t + k + s.toNat := by omega
    simp only [e2] at h7
    rw [h7]; congr 1; omega
  · cases h

def splitF (l : List Int) (i : Nat) : List (Int × Int) := match l with
  | [] => []
  | x :: r => (x + 1, x + i + 2) :: splitF r (i + 1)
theorem splitF_get : ∀ (l : List Int) (i : Nat), (splitF l i).length = l.length ∧ ∀ k (h : k < (splitF l i).length) (h' : k < l.length), (splitF l i)[k] = (l[k] + 1, l[k] + (i + k : Nat) + 2) := by
  intro l
  induction l with
  | nil => intro i; exact ⟨rfl, fun k h => absurd h (by simp [splitF])⟩
  | cons x r ih =>
    intro i
    refine ⟨by simp [splitF, (ih (i + 1)).1], fun k h h' => ?_⟩
    cases k with
    | zero => simp [splitF]
    | succ k =>
      have := (ih (i + 1)).2 k (by simpa [splitF] using h) (by simpa using h')
      simp only [splitF, List.getElem_cons_succ]
      rw [this, show i + 1 + k = i + (k + 1) by omega]

theorem r37_loop {l : List Int} {Hb : Hp} {v : Sl} (hv : Ints Hb v l) (hb : l.length ≤ 1000) (hr : ∀ k (h : k < l.length), 0 ≤ l[k] ∧ l[k] ≤ 1000) : ∀ (m i K : Nat) (acc : List (Int × Int)) (w : Sl) (H : Hp), i + m = l.length → m < K → acc.length ≤ i → Gr Hb H → Acc Hb.n 2 H w (prC acc) →
    ∃ w' H', r37_l0 K w v (v.len : Int) (i : Int) H = some ((w', 0), H') ∧ Gr Hb H' ∧ Acc Hb.n 2 H' w' (prC (acc ++ splitF (l.drop i) i)) := by
  intro m
  induction m with
  | zero =>
    intro i K acc w H hi hK ha g hw
    obtain ⟨K, rfl⟩ : ∃ j, K = j + 1 := ⟨K - 1, by omega⟩
    have hlen := hv.len
    rw [r37_l0, if_neg (by omega), List.drop_eq_nil_of_le (by omega)]
    exact ⟨w, H, rfl, g, by simpa [splitF] using hw⟩
  | succ m ih =>
    intro i K acc w H hi hK ha g hw
    obtain ⟨K, rfl⟩ : ∃ j, K = j + 1 := ⟨K - 1, by omega⟩
    have hlen := hv.len
    have hil : i < l.length := by omega
    have hx := hr i hil
    have ew : w64 ((i : Int) + 1) = ((i + 1 : Nat) : Int) := by rw [w64_id (by omega) (by omega)]; push_cast; rfl
    rw [r37_l0, if_pos (by omega)]
    simp only [ck, Int.toNat_natCast, Nat.mul_one]
    rw [if_pos (by omega), (hv.gr g).ldI hil]
    simp only [Option.bind_some, ew]
    rw [w64_id (n := l[i] + 1) (by omega) (by omega), w64_id (n := l[i] + i) (by omega) (by omega), w64_id (n := l[i] + i + 2) (by omega) (by omega)]
    have hwl := hw.cs.1
    rw [prC_length] at hwl
    obtain ⟨w', H', h1', h2', h3', _⟩ := hw.apN (es := 2) (xs := [.int .i64 (l[i] + 1), .int .i64 (l[i] + i + 2)]) (k := 1) (by omega) (by simp) (by omega) g.1
    rw [h1']
    simp only [Option.bind_some]
    have e : prC acc ++ [AV.int .i64 (l[i] + 1), .int .i64 (l[i] + i + 2)] = prC (acc ++ [(l[i] + 1, l[i] + i + 2)]) := by simp [prC]
    rw [e] at h2'
    obtain ⟨w3, H3, h3, g3, h4⟩ := ih (i + 1) K _ w' H' (by omega) (by omega) (by simp; omega) (h3'.gr hw g) h2'
    refine ⟨w3, H3, h3, g3, ?_⟩
    rw [List.drop_eq_getElem_cons hil]
    simpa [splitF] using h4
/-- Split -/
theorem r37_spec {row : List Int} {H : Hp} {v : Sl} (hv : IS H v row) (hb : row.length < 4611686018427387904) :
    ∃ w e H', r37 v H = some ((w, e), H') ∧ Gr H H' ∧ match placesF 1 row with
      | none => w = ⟨true, 0, 0, 0, 0, 0⟩ ∧ e = 2
      | some l => e = 0 ∧ Prs H' w (splitF l 0) := by
  unfold r37
  obtain ⟨w, ok, H', h1, g, h2⟩ := r81_spec (s := 1) hv hb
  rw [h1]
  simp only [Option.bind_some]
  cases hp : placesF 1 row with
  | none =>
    rw [hp] at h2
    rw [h2.2, if_neg (by simp)]; exact ⟨_, _, _, rfl, g, rfl, rfl⟩
  | some l =>
    rw [hp] at h2
    obtain ⟨_, _, p3, p4, p5, p6⟩ := placesF_some hp
    rw [h2.1, if_pos rfl]
    obtain ⟨w', H2, h3, g3, h4⟩ := r37_loop h2.2.ints (by omega) (fun k hk => by obtain ⟨t, e, h1, _⟩ := p6 k hk; omega) l.length 0 FUEL [] ⟨true, 0, 0, 0, 0, 0⟩ H' (by omega) (by unfold FUEL; omega) (by simp) (.refl _) .nilS
    rw [show ((0 : Nat) : Int) = 0 from rfl] at h3
    rw [h3]
    exact ⟨_, _, _, rfl, g.trans g3, rfl, by have := h4.cs; simp only [List.nil_append, List.drop_zero] at this; exact this⟩
end Go.Lt.P8
