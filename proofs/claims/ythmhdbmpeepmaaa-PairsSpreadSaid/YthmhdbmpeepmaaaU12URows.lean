/- PLAIN LAWS OF WHAT IS COMPUTED, for the statement 'PairsSpread'. Nothing is asked of the input. -/
import Derived.Test.YthmhdbmpeepmaaaU12UIdx
set_option linter.unusedVariables false
set_option linter.unusedSimpArgs false
namespace Go.Lt.P8
open Go Go.Lt Go.Proofs

def orb (u k : Int) : Int := bitsOf .or .i64 u (shlOf .i64 1 k)
abbrev bitq (u k : Int) : Prop := bitsOf .and .i64 (shrOf .i64 u k) 1 = 1

def genK (g : List Int → Int → List (List Int)) (s : Int) (row : List Int) (u i : Int) (k : Nat) : List (List Int) :=
  if bitq u k ∨ (row.length : Int) ≤ i + k + s - 1 ∨ row.getD (i + k + s - 1).toNat 0 ≠ 0 then [] else g ((row.set i.toNat k).set (i + k + s - 1).toNat k) (orb u k)
def gen (n : Nat) (s : Int) : Nat → List Int → Int → List (List Int)
  | 0, _, _ => []
  | f + 1, row, u => if idxF row 0 0 < 0 then [row] else (List.range' 1 n).flatMap fun k => genK (gen n s f) s row u (idxF row 0 0) k

def run {σ : Type} (nx : σ → List Int → σ) (ct : σ → List Int → Bool) : List (List Int) → σ → σ × Bool
  | [], st => (st, true)
  | r :: rs, st => if ct st r = true then run nx ct rs (nx st r) else (nx st r, false)
theorem run_append {σ : Type} (nx : σ → List Int → σ) (ct : σ → List Int → Bool) : ∀ (a b : List (List Int)) (st : σ),
    run nx ct (a ++ b) st = if (run nx ct a st).2 = true then run nx ct b (run nx ct a st).1 else ((run nx ct a st).1, false) := by
  intro a
  induction a with
  | nil => intro b st; simp [run]
  | cons r rs ih =>
    intro b st
    simp only [List.cons_append, run]
    split
    · exact ih b (nx st r)
    · simp

def RowAt (br : Nat) (H : Hp) (row : List Int) : Prop := H.get br = some (.cells (row.map (.int .i64)) false)
theorem RowAt.ints {br : Nat} {H : Hp} {row : List Int} (h : RowAt br H row) : Ints H ⟨false, br, 0, row.length, row.length, 0⟩ row :=
  .mk rfl fun i hi => by
    unfold Hp.ld
    rw [h]
    simp [hi]
theorem RowAt.st {br : Nat} {H : Hp} {row : List Int} (h : RowAt br H row) {i : Nat} (hi : i < row.length) (k : Int) :
    H.st br i (.int .i64 k) = some (H.set br (.cells ((row.set i k).map (.int .i64)) false)) ∧ RowAt br (H.set br (.cells ((row.set i k).map (.int .i64)) false)) (row.set i k) := by
  refine ⟨?_, Hp.get_set_same H _ (Hp.get_lt h)⟩
  unfold Hp.st
  rw [h]
  simp [hi, List.map_set]

structure Env (c0 c1 c2 c3 c4 br L : Nat) (n : Nat) (s : Int) (fv : AV) (H : Hp) : Prop where
  h0 : H.ld c0 0 = some (.sl ⟨false, br, 0, L, L, 0⟩)
  h1 : H.ld c1 0 = some fv
  h2 : H.ld c2 0 = some (.int .i64 n)
  h3 : H.ld c3 0 = some (.int .i64 s)
  h4 : H.ld c4 0 = some (.fn 107 [] [.ptr c0 0, .ptr c1 0, .ptr c2 0, .ptr c3 0, .ptr c4 0])

section
variable {σ : Type} {nx : σ → List Int → σ} {ct : σ → List Int → Bool} {Q : σ → Hp → Prop} {c0 c1 c2 c3 c4 br L n a0 z : Nat} {s : Int} {fv : AV}

theorem count_set0 : ∀ (l : List Int) (i : Nat) (k : Int) (h : i < l.length), l[i] = 0 → k ≠ 0 → (l.set i k).count 0 + 1 = l.count 0 := by
  intro l
  induction l with
  | nil => intro i k h; simp at h
  | cons y l ih =>
    intro i k h h0 hk
    cases i with
    | zero => simp at h0; subst h0; simp [hk]
    | succ i =>
      have := ih i k (by simpa using h) (by simpa using h0) hk
      simp only [List.set_cons_succ, List.count_cons]
      omega

/-- one round writes, calls, writes back -/
theorem fill_loop (hfv : fv.isU = false) (hQE : ∀ st H, Q st H → Env c0 c1 c2 c3 c4 br L n s fv H) (hQs : ∀ st H l, Q st H → Q st (H.set br l)) (hL : L ≤ 64) (hn : n ≤ 64) (hs1 : 1 ≤ s) (hs2 : s ≤ 64) {a : Nat} {g : List Int → Int → List (List Int)}
    (ih : ∀ row u st H, row.length = L → Q st H → RowAt br H row → row.count 0 + 2 ≤ z →
      ∃ H', callv (app a) (.fn 107 [] [.ptr c0 0, .ptr c1 0, .ptr c2 0, .ptr c3 0, .ptr c4 0]) [.int .i64 u] H = some (.bool (run nx ct (g row u) st).2, H') ∧ Q (run nx ct (g row u) st).1 H' ∧ RowAt br H' row)
    {row : List Int} (hl : row.length = L) (hz : row.count 0 ≤ z) {i : Nat} (hi : i < row.length) (hi0 : row[i] = 0) (u : Int) :
    ∀ (m k K : Nat) (st : σ) (H : Hp), k + m = n + 1 → 1 ≤ k → m < K → Q st H → RowAt br H row →
      ∃ H', r107_l0 (app a) K u c0 c2 c3 c4 (i : Int) (k : Int) H = some ((run nx ct ((List.range' k m).flatMap fun k => genK g s row u i k) st).2, H') ∧
        Q (run nx ct ((List.range' k m).flatMap fun k => genK g s row u i k) st).1 H' ∧ RowAt br H' row := by
  intro m
  induction m with
  | zero =>
    intro k K st H hk h1 hK hq hr
    obtain ⟨K, rfl⟩ : ∃ j, K = j + 1 := ⟨K - 1, by omega⟩
    have hE := hQE st H hq
    refine ⟨H, ?_, hq, hr⟩
    rw [r107_l0]
    simp only [Hp.ldI, hE.h2, Option.bind_some, AV.asI, if_true]
    rw [if_neg (by omega)]
    rfl
  | succ m ihm =>
    intro k K st H hk h1 hK hq hr
    obtain ⟨K, rfl⟩ : ∃ j, K = j + 1 := ⟨K - 1, by omega⟩
    have hE := hQE st H hq
    have e2 : H.ldI .i64 c2 0 = some (n : Int) := by simp [Hp.ldI, hE.h2, AV.asI]
    have e3 : H.ldI .i64 c3 0 = some s := by simp [Hp.ldI, hE.h3, AV.asI]
    have e0 : H.ldSl c0 0 = some ⟨false, br, 0, L, L, 0⟩ := by simp [Hp.ldSl, hE.h0, AV.asSl]
    have ej : w64 ((w64 ((w64 ((i : Int) + k)) + s)) - 1) = i + k + s - 1 := by rw [w64_id (n := (i : Int) + k) (by omega) (by omega), w64_id (n := (i : Int) + k + s) (by omega) (by omega), w64_id (by omega) (by omega)]
    have ek : w64 ((k : Int) + 1) = ((k + 1 : Nat) : Int) := by rw [w64_id (by omega) (by omega)]; rfl
    rw [r107_l0]
    simp only [e2, e3, e0, Option.bind_some, ej]
    rw [if_pos (by omega)]
    simp only [ck]
    rw [if_pos (by omega), List.range'_succ, List.flatMap_cons]
    have next := ihm (k + 1) K st H (by omega) (by omega) (by omega) hq hr
    by_cases hb : bitq u k
    · rw [if_pos hb]
      have : genK g s row u i k = [] := by unfold genK; rw [if_pos (.inl hb)]
      rw [this, List.nil_append, r107_j1, if_pos rfl, ek]
      exact next
    rw [if_neg hb]
    by_cases hj : (L : Int) ≤ i + k + s - 1
    · have : genK g s row u i k = [] := by unfold genK; rw [if_pos (.inr (.inl (by rw [hl]; exact hj)))]
      rw [if_pos hj, this, List.nil_append, r107_j1, if_pos rfl, ek]
      exact next
    rw [if_neg hj]
    obtain ⟨j, hj'⟩ : ∃ j : Nat, (i : Int) + k + s - 1 = j := ⟨(i + k + s - 1).toNat, by omega⟩
    have hjL : j < row.length := by omega
    rw [hj', if_pos (by omega)]
    simp only [Int.toNat_natCast, Nat.mul_one, Nat.zero_add]
    have hld := hr.ints.ldI hjL
    simp only [Nat.zero_add] at hld
    rw [hld]
    simp only [Option.bind_some]
    by_cases h0 : row[j] = 0
    · have hg : genK g s row u i k = g ((row.set i k).set j k) (orb u k) := by
        unfold genK
        rw [hj', if_neg]
        · simp
        · rintro (h | h | h)
          · exact hb h
          · omega
          · exact h (by simp [List.getElem?_eq_getElem hjL, h0])
      have hij : i < j := by omega
      rw [r107_j1, decide_eq_false (by simpa using h0), if_neg (by simp)]
      simp only [e0, Option.bind_some, Int.toNat_natCast, Nat.mul_one, Nat.zero_add, ck]
      obtain ⟨w1, r1⟩ := hr.st (i := i) (by omega) (k : Int)
      have hq1 := hQs st H (.cells ((row.set i k).map (.int .i64)) false) hq
      have hE1 := hQE _ _ hq1
      obtain ⟨w2, r2⟩ := r1.st (i := j) (by simpa using hjL) (k : Int)
      have hq2 := hQs st _ (.cells (((row.set i k).set j k).map (.int .i64)) false) hq1
      have hE2 := hQE _ _ hq2
      have d1 : ∀ {H}, Env c0 c1 c2 c3 c4 br L n s fv H → H.ldSl c0 0 = some ⟨false, br, 0, L, L, 0⟩ := fun h => by simp [Hp.ldSl, h.h0, AV.asSl]
      rw [if_pos (by omega), w1]
      simp only [Option.bind_some]
      rw [if_pos (by omega), w2]
      simp only [Option.bind_some]
      rw [if_pos (d1 hE1), if_pos (d1 hE2)]
      have e4 := hE2.h4
      simp only [Hp.ldV, e4, Option.bind_some, AV.isU, Bool.false_eq_true, if_false]
      have hz2 : ((row.set i k).set j k).count 0 + 2 ≤ z := by
        have c1 := count_set0 row i k hi hi0 (by omega)
        have c2 := count_set0 (row.set i k) j k (by simpa using hjL) (by rw [List.getElem_set_ne (by omega)]; exact h0) (by omega)
        omega
      obtain ⟨H3, hc, hq3, r3⟩ := ih ((row.set i k).set j k) (orb u k) st _ (by simp [hl]) hq2 r2 hz2
      have hE3 := hQE _ _ hq3
      rw [if_pos (by omega)]
      rw [show bitsOf .or .i64 u (shlOf .i64 1 k) = orb u k from rfl, hc]
      simp only [Option.bind_some, AV.asB, d1 hE3, Nat.zero_add]
      obtain ⟨w4, r4⟩ := r3.st (i := i) (by simp; omega) 0
      have hq4 := hQs _ _ (.cells ((((row.set i k).set j k).set i 0).map (.int .i64)) false) hq3
      have hE4 := hQE _ _ hq4
      obtain ⟨w5, r5⟩ := r4.st (i := j) (by simpa using hjL) 0
      have hq5 := hQs _ _ (.cells (((((row.set i k).set j k).set i 0).set j 0).map (.int .i64)) false) hq4
      have hE5 := hQE _ _ hq5
      rw [if_pos (by omega), w4]
      simp only [Option.bind_some]
      rw [if_pos (by omega), w5]
      simp only [Option.bind_some]
      rw [if_pos (d1 hE4), if_pos (d1 hE5)]
      have hback : ((((row.set i k).set j k).set i 0).set j 0) = row := by
        apply List.ext_getElem
        · simp
        · intro t h1 h2
          simp only [List.getElem_set]
          by_cases ht : j = t
          · subst ht; simp [h0]
          · by_cases ht2 : i = t
            · subst ht2; simp [ht, hi0]
            · simp [ht, ht2]
      rw [hback] at r5 hq5 ⊢
      rw [hg, run_append]
      by_cases hrun : (run nx ct (g ((row.set i k).set j k) (orb u k)) st).2 = true
      · rw [if_pos hrun, if_pos hrun, ek]
        exact ihm (k + 1) K _ _ (by omega) (by omega) (by omega) hq5 r5
      · rw [if_neg hrun, if_neg hrun]
        exact ⟨_, rfl, hq5, r5⟩
    · have : genK g s row u i k = [] := by
        unfold genK
        rw [if_pos (.inr (.inr (by rw [hj']; simp [List.getElem?_eq_getElem hjL, h0])))]
      rw [decide_eq_true h0, this, List.nil_append, r107_j1, if_pos rfl, ek]
      exact next

theorem app107 (k : Nat) (u : Int) (H : Hp) : callv (app (k + 1)) (.fn 107 [] [.ptr c0 0, .ptr c1 0, .ptr c2 0, .ptr c3 0, .ptr c4 0]) [.int .i64 u] H = (r107 (app k) u c0 c1 c2 c3 c4 H).map fun p => (.bool p.1, p.2) := rfl

/-- ALL ROWS ARE VISITED, IN ORDER, AS LONG AS MORE ARE WANTED -/
theorem fill_spec (hfv : fv.isU = false) (hQE : ∀ st H, Q st H → Env c0 c1 c2 c3 c4 br L n s fv H) (hQs : ∀ st H l, Q st H → Q st (H.set br l)) (hL : L ≤ 64) (hn : n ≤ 64) (hs1 : 1 ≤ s) (hs2 : s ≤ 64)
    (hv : ∀ a, a0 ≤ a → ∀ row st H, row.length = L → Q st H → RowAt br H row → ∃ H', callv (app a) fv [.sl ⟨false, br, 0, L, L, 0⟩] H = some (.bool (ct st row), H') ∧ Q (nx st row) H' ∧ RowAt br H' row) :
    ∀ (f : Nat) row u st H, row.length = L → Q st H → RowAt br H row → row.count 0 < 2 * f →
      ∃ H', callv (app (a0 + f)) (.fn 107 [] [.ptr c0 0, .ptr c1 0, .ptr c2 0, .ptr c3 0, .ptr c4 0]) [.int .i64 u] H = some (.bool (run nx ct (gen n s f row u) st).2, H') ∧ Q (run nx ct (gen n s f row u) st).1 H' ∧ RowAt br H' row := by
  intro f
  induction f with
  | zero => intro row u st H _ _ _ h; omega
  | succ f ih =>
    intro row u st H hl hq hr hz
    have hE := hQE st H hq
    rw [← Nat.add_assoc, app107]
    unfold r107
    have d1 : ∀ {H}, Env c0 c1 c2 c3 c4 br L n s fv H → H.ldSl c0 0 = some ⟨false, br, 0, L, L, 0⟩ := fun h => by simp [Hp.ldSl, h.h0, AV.asSl]
    have hi := hr.ints
    rw [hl] at hi
    simp only [d1 hE, Option.bind_some, r108_spec hi (by omega) 0]
    rcases idxF_cases 0 row 0 (Int.le_refl 0) with ⟨h1, h2⟩ | ⟨t, ht, h1, h2, _⟩
    · rw [h1, if_pos (by decide)]
      simp only [Hp.ldV, hE.h1, Option.bind_some, hfv, Bool.false_eq_true, if_false]
      obtain ⟨H', hc, hq', hr'⟩ := hv (a0 + f) (by omega) row st H hl hq hr
      have hg : gen n s (f + 1) row u = [row] := by rw [gen, h1, if_pos (by decide)]
      rw [hc, hg]
      simp only [Option.bind_some, AV.asB, Option.map_some, run]
      by_cases hct : ct st row = true
      · rw [if_pos hct]; exact ⟨H', by rw [hct], hq', hr'⟩
      · rw [if_neg hct]; exact ⟨H', by simp at hct; rw [hct], hq', hr'⟩
    · rw [h1, if_neg (by omega)]
      have hg : gen n s (f + 1) row u = (List.range' 1 n).flatMap fun k => genK (gen n s f) s row u (t : Int) k := by
        rw [gen, h1, if_neg (by omega)]; simp
      rw [hg]
      have := fill_loop (nx := nx) (ct := ct) (z := row.count 0) (a := a0 + f) (g := gen n s f) hfv hQE hQs hL hn hs1 hs2 (fun row' u' st' H' hl' hq' hr' hz' => ih row' u' st' H' hl' hq' hr' (by omega)) hl (Nat.le_refl _) ht h2 u n 1 FUEL st H (by omega) (by omega) (by unfold FUEL; omega) hq hr
      obtain ⟨H', hc, hq', hr'⟩ := this
      refine ⟨H', ?_, hq', hr'⟩
      rw [show ((0 : Int) + (t : Int)) = (t : Int) by omega]
      rw [show ((1 : Nat) : Int) = 1 from rfl] at hc
      rw [hc]
      rfl
end
end Go.Lt.P8
