/- PLAIN LAWS OF WHAT IS COMPUTED, for the statement 'PairsSpread'. Nothing is asked of the input. -/
import Derived.Test.YthmhdbmpeepmaaaU12URows2
import Derived.Test.YthmhdbmpeepmaaaU12UList
set_option linter.unusedVariables false
set_option linter.unusedSimpArgs false
namespace Go.Lt.P8
open Go Go.Lt Go.Proofs

theorem r72_spec (n s : Int) (H : Hp) : r72 n s H = some (decide (1 ≤ n ∧ n ≤ 8 ∧ (s = 1 ∨ s = 2)), H) := by
  unfold r72 r80
  by_cases h1 : 1 ≤ n <;> by_cases h2 : n ≤ 8 <;> by_cases h3 : s = 1 <;> simp [h1, h2, h3]

theorem first_spec {n : Nat} {s : Int} (hn1 : 1 ≤ n) (hn : n ≤ 8) (hs : s = 1 ∨ s = 2) {f : Nat} (hf : n < f) (H : Hp) :
    ∃ v e H', r20 (app (1 + f)) n s H = some ((v, e), H') ∧ Gr H H' ∧ match gen n s f (zeros n) 0 with
      | [] => v = ⟨true, 0, 0, 0, 0, 0⟩ ∧ e = 4
      | row :: _ => v.nil = false ∧ e = 0 ∧ IS H' v row := by
  unfold r20
  rw [r72_spec, decide_eq_true (by omega)]
  simp only [Option.bind_some, if_true, lt]
  generalize hA : H.push (.cells [.sl ⟨true, 0, 0, 0, 0, 0⟩] false) = A
  have hAn : A.n = H.n + 1 := by rw [← hA]; simp
  have gA : ∀ b, b < H.n → A.get b = H.get b := fun b hb => by rw [← hA, Hp.get_push_old _ _ hb]
  have cA : A.get H.n = some (.cells [.sl ⟨true, 0, 0, 0, 0, 0⟩] false) := by rw [← hA]; simp
  clear hA
  obtain ⟨H', hr, hV⟩ := rows_spec (nx := fun _ row => some row) (ct := fun _ _ => false)
    (V := fun (st : Option (List Int)) H' => H.n ≤ H'.n ∧ (∀ b, b < H.n → H'.get b = H.get b) ∧
      ∃ v, H'.get H.n = some (.cells [.sl v] false) ∧ match st with | none => v = ⟨true, 0, 0, 0, 0, 0⟩ | some row => v.nil = false ∧ IS H' v row ∧ v.b ≠ A.n + 3)
    (a0 := 1) (s := s) (fv := .fn 74 [] [.ptr H.n 0]) (H := A) (st0 := none) rfl rfl hn1 (by omega) (by omega) (by omega)
    (fun st H' l h => by
      obtain ⟨h1, h2, v, h3, h4⟩ := h
      refine ⟨by simpa using h1, fun b hb => by rw [Hp.get_set_other _ _ (by omega)]; exact h2 b hb, v, by rw [Hp.get_set_other _ _ (by omega)]; exact h3, ?_⟩
      cases st with
      | none => exact h4
      | some row => exact ⟨h4.1, ⟨Cs.congr h4.2.1.ints (Hp.get_set_other _ _ h4.2.2), h4.2.1.cap, h4.2.1.opn, h4.2.1.nil⟩, h4.2.2⟩)
    (fun H' g => ⟨by have := g.1; omega, fun b hb => by rw [g.2 _ (by omega), gA b hb], _, by rw [g.2 _ (by omega)]; exact cA, rfl⟩)
    (fun a ha row st H' hl hE hV hr hN => by
      obtain ⟨a, rfl⟩ : ∃ j, a = j + 1 := ⟨a - 1, by omega⟩
      have e : callv (app (a + 1)) (.fn 74 [] [.ptr H.n 0]) [.sl ⟨false, A.n + 3, 0, 2 * n, 2 * n, 0⟩] H' = (r74 ⟨false, A.n + 3, 0, 2 * n, 2 * n, 0⟩ H.n H').map fun p => (.bool p.1, p.2) := rfl
      rw [e]
      unfold r74
      have hi := hr.ints
      rw [hl] at hi
      obtain ⟨v', H2, hc, g, hv', hnil, hgl⟩ := r36_is (v := ⟨false, A.n + 3, 0, 2 * n, 2 * n, 0⟩) ⟨hi, by simp, by simp, by simp⟩ (by omega)
      obtain ⟨h1, h2, v, h3, h4⟩ := hV
      rw [hc]
      simp only [Option.bind_some]
      have h3' : H2.get H.n = some (.cells [.sl v] false) := by rw [g.2 _ (by omega)]; exact h3
      rw [st_eq h3' (by simp)]
      simp only [Option.bind_some, List.set_cons_zero, Option.map_some]
      obtain ⟨hge, hlt, _⟩ := hgl rfl
      have g1 := g.1
      refine ⟨_, rfl, ⟨?_, ?_, ?_, ?_, ?_⟩, ⟨by simp; omega, fun b hb => by rw [Hp.get_set_other _ _ (by omega), g.2 _ (by omega)]; exact h2 b hb, v', by rw [Hp.get_set_same _ _ (by omega)], hnil, ?_, by omega⟩, ?_, by simp; omega⟩
      · rw [ld_set_other _ _ _ (by omega)]; exact g.ld hE.h0
      · rw [ld_set_other _ _ _ (by omega)]; exact g.ld hE.h1
      · rw [ld_set_other _ _ _ (by omega)]; exact g.ld hE.h2
      · rw [ld_set_other _ _ _ (by omega)]; exact g.ld hE.h3
      · rw [ld_set_other _ _ _ (by omega)]; exact g.ld hE.h4
      · exact ⟨Cs.congr hv'.ints (Hp.get_set_other _ _ (by omega)), hv'.cap, hv'.opn, hv'.nil⟩
      · unfold RowAt; rw [Hp.get_set_other _ _ (by omega), g.2 _ (by omega)]; exact hr) hf
  rw [hr]
  obtain ⟨h1, h2, v, h3, h4⟩ := hV
  have e2 : H'.ldSl H.n 0 = some v := by simp [Hp.ldSl, Hp.ld, h3, AV.asSl]
  simp only [Option.bind_some, e2]
  cases hg : gen n s f (zeros n) 0 with
  | nil =>
    rw [hg] at h4
    simp only [run] at h4
    subst h4
    exact ⟨_, _, _, rfl, ⟨h1, h2⟩, rfl, rfl⟩
  | cons row rest =>
    rw [hg] at h4
    simp only [run, Bool.false_eq_true, if_false] at h4
    rw [if_neg (by rw [h4.1]; simp)]
    exact ⟨_, _, _, rfl, ⟨h1, h2⟩, h4.1, rfl, h4.2.1⟩

/-- awake -/
theorem awake_spec (H : Hp) {f : Nat} (hf : 1 < f) (hg : gen 1 1 f (zeros 1) 0 = [[1, 1]]) : ∃ H', r23 (app (1 + f)) H = some (true, H') := by
  unfold r23
  obtain ⟨v, e, H', hr, _, h⟩ := first_spec (n := 1) (s := 1) (by omega) (by omega) (.inl rfl) hf H
  rw [hg] at h
  obtain ⟨hn, rfl, hi⟩ := h
  rw [show ((1 : Nat) : Int) = 1 from rfl] at hr
  rw [hr]
  simp only [Option.bind_some, if_true]
  have h2 : Ints (H'.push (.cells [.int .i64 1, .int .i64 1] false)) ⟨false, H'.n, 0, 2, 2, 0⟩ [1, 1] := ints_new H' [1, 1] false 2 0
  rw [r25_spec (hi.ints.gr (.push _ _)) h2 (by simp)]
  exact ⟨_, rfl⟩
theorem gen11 : gen 1 1 9 (zeros 1) 0 = [[1, 1]] := by decide +kernel

theorem awake10 (H : Hp) : ∃ H', r23 (app 10) H = some (true, H') := awake_spec H (f := 9) (by omega) gen11
end Go.Lt.P8
