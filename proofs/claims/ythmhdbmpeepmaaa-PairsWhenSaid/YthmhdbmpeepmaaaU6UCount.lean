/- PLAIN LAWS OF WHAT IS COMPUTED, for the statement 'PairsWhen'. Nothing is asked of the input. -/
import Derived.Test.YthmhdbmpeepmaaaU6UFirst
set_option linter.unusedVariables false
namespace Go.Lt.P8
open Go Go.Lt Go.Proofs
theorem run_count : ∀ (l : List (List Int)) (st : Int), 0 ≤ st → st + l.length < 9223372036854775808 → run (fun st _ => w64 (st + 1)) (fun _ _ => true) l st = (st + l.length, true) := by
  intro l
  induction l with
  | nil => intro st _ _; simp [run]
  | cons r l ih =>
    intro st h0 h
    simp only [List.length_cons] at h
    rw [run, if_pos rfl, w64_id (by omega) (by omega), ih _ (by omega) (by omega)]
    simp only [List.length_cons]
    congr 1
    push_cast
    omega

theorem count_spec {n : Nat} {s : Int} (hn1 : 1 ≤ n) (hn : n ≤ 8) (hs : s = 1 ∨ s = 2) {a f : Nat} (hf : n < f) (hb : (gen n s f (zeros n) 0).length < 9223372036854775808) (H : Hp) :
    ∃ H', r21 (app (1 + f)) n s H = some ((((gen n s f (zeros n) 0).length : Int), 0), H') ∧ Gr H H' := by
  unfold r21
  rw [r72_spec, decide_eq_true (by omega)]
  simp only [Option.bind_some, if_true]
  rw [st_eq (b := H.n) (cs := [.int .i64 0]) (by simp) (by simp)]
  simp only [Option.bind_some, List.set_cons_zero]
  generalize hA : (H.push (.cells [.int .i64 0] false)).set H.n (.cells [.int .i64 0] false) = A
  have hAn : A.n = H.n + 1 := by rw [← hA]; simp
  have gA : ∀ b, b < H.n → A.get b = H.get b := fun b hb => by rw [← hA, Hp.get_set_other _ _ (by omega), Hp.get_push_old _ _ hb]
  have cA : A.get H.n = some (.cells [.int .i64 0] false) := by rw [← hA, Hp.get_set_same _ _ (by simp)]
  clear hA
  obtain ⟨H', hr, hV⟩ := rows_spec (nx := fun st _ => w64 (st + 1)) (ct := fun _ _ => true) (V := fun (st : Int) H' => H'.get H.n = some (.cells [.int .i64 st] false) ∧ H.n ≤ H'.n ∧ ∀ b, b < H.n → H'.get b = H.get b)
    (a0 := 1) (s := s) (fv := .fn 75 [] [.ptr H.n 0]) (H := A) (st0 := 0) rfl rfl hn1 (by omega) (by omega) (by omega)
    (fun st H' l h => ⟨by rw [Hp.get_set_other _ _ (by omega)]; exact h.1, by simpa using h.2.1, fun b hb => by rw [Hp.get_set_other _ _ (by omega)]; exact h.2.2 b hb⟩)
    (fun H' g => ⟨by rw [g.2 _ (by omega)]; exact cA, by have := g.1; omega, fun b hb => by rw [g.2 _ (by omega), gA b hb]⟩)
    (fun a ha row st H' hl hE hV hr hN => by
      obtain ⟨a, rfl⟩ : ∃ j, a = j + 1 := ⟨a - 1, by omega⟩
      have e : callv (app (a + 1)) (.fn 75 [] [.ptr H.n 0]) [.sl ⟨false, A.n + 3, 0, 2 * n, 2 * n, 0⟩] H' = (r75 ⟨false, A.n + 3, 0, 2 * n, 2 * n, 0⟩ H.n H').map fun p => (.bool p.1, p.2) := rfl
      rw [e]
      unfold r75
      have e2 : H'.ldI .i64 H.n 0 = some st := by simp [Hp.ldI, Hp.ld, hV.1, AV.asI]
      rw [e2]
      simp only [Option.bind_some]
      rw [st_eq hV.1 (by simp)]
      simp only [Option.bind_some, List.set_cons_zero, Option.map_some]
      refine ⟨_, rfl, ⟨?_, ?_, ?_, ?_, ?_⟩, ⟨by rw [Hp.get_set_same _ _ (by omega)], by simpa using hV.2.1, fun b hb => by rw [Hp.get_set_other _ _ (by omega)]; exact hV.2.2 b hb⟩, ?_, by simpa using hN⟩
      · rw [ld_set_other _ _ _ (by omega)]; exact hE.h0
      · rw [ld_set_other _ _ _ (by omega)]; exact hE.h1
      · rw [ld_set_other _ _ _ (by omega)]; exact hE.h2
      · rw [ld_set_other _ _ _ (by omega)]; exact hE.h3
      · rw [ld_set_other _ _ _ (by omega)]; exact hE.h4
      · unfold RowAt; rw [Hp.get_set_other _ _ (by omega)]; exact hr) hf
  rw [hr]
  simp only [Option.bind_some]
  rw [run_count _ _ (by omega) (by omega)] at hV
  have e2 : H'.ldI .i64 H.n 0 = some (0 + ((gen n s f (zeros n) 0).length : Int)) := by simp [Hp.ldI, Hp.ld, hV.1, AV.asI]
  rw [e2]
  exact ⟨H', by simp, hV.2.1, hV.2.2⟩

end Go.Lt.P8
