/- PLAIN LAWS OF WHAT IS COMPUTED, for the statement 'PairsTogether'. Nothing is asked of the input. -/
import Derived.Test.YthmhdbmpeepmaaaU16UThG
set_option linter.unusedVariables false
set_option linter.unusedSimpArgs false
namespace Go.Lt.P8
open Go Go.Lt Go.Proofs
/-- Threes -/
theorem r56_ok {k : Nat} (hk : 14 ≤ k) {n : Int} {H : Hp} : Ok (r56 (app k) n H) fun r H' => Gr H H' ∧ if 3 ≤ n ∧ n ≤ 9 then (match growF n.toNat 13 [] with
    | some l => SL H' r.1 l ∧ r.2 = 0
    | none => r = (⟨true, 0, 0, 0, 0, 0⟩, 4)) else r = (⟨true, 0, 0, 0, 0, 0⟩, 2) := by
  unfold r56
  obtain ⟨k, rfl⟩ : ∃ j, k = j + 1 := ⟨k - 1, by omega⟩
  refine Ok.lt ?_
  generalize hA : H.push (.cells [.int .i64 n] false) = A
  have nA : A.n = H.n + 1 := by rw [← hA]; simp
  have gA : Gr H A := by rw [← hA]; exact .push _ _
  have vA : A.get H.n = some (.cells [.int .i64 n] false) := by rw [← hA]; simp
  clear hA
  have h88 : r88 n A = some (decide (3 ≤ n ∧ n ≤ 9), A) := by
    unfold r88
    by_cases h1 : 3 ≤ n <;> simp [h1]
  refine Ok.ld (ldI_get vA rfl) (Ok.ld h88 ?_)
  by_cases hn : 3 ≤ n ∧ n ≤ 9
  · rw [decide_eq_true hn]
    simp only [if_pos hn]
    obtain ⟨v, rfl⟩ : ∃ m : Nat, n = m := ⟨n.toNat, by omega⟩
    simp only [Int.toNat_natCast]
    refine Ok.pos (by simp) ?_
    try dsimp only
    have n1 : (A.push (.map (.arr 2 .i64) [])).n = H.n + 2 := by simp [nA]
    rw [n1]
    generalize hB : (A.push (.map (.arr 2 .i64) [])).push (.cells [.nilmap] false) = B
    have nB : B.n = H.n + 3 := by rw [← hB]; simp [nA]
    have gB : Gr A B := by rw [← hB]; exact (Gr.push _ _).trans (.push _ _)
    have mB : B.get (H.n + 1) = some (.map (.arr 2 .i64) []) := by rw [← hB, Hp.get_push_old _ _ (by omega), ← nA, Hp.get_push_new]
    have cB : B.get (H.n + 2) = some (.cells [.nilmap] false) := by rw [← hB, ← n1, Hp.get_push_new]
    clear hB
    refine Ok.st cB (by simp) fun C eC hC => Ok.lt (Ok.lt ?_)
    try dsimp only at hC
    have nC : C.n = H.n + 3 := by rw [eC]; simp [nB]
    have oC : ∀ c, c ≠ H.n + 2 → C.get c = B.get c := fun c hc => by rw [eC, Hp.get_set_other _ _ hc]
    clear eC
    have n2 : (C.push (.cells [.sl ⟨true, 0, 0, 0, 0, 0⟩] false)).n = H.n + 4 := by simp [nC]
    rw [n2, nC]
    rw [nA] at hC
    generalize hD : (C.push (.cells [.sl ⟨true, 0, 0, 0, 0, 0⟩] false)).push (.cells [.nilfn] false) = D
    have nD : D.n = H.n + 5 := by rw [← hD]; simp [nC]
    have gD : Gr C D := by rw [← hD]; exact (Gr.push _ _).trans (.push _ _)
    have cD : D.get (H.n + 3) = some (.cells [.sl ⟨true, 0, 0, 0, 0, 0⟩] false) := by rw [← hD, Hp.get_push_old _ _ (by omega), ← nC, Hp.get_push_new]
    have fD : D.get (H.n + 4) = some (.cells [.nilfn] false) := by rw [← hD, ← n2, Hp.get_push_new]
    clear hD
    refine Ok.st fD (by simp) fun E eE hE => ?_
    try dsimp only at hE
    have nE : E.n = H.n + 5 := by rw [eE]; simp [nD]
    have oE : ∀ c, c ≠ H.n + 4 → E.get c = D.get c := fun c hc => by rw [eE, Hp.get_set_other _ _ hc]
    clear eE
    have ap : Apt (H.n + 5) (H.n + 1) (H.n + 2) H.n (H.n + 3) (H.n + 4) := ⟨by omega, by omega⟩
    have T : Tog v (H.n + 5) (H.n + 1) (H.n + 2) H.n (H.n + 3) (H.n + 4) E ⟨true, 0, 0, 0, 0, 0⟩ [] := by
      refine ⟨⟨?_, by simp [pairs3]⟩, ?_, ?_, ?_, hE, .inl ⟨rfl, rfl⟩⟩
      · rw [oE _ (by omega), gD.2 _ (by omega), oC _ (by omega)]; exact mB
      · rw [oE _ (by omega), gD.2 _ (by omega)]; exact hC
      · rw [oE _ (by omega), gD.2 _ (by omega), oC _ (by omega), gB.2 _ (by omega)]; exact vA
      · rw [oE _ (by omega)]; exact cD
    have gE : Gr H E := ⟨by omega, fun c hc => by rw [oE _ (by omega), gD.2 _ (by omega), oC _ (by omega), gB.2 _ (by omega), gA.2 _ hc]⟩
    refine Ok.ld (ldV_get T.f rfl rfl) ?_
    refine Ok.bind (P := fun r H' => ∃ b, r = .bool b ∧ b = (growF v 13 []).isSome ∧ ∃ w', H'.get (H.n + 3) = some (.cells [.sl w'] false) ∧ Gr H H' ∧ (∀ r, growF v 13 [] = some r → SL H' w' r)) ?_ ?_
    · show Ok ((r94 (app k) _ _ _ _ E).map fun p => (AV.bool p.1, p.2)) _
      obtain ⟨b, H', e, h1, w', h2, h3, _, h5⟩ := r94_ok ⟨by omega, by omega⟩ ap 13 k [] E _ (by omega) (by simp) ⟨by simp, by simp [pairs3]⟩ (by omega) T
      rw [e]
      refine Ok.ret ⟨b, rfl, h1, w', h2, ⟨by have := h3.1; show H.n ≤ H'.n; omega, fun c hc => ?_⟩, h5⟩
      show H'.get c = H.get c
      rw [h3.2.1 c (by omega) (by omega) (by omega) (fun e => by cases e), gE.2 c hc]
    · rintro r H' ⟨b, rfl, hb, w', h2, g, h5⟩
      refine Ok.ld rfl ?_
      cases hg : growF v 13 [] with
      | some l =>
        rw [hg] at hb
        subst hb
        exact Ok.pos rfl (Ok.ld (ldSl_get h2 rfl) (Ok.ret ⟨g, h5 l hg, rfl⟩))
      | none =>
        rw [hg] at hb
        subst hb
        exact Ok.neg (by simp) (Ok.ret ⟨g, rfl⟩)
  · rw [decide_eq_false hn]
    simp only [if_neg hn]
    exact Ok.neg (by simp) (Ok.ret ⟨gA, rfl⟩)
end Go.Lt.P8
