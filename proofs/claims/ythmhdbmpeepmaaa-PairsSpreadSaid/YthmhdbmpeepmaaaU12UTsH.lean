/- PLAIN LAWS OF WHAT IS COMPUTED, for the statement 'PairsSpread'. Nothing is asked of the input. -/
import Derived.Test.YthmhdbmpeepmaaaU12UTsG
set_option linter.unusedVariables false
set_option linter.unusedSimpArgs false
namespace Go.Lt.P8
open Go Go.Lt Go.Proofs
theorem areF_nil {v : Nat} (hv : 3 ≤ v) : areF v [] = false := by
  rw [Bool.eq_false_iff]
  intro h
  have := (areF_iff.1 h).every (0, 1) (allP_mem.2 ⟨by simp, by simp, by dsimp only; omega⟩)
  simp [pairs3] at this
/-- Spreads -/
theorem r51_ok {k : Nat} (hk : 14 ≤ k) {n : Int} {H : Hp} {lv : Sl} {l : List Tr} (hlv : SL H lv l) (hb : l.length ≤ 1000) : Ok (r51 (app k) n lv H) fun r H' => Gr H H' ∧ if (3 ≤ n ∧ n ≤ 9) ∧ areF n.toNat l = true then r.2 = 0 ∧ ∃ vs, SLL H' r.1 vs (spF n.toNat l 13 [] 0 0) else r = (⟨true, 0, 0, 0, 0, 0⟩, 2) := by
  unfold r51
  obtain ⟨k, rfl⟩ : ∃ j, k = j + 1 := ⟨k - 1, by omega⟩
  refine Ok.lt ?_
  have n0 : (H.push (.cells [.int .i64 n] false)).n = H.n + 1 := by simp
  rw [n0]
  generalize hA : (H.push (.cells [.int .i64 n] false)).push (.cells [.sl lv] false) = A
  have nA : A.n = H.n + 2 := by rw [← hA]; simp
  have gA : Gr H A := by rw [← hA]; exact (Gr.push _ _).trans (.push _ _)
  have vA : A.get H.n = some (.cells [.int .i64 n] false) := by rw [← hA, Hp.get_push_old _ _ (by simp)]; simp
  have lA : A.get (H.n + 1) = some (.cells [.sl lv] false) := by rw [← hA, ← n0, Hp.get_push_new]
  clear hA
  have h88 : r88 n A = some (decide (3 ≤ n ∧ n ≤ 9), A) := by
    unfold r88
    by_cases h1 : 3 ≤ n <;> simp [h1]
  refine Ok.ld (ldI_get vA rfl) (Ok.ld h88 ?_)
  by_cases hn : 3 ≤ n ∧ n ≤ 9
  · obtain ⟨v, rfl⟩ : ∃ m : Nat, n = m := ⟨n.toNat, by omega⟩
    have hv : 3 ≤ v ∧ v ≤ 9 := by omega
    simp only [Int.toNat_natCast]
    refine Ok.pos (by simpa using hn) (Ok.ld (ldI_get vA rfl) (Ok.ld (ldSl_get lA rfl) (Ok.bind (r89_ok hv.2 (hlv.gr gA) hb) fun b B ⟨gB, hb1⟩ => ?_)))
    subst hb1
    unfold r51_j0
    cases hare : areF v l with
    | false =>
      refine Ok.pos (by simp) (Ok.ret ⟨gA.trans gB, ?_⟩)
      rw [if_neg (by simp)]
    | true =>
      have hne : l ≠ [] := by
        rintro rfl
        rw [areF_nil hv.1] at hare
        cases hare
      have T := areF_iff.1 hare
      have hl12 := T.len hv
      refine Ok.neg (by simp) (Ok.lt (Ok.lt ?_))
      refine Ok.mono (P := fun r H' => Gr H H' ∧ r.2 = 0 ∧ ∃ vs, SLL H' r.1 vs (spF v l 13 [] 0 0)) ?_ fun r H' h => ⟨h.1, by rw [if_pos ⟨hn, rfl⟩]; exact h.2⟩
      try dsimp only
      have hlvB := hlv.gr (gA.trans gB)
      have hlvb := hlv.blk hne
      have vB : B.get H.n = some (.cells [.int .i64 v] false) := by rw [gB.2 _ (by omega)]; exact vA
      have lB : B.get (H.n + 1) = some (.cells [.sl lv] false) := by rw [gB.2 _ (by omega)]; exact lA
      have hBn := gB.1
      rw [show (B.push (.cells [.sl ⟨true, 0, 0, 0, 0, 0⟩] false)).n = B.n + 1 by simp]
      generalize hD : (B.push (.cells [.sl ⟨true, 0, 0, 0, 0, 0⟩] false)).push (.cells [.nilfn] false) = D
      have nD : D.n = B.n + 2 := by rw [← hD]; simp
      have gD : Gr B D := by rw [← hD]; exact (Gr.push _ _).trans (.push _ _)
      have oD : D.get B.n = some (.cells [.sl ⟨true, 0, 0, 0, 0, 0⟩] false) := by rw [← hD, Hp.get_push_old _ _ (by simp)]; simp
      have fD : D.get (B.n + 1) = some (.cells [.nilfn] false) := by rw [← hD, show B.n + 1 = (B.push (.cells [.sl ⟨true, 0, 0, 0, 0, 0⟩] false)).n by simp, Hp.get_push_new]
      clear hD
      refine Ok.st fD (by simp) fun E eE hE => ?_
      have nE : E.n = B.n + 2 := by rw [eE]; simpa using nD
      have oE : ∀ c, c ≠ B.n + 1 → E.get c = D.get c := fun c hc => by rw [eE, Hp.get_set_other _ _ hc]
      clear eE
      have ap : Apx (B.n + 2) H.n B.n (H.n + 1) (B.n + 1) lv := ⟨by omega, by omega, fun _ => by omega⟩
      have S : Spr v (B.n + 2) H.n B.n (H.n + 1) (B.n + 1) lv l E ⟨true, 0, 0, 0, 0, 0⟩ [] [] := by
        refine ⟨?_, ?_, ?_, hE, ?_, ⟨Acc.nilS, .nil, by simp⟩⟩
        · rw [oE _ (by omega), gD.2 _ (by omega)]; exact vB
        · rw [oE _ (by omega)]; exact oD
        · rw [oE _ (by omega), gD.2 _ (by omega)]; exact lB
        · exact (hlvB.gr gD).same fun _ => oE _ (by omega)
      have gE : Gr H E := ⟨by omega, fun c hc => by rw [oE _ (by omega), gD.2 _ (by omega), (gA.trans gB).2 c hc]⟩
      refine Ok.ld (ldV_get S.f rfl rfl) ?_
      refine Ok.bind (P := fun _ H' => ∃ x' vs', Spr v (B.n + 2) H.n B.n (H.n + 1) (B.n + 1) lv l H' x' vs' ([] ++ spF v l 13 [] 0 0) ∧ Fr B.n B.n ⟨true, 0, 0, 0, 0, 0⟩ x' E H') ?_ ?_
      · show Ok ((r90 (app k) _ _ _ _ _ _ _ E).map fun p => (AV.tup [], p.2)) _
        obtain ⟨_, H', e, hx⟩ := r90_ok hv.2 T.rng hl12 ap 13 k [] 0 0 E _ _ [] [] (by omega) (by omega) (by omega) (by omega) (by omega) (by simp) (by omega) (by simp) SL.nilS (fun e => by cases e) S
        simp only [Int.natCast_zero] at e
        rw [e]
        exact Ok.ret hx
      · rintro r H' ⟨x', vs', S', fr⟩
        refine Ok.ld (ldSl_get S'.o rfl) (Ok.ret ⟨⟨by have := fr.1; show H.n ≤ H'.n; omega, fun c hc => ?_⟩, rfl, vs', ?_⟩)
        · show H'.get c = H.get c
          rw [fr.2.1 c (by omega) (by omega) (by omega) (fun e => by cases e), gE.2 c hc]
        · have := S'.b.sll
          rwa [List.nil_append] at this
  · unfold r51_j0
    refine Ok.neg (by simpa using hn) (Ok.pos rfl (Ok.ret ⟨gA, ?_⟩))
    rw [if_neg (fun h => hn h.1)]
end Go.Lt.P8
