/- PLAIN LAWS OF WHAT IS COMPUTED, for the statement 'PairsSpread'. Nothing is asked of the input. -/
import Derived.Test.YthmhdbmpeepmaaaU12UThP
import Derived.Test.YthmhdbmpeepmaaaLB
import Derived.Test.YthmhdbmpeepmaaaLB
import Derived.Test.YthmhdbmpeepmaaaG12A
set_option linter.unusedVariables false
set_option linter.unusedSimpArgs false
namespace Go.Lt.P8
open Go Go.Lt Go.Proofs
theorem r111_ok (t : Tr) (H : Hp) : Ok (r111 t.1 t.2.1 t.2.2 H) fun w H' => Gr H H' ∧ SL H' w (prs3 t) := by
  unfold r111
  refine Ok.lt ?_
  have hg : (H.push (.cells [.int .i64 t.1, .int .i64 t.2.1, .int .i64 t.2.2] false)).get H.n = some (.cells [.int .i64 t.1, .int .i64 t.2.1, .int .i64 t.2.2] false) := by simp
  refine Ok.ld (ldI_get hg rfl) (Ok.ld (ldI_get hg rfl) (Ok.ld (ldI_get hg rfl) (Ok.ld (ldI_get hg rfl) (Ok.ld (ldI_get hg rfl) (Ok.ld (ldI_get hg rfl) (Ok.lt (Ok.ret ⟨(Gr.push _ _).trans (.push _ _), ?_⟩)))))))
  exact .of_get (ro := false) (by rw [Hp.get_push_new]; rfl) rfl rfl (Nat.le_refl _) (.inl rfl) rfl
theorem r111_own (t : Tr) (H : Hp) : Ok (r111 t.1 t.2.1 t.2.2 H) fun w H' => Gr H H' ∧ SL H' w (prs3 t) ∧ H.n ≤ w.b := by
  unfold r111
  refine Ok.lt ?_
  have hg : (H.push (.cells [.int .i64 t.1, .int .i64 t.2.1, .int .i64 t.2.2] false)).get H.n = some (.cells [.int .i64 t.1, .int .i64 t.2.1, .int .i64 t.2.2] false) := by simp
  refine Ok.ld (ldI_get hg rfl) (Ok.ld (ldI_get hg rfl) (Ok.ld (ldI_get hg rfl) (Ok.ld (ldI_get hg rfl) (Ok.ld (ldI_get hg rfl) (Ok.ld (ldI_get hg rfl) (Ok.lt (Ok.ret ⟨(Gr.push _ _).trans (.push _ _), ?_, by simp⟩)))))))
  exact .of_get (ro := false) (by rw [Hp.get_push_new]; rfl) rfl rfl (Nat.le_refl _) (.inl rfl) rfl
/-- what a closure says of a pair -/
def SaysP (a : App) (fv : AV) (Hb : Hp) (f : Pr → Bool) : Prop := ∀ H, Gr Hb H → ∀ p : Pr, Ok (callv a fv [.agg [.int .i64 p.1, .int .i64 p.2]] H) fun r H' => Gr H H' ∧ r = .bool (f p)
theorem r110_ok {a : App} {fv : AV} {Hb : Hp} {f : Pr → Bool} (hf : SaysP a fv Hb f) {H : Hp} (g : Gr Hb H) {v : Sl} {l : List Pr} (hv : SL H v l) (hb : l.length ≤ 1000000) : Ok (r110 a v fv H) fun b H' => Gr H H' ∧ b = l.any f := by
  unfold r110 r124
  have hlen := hv.len
  rw [hlen]
  refine Ok.bind (P := fun i H' => Gr H H' ∧ decide (0 ≤ i) = l.any f) ?_ fun i H' h => Ok.ret h
  refine Ok.loop (L := fun K (s : Int) H' => r124_l0 a K v fv l.length s H') (fun m s H' => ∃ i : Nat, s = i ∧ i + m = l.length ∧ Gr H H' ∧ (l.take i).any f = false) ?_ FUEL l.length 0 H (by unfold FUEL; omega) ⟨0, rfl, by omega, .refl _, rfl⟩
  rintro K m s H1 ⟨i, rfl, hm, g1, hi⟩ ih
  try dsimp only at *
  rw [r124_l0]
  by_cases h : i < l.length
  · have hg := hv.gr g1
    refine Ok.pos (by omega) (Ok.ck (by omega) (Ok.ld (hg.ldI (i := i) (j := 0) h rfl) (Ok.ld (hg.ldI (i := i) (j := 1) h rfl) ?_)))
    refine Ok.bind (hf H1 (g.trans g1) l[i]) fun r H2 ⟨g2, hr⟩ => ?_
    subst hr
    refine Ok.ld rfl (Ok.ite (fun hc => Ok.ret ⟨g1.trans g2, ?_⟩) fun hc => ?_)
    · rw [decide_eq_true (by omega)]
      symm
      rw [List.any_eq_true]
      exact ⟨_, List.getElem_mem h, hc⟩
    · rw [w64_succ (by omega)]
      refine ih (m - 1) _ H2 (by omega) ⟨i + 1, rfl, by omega, g1.trans g2, ?_⟩
      rw [List.take_succ_eq_append_getElem h, List.any_append, hi]
      simpa using hc
  · refine Ok.neg (by omega) (Ok.ret ⟨g1, ?_⟩)
    rw [List.take_of_length_le (by omega)] at hi
    rw [hi]
    rfl
/-- together.fits -/
theorem r96_ok {k : Nat} {H : Hp} {mb : Nat} {S : List Pr} (hm : MapP H mb S) (t : Tr) : Ok (r96 (app (k + 1)) mb t.1 t.2.1 t.2.2 H) fun b H' => Gr H H' ∧ b = !((prs3 t).any fun p => decide (p ∈ S)) := by
  unfold r96
  refine Ok.lt ?_
  generalize hB : (H.push (.cells [.map mb] false)).push (.cells [.int .i64 t.1, .int .i64 t.2.1, .int .i64 t.2.2] false) = B
  have n1 : (H.push (.cells [.map mb] false)).n = H.n + 1 := by simp
  rw [n1]
  have gB : Gr H B := by rw [← hB]; exact (Gr.push _ _).trans (.push _ _)
  have b0 : B.get H.n = some (.cells [.map mb] false) := by rw [← hB, Hp.get_push_old _ _ (by simp)]; simp
  have b1 : B.get (H.n + 1) = some (.cells [.int .i64 t.1, .int .i64 t.2.1, .int .i64 t.2.2] false) := by rw [← hB, ← n1, Hp.get_push_new]
  have nB : B.n = H.n + 2 := by rw [← hB]; simp
  clear hB
  have mB : MapP B mb S := hm.keep (gB.2 _ (Hp.get_lt hm.1))
  refine Ok.ld (ldI_get b1 rfl) (Ok.ld (ldI_get b1 rfl) (Ok.ld (ldI_get b1 rfl) (Ok.bind (r111_ok t B) fun w H2 ⟨g2, hw⟩ => ?_)))
  have hs : SaysP (app (k + 1)) (.fn 112 [] [.ptr H.n 0]) H2 (fun p => decide (p ∈ S)) := by
    intro H3 g3 p
    show Ok ((r112 p.1 p.2 H.n H3).map fun p => (AV.bool p.1, p.2)) _
    have h : Ok (r112 p.1 p.2 H.n H3) fun b H' => Gr H3 H' ∧ b = decide (p ∈ S) := by
      unfold r112
      refine Ok.lt ?_
      have gp := Gr.push H3 (.cells [.int .i64 p.1, .int .i64 p.2] false)
      have g23 := g2.trans g3
      have c0 : (H3.push (.cells [.int .i64 p.1, .int .i64 p.2] false)).get H.n = some (.cells [.map mb] false) := by rw [gp.2 _ (by have := g23.1; omega), g23.2 _ (by omega)]; exact b0
      have hl : (H3.push (.cells [.int .i64 p.1, .int .i64 p.2] false)).ldM H.n 0 = some mb := by simp [Hp.ldM, ld_of_get c0, AV.asM]
      have c1 : (H3.push (.cells [.int .i64 p.1, .int .i64 p.2] false)).get H3.n = some (.cells [.int .i64 p.1, .int .i64 p.2] false) := by simp
      have m3 : MapP (H3.push (.cells [.int .i64 p.1, .int .i64 p.2] false)) mb S := mB.keep (by rw [gp.2 _ (by have := g23.1; have := Hp.get_lt mB.1; omega), g23.2 _ (Hp.get_lt mB.1)])
      have hget := m3.get p
      unfold pk at hget
      refine Ok.ld hl (Ok.ld (ldI_get c1 rfl) (Ok.ld (ldI_get c1 rfl) (Ok.ld hget ?_)))
      by_cases hp : p ∈ S
      · rw [if_pos hp]
        exact Ok.ld rfl (Ok.ret ⟨gp, by simp [hp]⟩)
      · rw [if_neg hp]
        exact Ok.ld rfl (Ok.ret ⟨gp, by simp [hp]⟩)
    obtain ⟨b, H', e, g, rfl⟩ := h
    rw [e]
    exact Ok.ret ⟨g, rfl⟩
  refine Ok.bind (r110_ok hs (.refl _) hw (by simp [prs3])) fun b H3 ⟨g3, hb⟩ => Ok.ret ⟨gB.trans (g2.trans g3), by rw [hb]⟩
def putL (S : List Pr) (is : Bool) (ps : List Pr) : List Pr := ps.foldl (fun S p => if is = true then (if p ∈ S then S else S ++ [p]) else S.erase p) S
theorem putL_append (S : List Pr) (is : Bool) (a b : List Pr) : putL S is (a ++ b) = putL (putL S is a) is b := by unfold putL; rw [List.foldl_append]
theorem r97_loop {is : Bool} {mb : Nat} {S : List Pr} {H : Hp} {v : Sl} {l : List Pr} {Hb : Hp} (g0 : Gr Hb H) (hmb : mb < Hb.n) (hm : MapP H mb S) (hv : SL (H.hide ⟨false, mb, 0, 0, 0, 0⟩) v l) (hb : l.length ≤ 1000) :
    Ok (r97_l0 FUEL mb is v (v.len : Int) 0 H) fun _ H' => MapP H' mb (putL S is l) ∧ Only mb Hb H' := by
  have hlen := hv.len
  rw [hlen]
  refine Ok.loop (L := fun K (s : Int) H' => r97_l0 K mb is v l.length s H') (fun m s H' => ∃ i : Nat, s = i ∧ i + m = l.length ∧ MapP H' mb (putL S is (l.take i)) ∧ Only mb Hb H' ∧ Sub (H.hide ⟨false, mb, 0, 0, 0, 0⟩) (H'.hide ⟨false, mb, 0, 0, 0, 0⟩)) ?_ FUEL l.length 0 H (by unfold FUEL; omega) ⟨0, rfl, by omega, hm, g0.only, .refl _⟩
  rintro K m s H1 ⟨i, rfl, hmi, h1, g1, s1⟩ ih
  try dsimp only at *
  rw [r97_l0]
  by_cases h : i < l.length
  · have hg := (hv.sub s1).sub hide_sub
    refine Ok.pos (by omega) (Ok.ck (by omega) (Ok.ld (hg.ldI (i := i) (j := 0) h rfl) (Ok.ld (hg.ldI (i := i) (j := 1) h rfl) ?_)))
    obtain ⟨D, hD, hD', gD, nD⟩ := sts2 H1 (.int .i64 l[i].1) (.int .i64 l[i].2) (.int .i64 0) (.int .i64 0)
    refine Ok.ld hD ?_
    have q0 : D.ldI .i64 H1.n 0 = some l[i].1 := ldI_get hD' rfl
    have q1 : D.ldI .i64 H1.n (0 + 1) = some l[i].2 := ldI_get hD' rfl
    have hmD : MapP D mb (putL S is (l.take i)) := h1.keep (gD.2 _ (Hp.get_lt h1.1))
    have sD : Sub (H.hide ⟨false, mb, 0, 0, 0, 0⟩) (D.hide ⟨false, mb, 0, 0, 0, 0⟩) := s1.trans (Gr.hide gD fun _ => Hp.get_lt h1.1).sub
    have e : putL S is (l.take (i + 1)) = putL (putL S is (l.take i)) is [l[i]] := by rw [List.take_succ_eq_append_getElem h, putL_append]
    have last : ∀ k, Only mb Hb (D.set mb k) ∧ Sub (H.hide ⟨false, mb, 0, 0, 0, 0⟩) ((D.set mb k).hide ⟨false, mb, 0, 0, 0, 0⟩) := fun k => by
      refine ⟨g1.trans ((Gr.only gD).trans ⟨by simp, fun c _ hc => Hp.get_set_other _ _ hc⟩) |> fun h => h, sD.trans fun b cs ro he => ?_⟩
      obtain ⟨e1, e2⟩ := hide_get he
      rw [get_hide e2, Hp.get_set_other _ _ (e2 rfl)]; exact e1
    refine Ok.ite (fun hc => ?_) fun hc => ?_
    · subst hc
      obtain ⟨a, b⟩ := hmD.set l[i]
      unfold pk at a
      refine Ok.ld q0 (Ok.ld q1 (Ok.ld a ?_))
      rw [w64_succ (by omega)]
      refine ih (m - 1) _ _ (by omega) ⟨i + 1, rfl, by omega, ?_, (last _).1, (last _).2⟩
      rw [e]
      exact b
    · simp only [Bool.not_eq_true] at hc
      subst hc
      obtain ⟨a, b⟩ := hmD.del l[i]
      unfold pk at a
      refine Ok.ld q0 (Ok.ld q1 (Ok.ld a ?_))
      rw [w64_succ (by omega)]
      refine ih (m - 1) _ _ (by omega) ⟨i + 1, rfl, by omega, ?_, (last _).1, (last _).2⟩
      rw [e]
      exact b
  · rw [List.take_of_length_le (by omega)] at h1
    exact Ok.neg (by omega) (Ok.ret ⟨h1, g1⟩)
/-- together.put -/
theorem r97_ok {is : Bool} {mb : Nat} {S : List Pr} {H : Hp} (hm : MapP H mb S) (t : Tr) : Ok (r97 mb t.1 t.2.1 t.2.2 is H) fun _ H' => MapP H' mb (putL S is (prs3 t)) ∧ Only mb H H' := by
  unfold r97
  refine Ok.lt ?_
  have gp := Gr.push H (.cells [.int .i64 t.1, .int .i64 t.2.1, .int .i64 t.2.2] false)
  have hg : (H.push (.cells [.int .i64 t.1, .int .i64 t.2.1, .int .i64 t.2.2] false)).get H.n = some (.cells [.int .i64 t.1, .int .i64 t.2.1, .int .i64 t.2.2] false) := by simp
  refine Ok.ld (ldI_get hg rfl) (Ok.ld (ldI_get hg rfl) (Ok.ld (ldI_get hg rfl) (Ok.bind (r111_own t _) fun w H2 ⟨g2, hw, hb⟩ => ?_)))
  have hlt := Hp.get_lt hm.1
  have gg := gp.trans g2
  refine r97_loop (Hb := H) gg hlt (hm.keep (gg.2 _ hlt)) (hw.hide fun _ _ => ?_) (by simp [prs3])
  have := gp.1
  dsimp only at hb ⊢
  omega
theorem put_fit {S : List Pr} {t : Tr} {v : Nat} (h : inT v t) (hf : ((prs3 t).any fun p => decide (p ∈ S)) = false) : putL S true (prs3 t) = S ++ prs3 t := by
  have hn := prs3_nodup h
  have key : ∀ (ps S : List Pr), ps.Nodup → (∀ p ∈ ps, p ∉ S) → putL S true ps = S ++ ps := by
    intro ps
    induction ps with
    | nil => intro S _ _; simp [putL]
    | cons p ps ih =>
      intro S h1 h2
      rw [List.nodup_cons] at h1
      have : putL S true (p :: ps) = putL (S ++ [p]) true ps := by simp [putL, h2 p (by simp)]
      rw [this, ih (S ++ [p]) h1.2 (fun q hq hm => by
        rcases List.mem_append.1 hm with hm | hm
        · exact h2 q (by simp [hq]) hm
        · rw [List.mem_singleton] at hm; subst hm; exact h1.1 hq)]
      simp
  refine key _ _ hn fun p hp hs => ?_
  have := List.any_eq_false.1 hf p hp
  simp [hs] at this
theorem put_off {S ps : List Pr} (hf : ∀ p ∈ ps, p ∉ S) (hn : ps.Nodup) : putL (S ++ ps) false ps = S := by
  have key : ∀ (ps : List Pr), (∀ p ∈ ps, p ∉ S) → ps.Nodup → putL (S ++ ps) false ps = S := by
    intro ps
    induction ps with
    | nil => intro _ _; simp [putL]
    | cons p ps ih =>
      intro h1 h2
      rw [List.nodup_cons] at h2
      have : putL (S ++ p :: ps) false (p :: ps) = putL ((S ++ p :: ps).erase p) false ps := by simp [putL]
      rw [this, List.erase_append_right _ (h1 p (by simp)), List.erase_cons_head]
      exact ih (fun q hq => h1 q (by simp [hq])) h2.2
  exact key ps hf hn
end Go.Lt.P8
