/- PLAIN LAWS OF WHAT IS COMPUTED, for the statement 'PairsSpread'. Nothing is asked of the input. -/
import Derived.Test.YthmhdbmpeepmaaaU12UThB
import Derived.Test.YthmhdbmpeepmaaaU12UCmp
set_option linter.unusedVariables false
set_option linter.unusedSimpArgs false
namespace Go.Lt.P8
open Go Go.Lt Go.Proofs
theorem sl_part3 {H : Hp} {v : Sl} {l : List Tr} (h : SL H v l) {i : Nat} (hi : i < l.length) : SL H ⟨false, v.b, v.o + i * 3, 3, 3, 0⟩ (list3 l[i]) := by
  refine ⟨⟨rfl, lds_of_get fun j hj => ?_⟩, Nat.le_refl _, .inl rfl, fun e => by cases e⟩
  have hj3 : j < 3 := hj
  show H.ld v.b (v.o + i * 3 + j) = some ((El.enc l[i])[j]'(by show j < 3; exact hj3))
  exact h.ld (i := i) (j := j) hi (List.getElem?_eq_getElem _)
theorem r89_ok {k v : Nat} (hv : v ≤ 9) {H : Hp} {w : Sl} {l : List Tr} (hw : SL H w l) (hb : l.length ≤ 1000) : Ok (r89 (app (k + 1)) v w H) fun b H' => Gr H H' ∧ b = areF v l := by
  unfold r89
  refine Ok.lt ?_
  have gp := Gr.push H (.map (.arr 2 .i64) [])
  have hm0 : MapP (H.push (.map (.arr 2 .i64) [])) H.n [] := ⟨by simp, by simp⟩
  have hlen := hw.len
  rw [hlen]
  refine Ok.loop (L := fun K (s : Int) H' => r89_l0 (app (k + 1)) K v w H.n w l.length s H') (fun m s H' => ∃ i : Nat, s = i ∧ i + m = l.length ∧ Gr H H' ∧ ∃ S q, MapP H' H.n S ∧ (∀ (h : 0 < i) (h' : i - 1 < l.length), q = some l[i - 1]) ∧ (i = 0 → q = none) ∧ arT v l none [] = arT v (l.drop i) q S) ?_ FUEL l.length 0 _ (by unfold FUEL; omega)
    ⟨0, rfl, by omega, gp, [], none, hm0, fun h => by omega, fun _ => rfl, rfl⟩
  rintro K m s H1 ⟨i, rfl, hmi, g1, S, q, hS, hq1, hq0, he⟩ ih
  try dsimp only at *
  rw [r89_l0]
  by_cases h : i < l.length
  · have hg := hw.gr g1
    rw [List.drop_eq_getElem_cons h, arT] at he
    refine Ok.pos (by omega) (Ok.ck (by omega) (Ok.ld (hg.ldI (i := i) (j := 0) h rfl) (Ok.ld (hg.ldI (i := i) (j := 1) h rfl) (Ok.ld (hg.ldI (i := i) (j := 2) h rfl) ?_))))
    obtain ⟨D, hD, hD', gD, nD⟩ := sts3 H1 (.int .i64 l[i].1) (.int .i64 l[i].2.1) (.int .i64 l[i].2.2) (.int .i64 0) (.int .i64 0) (.int .i64 0)
    refine Ok.ld hD ?_
    have q0 : D.ldI .i64 H1.n (0 + (0 : Int).toNat * 1) = some l[i].1 := ldI_get hD' rfl
    have q1 : D.ldI .i64 H1.n (0 + (1 : Int).toNat * 1) = some l[i].2.1 := ldI_get hD' rfl
    have q2 : D.ldI .i64 H1.n (0 + (2 : Int).toNat * 1) = some l[i].2.2 := ldI_get hD' rfl
    have gB := g1.trans gD
    have hmD : MapP D H.n S := hS.keep (gD.2 _ (Hp.get_lt hS.1))
    have bad : (¬ inT v l[i] ∨ (∃ p ∈ prs3 l[i], p ∈ S) ∨ q.any (fun y => decide (0 ≤ cmpT y l[i])) = true) → ∀ H' v1 v2 v3 v4 v5 v6 v7 kt, Gr H H' → Ok (r89_j1 (app (k + 1)) kt v1 v2 v3 v4 v5 v6 v7 true H') fun b H' => Gr H H' ∧ b = areF v l := by
      intro hc H' v1 v2 v3 v4 v5 v6 v7 kt g
      rw [if_pos hc] at he
      unfold r89_j1
      exact Ok.pos rfl (Ok.ret ⟨g, by unfold areF; rw [he]⟩)
    refine Ok.ld q0 (Ok.ite (fun hc => bad (.inl fun c => by unfold inT at c; omega) _ _ _ _ _ _ _ _ _ gB) fun c1 => ?_)
    refine Ok.ld q0 (Ok.ld q1 (Ok.ite (fun hc => bad (.inl fun c => by unfold inT at c; omega) _ _ _ _ _ _ _ _ _ gB) fun c2 => ?_))
    refine Ok.ld q1 (Ok.ld q2 (Ok.ite (fun hc => bad (.inl fun c => by unfold inT at c; omega) _ _ _ _ _ _ _ _ _ gB) fun c3 => ?_))
    refine Ok.ld q2 (Ok.ite (fun hc => bad (.inl fun c => by unfold inT at c; omega) _ _ _ _ _ _ _ _ _ gB) fun c4 => ?_)
    have hin : inT v l[i] := ⟨by omega, by omega, by omega, by omega⟩
    refine Ok.ld (ldI_get hD' rfl) (Ok.ld (ldI_get hD' rfl) (Ok.ld (ldI_get hD' rfl) (Ok.bind (r96_ok (k := k) hmD l[i]) fun b H2 ⟨g2, hb2⟩ => ?_)))
    have gB2 := gB.trans g2
    cases hf : (prs3 l[i]).any fun p => decide (p ∈ S) with
    | true =>
      rw [hf] at hb2
      subst hb2
      refine Ok.neg (by simp) (bad (.inr (.inl ?_)) _ _ _ _ _ _ _ _ _ gB2)
      obtain ⟨p, h1, h2⟩ := List.any_eq_true.1 hf
      exact ⟨p, h1, of_decide_eq_true h2⟩
    | false =>
      rw [hf] at hb2
      subst hb2
      refine Ok.pos rfl ?_
      have hm2 : MapP H2 H.n S := hmD.keep (g2.2 _ (Hp.get_lt hmD.1))
      have h2D : H2.get H1.n = some (.cells [.int .i64 l[i].1, .int .i64 l[i].2.1, .int .i64 l[i].2.2] false) := by rw [g2.2 _ (Hp.get_lt hD')]; exact hD'
      have good : ¬ q.any (fun y => decide (0 ≤ cmpT y l[i])) = true → Ok (r89_j1 (app (k + 1)) (fun v1_ v2_ v3_ v4_ v5_ v6_ H_ => r89_l0 (app (k + 1)) K v1_ v2_ v3_ v4_ v5_ v6_ H_) v w H.n H1.n w l.length i false H2) fun b H' => Gr H H' ∧ b = areF v l := by
        intro hc
        rw [if_neg (by
          rintro (c | ⟨p, h1, h2⟩ | c)
          · exact c hin
          · have := List.any_eq_false.1 hf p h1
            simp [h2] at this
          · exact hc c)] at he
        unfold r89_j1
        refine Ok.neg (by simp) (Ok.ld (ldI_get h2D rfl) (Ok.ld (ldI_get h2D rfl) (Ok.ld (ldI_get h2D rfl) (Ok.bind (r97_ok (is := true) hm2 l[i]) fun _ H3 ⟨hm3, g3⟩ => ?_))))
        rw [put_fit hin hf] at hm3
        rw [w64_succ (by omega)]
        refine ih (m - 1) _ H3 (by omega) ⟨i + 1, rfl, by omega, g3.gr gB2 (Nat.le_refl _), _, some l[i], hm3, fun _ _ => ?_, fun e => by omega, he⟩
        simp
      refine Ok.ite (fun h0 => ?_) fun h0 => good (by rw [hq0 (by omega)]; simp)
      have ei : w64 ((i : Int) - 1) = ((i - 1 : Nat) : Int) := by rw [w64_id (by omega) (by omega)]; omega
      rw [ei]
      have hq := hq1 (by omega) (by omega)
      have s1 := sl_part3 (hw.gr gB2) (i := i - 1) (by omega)
      have s2 : SL H2 ⟨false, H1.n, 0, 3, 3, 0⟩ (list3 l[i]) := .of_get (ro := false) (by exact h2D) rfl rfl (Nat.le_refl _) (.inl rfl) rfl
      refine Ok.ck (by omega) (Ok.bind (r50_ok s1 s2 (by simp [list3])) fun c H3 ⟨e3, hc⟩ => ?_)
      subst e3 hc
      by_cases hx : 0 ≤ cmpT l[i - 1] l[i]
      · rw [decide_eq_true (show 0 ≤ cmpL (list3 l[i - 1]) (list3 l[i]) from hx)]
        exact bad (.inr (.inr (by rw [hq]; simpa using hx))) _ _ _ _ _ _ _ _ _ gB2
      · rw [decide_eq_false (show ¬ 0 ≤ cmpL (list3 l[i - 1]) (list3 l[i]) from hx)]
        exact good (by rw [hq]; simpa using hx)
  · rw [List.drop_eq_nil_of_le (by omega), arT] at he
    refine Ok.neg (by omega) (Ok.bind (r95_ok hv hS) fun r H2 ⟨g2, hr⟩ => ?_)
    subst hr
    obtain ⟨D, hD, hD', gD, nD⟩ := sts2 H2 (.int .i64 (fst3 (firstP v S)).1) (.int .i64 (fst3 (firstP v S)).2.1) (.int .i64 0) (.int .i64 0)
    refine Ok.ld hD (Ok.ret ⟨g1.trans (g2.trans gD), ?_⟩)
    unfold areF
    rw [he]
    show (!(fst3 (firstP v S)).2.2) = (firstP v S).isNone
    cases firstP v S <;> rfl
end Go.Lt.P8
