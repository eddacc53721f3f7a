/- PLAIN LAWS OF WHAT IS COMPUTED, for the statement 'PairsRenamed'. Nothing is asked of the input. -/
import Derived.Test.YthmhdbmpeepmaaaU17URrC
import Derived.Test.YthmhdbmpeepmaaaLB
set_option linter.unusedVariables false
set_option linter.unusedSimpArgs false
namespace Go.Lt.P8
open Go Go.Lt Go.Proofs
theorem setP_eq {P n : Nat} {p : Pr} (hP : P < 2 ^ 40) (hn : n ≤ 8) (h : inP n p) : bitsOf .or .i64 (P : Int) (bitsOf .or .i64 (shlOf .i64 1 p.1) (shlOf .i64 1 p.2)) = ((setP P p : Nat) : Int) ∧ setP P p < 2 ^ 40 := by
  unfold inP at h
  obtain ⟨a, ha⟩ : ∃ a : Nat, p.1 = a := ⟨p.1.toNat, by omega⟩
  obtain ⟨b, hb⟩ : ∃ b : Nat, p.2 = b := ⟨p.2.toNat, by omega⟩
  have h1 : 2 ^ a < 2 ^ 40 := Nat.pow_lt_pow_right (by omega) (by omega)
  have h2 : 2 ^ b < 2 ^ 40 := Nat.pow_lt_pow_right (by omega) (by omega)
  have h3 : 2 ^ a ||| 2 ^ b < 2 ^ 40 := Nat.or_lt_two_pow h1 h2
  unfold setP
  rw [ha, hb, shl_one (by omega), shl_one (by omega), bits_or_nat (by omega) (by omega), bits_or_nat (by omega) (by omega), Int.toNat_natCast, Int.toNat_natCast]
  exact ⟨rfl, Nat.or_lt_two_pow hP h3⟩
section
variable {n : Nat} {Q : Bool × Int → Hp → Prop} {Hb : Hp} {mb : Nat}
/-- the pairs of a round -/
theorem r62_l2_ok (hn : n ≤ 4) {kt : Int → Nat → Sl → Int → Int → Hp → Option ((Bool × Int) × Hp)} {v4 v7 : Sl} {x5 x6 : Int} {r : List Pr} (hb : r.length ≤ 1000) {S : List Pr} {H : Hp} (hv : SL Hb v7 r) (hmb : Hb.n ≤ mb) (g : Gr Hb H) (hm : MapP H mb S)
    (k1 : ∀ S' H', rdP n r S 0 = some (S', 2 ^ (2 * n) - 1) → Gr Hb H' → MapP H' mb S' → Ok (kt n mb v4 x5 (w64 (x6 + 1)) H') Q)
    (k2 : (∀ S', rdP n r S 0 ≠ some (S', 2 ^ (2 * n) - 1)) → ∀ H', Gr Hb H' → Q (false, 0) H') :
    Ok (r62_l2 (app 10) kt FUEL n mb 0 v4 x5 x6 v7 (v7.len : Int) 0 H) Q := by
  have hlen := hv.len
  rw [hlen]
  refine Ok.loop (L := fun K (s : Int × Int) H' => r62_l2 (app 10) kt K n mb s.1 v4 x5 x6 v7 r.length s.2 H') (fun m s H' => ∃ i P : Nat, s = ((P : Int), (i : Int)) ∧ i + m = r.length ∧ P < 2 ^ 40 ∧ Gr Hb H' ∧ ∃ S1, MapP H' mb S1 ∧ rdP n r S 0 = rdP n (r.drop i) S1 P) ?_ FUEL r.length (0, 0) H (by unfold FUEL; omega)
    ⟨0, 0, rfl, by omega, by omega, g, S, hm, rfl⟩
  rintro K m ⟨s1, s2⟩ H1 ⟨i, P, he, hm, hP, g1, S1, hS, hr⟩ ih
  obtain ⟨rfl, rfl⟩ := Prod.mk.inj he
  try dsimp only at *
  rw [r62_l2]
  have e2n : w64 (2 * (n : Int)) = ((2 * n : Nat) : Int) := by rw [w64_id (by omega) (by omega)]; push_cast; rfl
  by_cases h : i < r.length
  · have hg := hv.gr g1
    refine Ok.pos (by omega) (Ok.ck (by omega) (Ok.ld (hg.ldI (i := i) (j := 0) h rfl) (Ok.ld (hg.ldI (i := i) (j := 1) h rfl) ?_)))
    obtain ⟨D, hD, hD', gD, nD⟩ := sts2 H1 (.int .i64 r[i].1) (.int .i64 r[i].2) (.int .i64 0) (.int .i64 0)
    refine Ok.ld hD ?_
    have q0 : D.ldI .i64 H1.n (0 + (0 : Int).toNat * 1) = some r[i].1 := ldI_get hD' rfl
    have q1 : D.ldI .i64 H1.n (0 + (1 : Int).toNat * 1) = some r[i].2 := ldI_get hD' rfl
    have q0' : D.ldI .i64 H1.n 0 = some r[i].1 := ldI_get hD' rfl
    have q1' : D.ldI .i64 H1.n (0 + 1) = some r[i].2 := ldI_get hD' rfl
    rw [List.drop_eq_getElem_cons h, rdP] at hr
    have gB := g1.trans gD
    have hmD : MapP D mb S1 := hS.keep (gD.2 _ (Hp.get_lt hS.1))
    have bad : (¬ inP n r[i] ∨ r[i] ∈ S1) → ∀ v1 v4 v5 v6 v7 v8 v9 v10 kt2, Ok (r62_j3 (app 10) kt2 v1 mb v4 H1.n v5 v6 v7 v8 v9 v10 true D) Q := by
      intro hc v1 v4 v5 v6 v7 v8 v9 v10 kt2
      rw [if_pos hc] at hr
      unfold r62_j3
      exact Ok.pos rfl (Ok.ret (k2 (fun S' c => by rw [hr] at c; cases c) D gB))
    refine Ok.ld q0 (Ok.ite (fun hc => bad (.inl fun c => by unfold inP at c; omega) ..) fun c1 => ?_)
    refine Ok.ld q0 (Ok.ld q1 (Ok.ite (fun hc => bad (.inl fun c => by unfold inP at c; omega) ..) fun c2 => ?_))
    refine Ok.ld q1 ?_
    rw [e2n]
    refine Ok.ite (fun hc => bad (.inl fun c => by unfold inP at c; omega) ..) fun c3 => ?_
    have hin : inP n r[i] := ⟨by omega, by omega, by omega⟩
    have hget := hmD.get r[i]
    unfold pk at hget
    refine Ok.ld q0' (Ok.ld q1' (Ok.ld hget ?_))
    by_cases hS1 : r[i] ∈ S1
    · rw [if_pos hS1]
      exact Ok.ld rfl (bad (.inr hS1) ..)
    · rw [if_neg hS1]
      rw [if_neg (fun c => c.elim (fun c => c hin) hS1)] at hr
      refine Ok.ld rfl ?_
      unfold r62_j3
      obtain ⟨h1, h2⟩ := hmD.set r[i]
      rw [if_neg hS1] at h1 h2
      unfold pk at h1
      have hin' := hin
      unfold inP at hin'
      refine Ok.neg (by simp) (Ok.ld q0' (Ok.ld q1' (Ok.ld h1 ?_)))
      have hne : H1.n ≠ mb := by have := Hp.get_lt hS.1; omega
      have hD2 : (D.set mb (.map (.arr 2 .i64) ((S1 ++ [r[i]]).map ent))).get H1.n = some (.cells [.int .i64 r[i].1, .int .i64 r[i].2] false) := by rw [Hp.get_set_other _ _ hne]; exact hD'
      obtain ⟨p1, p2⟩ := setP_eq hP (by omega) hin
      refine Ok.ld (ldI_get hD2 rfl) (Ok.ck (by omega) (Ok.ld (ldI_get hD2 rfl) (Ok.ck (by omega) ?_)))
      rw [p1, w64_succ (by omega)]
      exact ih (m - 1) _ _ (by omega) ⟨i + 1, _, rfl, by omega, p2, gB.set hmb, _, h2, hr⟩
  · rw [List.drop_eq_nil_of_le (by omega), rdP] at hr
    refine Ok.neg (by omega) ?_
    rw [e2n]
    refine Ok.ck (by omega) ?_
    have hp : 2 ^ (2 * n) ≤ 2 ^ 8 := Nat.pow_le_pow_right (by omega) (by omega)
    have hp1 : 1 ≤ 2 ^ (2 * n) := Nat.one_le_two_pow
    have ep : w64 (shlOf .i64 1 ((2 * n : Nat) : Int) - 1) = ((2 ^ (2 * n) - 1 : Nat) : Int) := by
      rw [shl_one (by omega)]
      rw [w64_id (by omega) (by omega)]; omega
    rw [ep]
    refine Ok.ite (fun hc => Ok.ret (k2 (fun S' c => ?_) H1 g1)) fun hc => ?_
    · rw [hr] at c
      injection c with c
      obtain ⟨_, c⟩ := Prod.mk.inj c
      exact hc (by rw [c])
    · have : P = 2 ^ (2 * n) - 1 := by omega
      subst this
      exact k1 S1 H1 hr g1 hS
/-- IsRounds -/
theorem r62_ok {n : Int} {H : Hp} {v : Sl} {vs : List Sl} {ls : List (List Pr)} (hv : SLL H v vs ls) (hb : ls.length ≤ 1000) (hb2 : ∀ l ∈ ls, l.length ≤ 1000) :
    Ok (r62 (app 10) n v H) fun r H' => Gr H H' ∧ r = if 1 ≤ n ∧ n ≤ 4 then (decide (ls.length = 2 * n.toNat - 1) && isRF n.toNat ls [], 0) else (false, 2) := by
  unfold r62
  have h100 : r100 n H = some (decide (1 ≤ n ∧ n ≤ 4), H) := by
    unfold r100
    by_cases h1 : 1 ≤ n <;> simp [h1]
  refine Ok.ld h100 ?_
  by_cases hn : 1 ≤ n ∧ n ≤ 4
  · rw [decide_eq_true hn, if_pos hn]
    refine Ok.pos rfl ?_
    obtain ⟨n, rfl⟩ : ∃ m : Nat, n = m := ⟨n.toNat, by omega⟩
    have hlen := hv.len
    rw [w64_id (n := 2 * (n : Int)) (by omega) (by omega), w64_id (by omega) (by omega), Int.toNat_natCast]
    refine Ok.ite (fun hc => Ok.ret ⟨.refl _, ?_⟩) fun hc => ?_
    · rw [decide_eq_false (by omega)]; rfl
    · rw [decide_eq_true (show ls.length = 2 * n - 1 by omega), Bool.true_and]
      refine Ok.lt ?_
      dsimp only
      have gp := Gr.push H (.map (.arr 2 .i64) [])
      have hm : MapP (H.push (.map (.arr 2 .i64) [])) H.n [] := ⟨by simp, by simp⟩
      rw [hlen]
      refine Ok.loop (L := fun K (s : Int) H' => r62_l0 (app 10) K n H.n v ls.length s H') (fun m s H' => ∃ i : Nat, s = i ∧ i + m = ls.length ∧ Gr H H' ∧ ∃ S, MapP H' H.n S ∧ isRF n ls [] = isRF n (ls.drop i) S) ?_ FUEL ls.length 0 _ (by unfold FUEL; omega) ⟨0, rfl, by omega, gp, [], hm, rfl⟩
      rintro K m s H1 ⟨i, rfl, hmi, g1, S, hS, he⟩ ih
      try dsimp only at *
      rw [r62_l0]
      by_cases h : i < ls.length
      · rw [List.drop_eq_getElem_cons h, isRF] at he
        have hx := hv.get h
        have hxl := hx.len
        have hxb := hb2 _ (List.getElem_mem h)
        refine Ok.pos (by omega) (Ok.ck (by omega) (Ok.ld ((hv.gr g1).ldSl (i := i) h) ?_))
        refine Ok.ite (fun hc => ?_) fun hc => ?_
        · rw [if_neg (by omega)] at he
          rw [he]
          unfold r62_j1
          exact Ok.pos rfl (Ok.ret ⟨g1, rfl⟩)
        · refine Ok.bind (r101_ok (k := 9) (hx.gr g1) (by omega)) fun b H2 ⟨g2, hb⟩ => ?_
          subst hb
          unfold r62_j1
          cases hs : srt ls[i] with
          | false =>
            rw [hs, if_neg (by simp)] at he
            rw [he]
            exact Ok.pos rfl (Ok.ret ⟨g1.trans g2, rfl⟩)
          | true =>
            rw [hs, if_pos ⟨by omega, rfl⟩] at he
            refine Ok.neg (by simp) ?_
            refine r62_l2_ok (Hb := H) (by omega) hxb hx (Nat.le_refl _) (g1.trans g2) (hS.keep (g2.2 _ (Hp.get_lt hS.1))) (fun S' H3 e3 g3 h3 => ?_) (fun hno H3 g3 => ⟨g3, ?_⟩)
            · rw [e3] at he
              simp only [if_true] at he
              rw [w64_succ (by omega)]
              exact ih (m - 1) _ H3 (by omega) ⟨i + 1, rfl, by omega, g3, S', h3, he⟩
            · cases hq : rdP n ls[i] S 0 with
              | none => rw [hq] at he; rw [he]
              | some q =>
                obtain ⟨S', P⟩ := q
                rw [hq] at he
                simp only at he
                rw [if_neg (fun e => hno S' (by rw [hq, e]))] at he
                rw [he]
      · rw [List.drop_eq_nil_of_le (by omega), isRF] at he
        refine Ok.neg (by omega) (Ok.ret ⟨g1, by rw [he]⟩)
  · rw [decide_eq_false hn, if_neg hn]
    exact Ok.neg (by simp) (Ok.ret ⟨.refl _, rfl⟩)
end
end Go.Lt.P8
