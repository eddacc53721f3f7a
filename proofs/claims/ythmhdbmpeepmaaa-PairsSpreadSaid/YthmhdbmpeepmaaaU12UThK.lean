/- PLAIN LAWS OF WHAT IS COMPUTED, for the statement 'PairsSpread'. Nothing is asked of the input. -/
import Derived.Test.YthmhdbmpeepmaaaU12UThJ
set_option linter.unusedVariables false
set_option linter.unusedSimpArgs false
namespace Go.Lt.P8
open Go Go.Lt Go.Proofs
theorem r54_l2_ok {v : Nat} (hv : v ≤ 9) {H : Hp} {cb : Nat} {M : List Pr} (hm : H.get cb = some (.cells (cntA M) false)) : Ok (r54_l2 FUEL cb v 0 H) fun b H' => H' = H ∧ b = (allP v).all fun p => M.count p == 1 := by
  refine Ok.loop (L := fun K (s : Int) H' => r54_l2 K cb v s H') (fun m s H' => H' = H ∧ ∃ b : Nat, s = b ∧ b + m = v ∧ ∀ a c : Nat, a < c → c < b → M.count ((a : Int), (c : Int)) = 1) ?_ FUEL v 0 H (by unfold FUEL; omega) ⟨rfl, 0, rfl, by omega, fun a c _ h => by omega⟩
  rintro K m s H1 ⟨rfl, b, rfl, hmb, hb⟩ ih
  try dsimp only at *
  rw [r54_l2]
  by_cases h : b < v
  · refine Ok.pos (by omega) ?_
    refine Ok.loop (L := fun K2 (s : Int) H' => r54_l3 (fun v1_ v2_ v3_ H_ => r54_l2 K v1_ v2_ v3_ H_) K2 cb b v b b s H') (fun m s H' => H' = H1 ∧ ∃ a : Nat, s = a ∧ a + m = b ∧ ∀ d : Nat, d < a → M.count ((d : Int), (b : Int)) = 1) ?_ FUEL b 0 H1 (by unfold FUEL; omega) ⟨rfl, 0, rfl, by omega, fun d h => by omega⟩
    rintro K2 m2 s H2 ⟨rfl, a, rfl, hma, ha⟩ ih2
    try dsimp only at *
    rw [r54_l3]
    by_cases h' : a < b
    · refine Ok.pos (by omega) (Ok.ck (by omega) (Ok.ck (by omega) ?_))
      rw [Int.toNat_natCast, Int.toNat_natCast, Nat.zero_add, Nat.mul_one]
      refine Ok.ld (ldI_get hm (cntA_get (by omega) (by omega))) ?_
      refine Ok.ite (fun hc => Ok.ret ⟨rfl, ?_⟩) fun hc => ?_
      · symm
        rw [List.all_eq_false]
        refine ⟨((a : Int), (b : Int)), allP_mem.2 ⟨by dsimp only; omega, by dsimp only; omega, by dsimp only; omega⟩, ?_⟩
        simp only [beq_iff_eq]
        omega
      · rw [w64_succ (by omega)]
        refine ih2 (m2 - 1) _ _ (by omega) ⟨rfl, a + 1, rfl, by omega, fun d hd => ?_⟩
        by_cases e : d = a
        · subst e; omega
        · exact ha d (by omega)
    · refine Ok.neg (by omega) ?_
      rw [w64_succ (by omega)]
      refine ih (m - 1) _ _ (by omega) ⟨rfl, b + 1, rfl, by omega, fun x c h1 h2 => ?_⟩
      by_cases e : c = b
      · subst e; exact ha x (by omega)
      · exact hb x c h1 (by omega)
  · refine Ok.neg (by omega) (Ok.ret ⟨rfl, ?_⟩)
    symm
    rw [List.all_eq_true]
    intro p hp
    obtain ⟨h1, h2, h3⟩ := allP_mem.1 hp
    have := hb p.1.toNat p.2.toNat (by omega) (by omega)
    rw [Int.toNat_of_nonneg h1, Int.toNat_of_nonneg (by omega)] at this
    simp only [beq_iff_eq]
    exact this
/-- IsThrees of the reference -/
theorem r54_ok {v : Nat} (hv : v ≤ 9) {H : Hp} {w : Sl} {l : List Tr} (hw : SL H w l) (hb : l.length < 9223372036854775808) : Ok (r54 v w H) fun b H' => Gr H H' ∧ b = refF v l := by
  unfold r54
  refine Ok.lt ?_
  have gp := Gr.push H (.cells (cntA []) false)
  show Ok (r54_l0 FUEL v w H.n w w.len 0 (H.push (.cells (cntA []) false))) _
  have hlen := hw.len
  rw [hlen]
  refine Ok.loop (L := fun K (s : Int) H' => r54_l0 K v w H.n w l.length s H') (fun m s H' => ∃ i : Nat, s = i ∧ i + m = l.length ∧ Gr H H' ∧ ∃ M q, H'.get H.n = some (.cells (cntA M) false) ∧ M.length = 3 * i ∧ (∀ (h : 0 < i) (h' : i - 1 < l.length), q = some l[i - 1]) ∧ (i = 0 → q = none) ∧ (∀ t, q = some t → inT v t ∧ (i : Int) ≤ valT t + 1) ∧ arR v l none [] = arR v (l.drop i) q M) ?_ FUEL l.length 0 _ (by unfold FUEL; omega) ⟨0, rfl, by omega, gp, [], none, by simp, rfl, fun h => by omega, fun _ => rfl, fun t h => by (cases h), rfl⟩
  rintro K m s H1 ⟨i, rfl, hmi, g1, M, q, hM, hMl, hq1, hq0, hqv, he⟩ ih
  try dsimp only at *
  have hi729 : i ≤ 729 := by
    by_cases h0 : i = 0
    · omega
    · have hq := hq1 (by omega) (by omega)
      obtain ⟨a, b⟩ := hqv _ hq
      unfold inT at a
      unfold valT at b
      omega
  rw [r54_l0]
  by_cases h : i < l.length
  · have hg := hw.gr g1
    rw [List.drop_eq_getElem_cons h, arR] at he
    refine Ok.pos (by omega) (Ok.ck (by omega) (Ok.ld (hg.ldI (i := i) (j := 0) h rfl) (Ok.ld (hg.ldI (i := i) (j := 1) h rfl) (Ok.ld (hg.ldI (i := i) (j := 2) h rfl) ?_))))
    obtain ⟨D, hD, hD', gD, nD⟩ := sts3 H1 (.int .i64 l[i].1) (.int .i64 l[i].2.1) (.int .i64 l[i].2.2) (.int .i64 0) (.int .i64 0) (.int .i64 0)
    refine Ok.ld hD ?_
    have q0 : D.ldI .i64 H1.n (0 + (0 : Int).toNat * 1) = some l[i].1 := ldI_get hD' rfl
    have q1 : D.ldI .i64 H1.n (0 + (1 : Int).toNat * 1) = some l[i].2.1 := ldI_get hD' rfl
    have q2 : D.ldI .i64 H1.n (0 + (2 : Int).toNat * 1) = some l[i].2.2 := ldI_get hD' rfl
    have gB := g1.trans gD
    have bad : (¬ inT v l[i] ∨ q.any (fun y => decide (0 ≤ cmpT y l[i])) = true) → ∀ H' v1 v2 v3 v4 v5 v6 v7 kt, Gr H H' → Ok (r54_j1 kt v1 v2 v3 v4 v5 v6 v7 true H') fun b H' => Gr H H' ∧ b = refF v l := by
      intro hc H' v1 v2 v3 v4 v5 v6 v7 kt g
      rw [if_pos hc] at he
      unfold r54_j1
      exact Ok.pos rfl (Ok.ret ⟨g, by unfold refF; rw [he]⟩)
    refine Ok.ld q0 (Ok.ite (fun hc => bad (.inl fun c => by unfold inT at c; omega) _ _ _ _ _ _ _ _ _ gB) fun c1 => ?_)
    refine Ok.ld q0 (Ok.ld q1 (Ok.ite (fun hc => bad (.inl fun c => by unfold inT at c; omega) _ _ _ _ _ _ _ _ _ gB) fun c2 => ?_))
    refine Ok.ld q1 (Ok.ld q2 (Ok.ite (fun hc => bad (.inl fun c => by unfold inT at c; omega) _ _ _ _ _ _ _ _ _ gB) fun c3 => ?_))
    refine Ok.ld q2 (Ok.ite (fun hc => bad (.inl fun c => by unfold inT at c; omega) _ _ _ _ _ _ _ _ _ gB) fun c4 => ?_)
    have hin : inT v l[i] := ⟨by omega, by omega, by omega, by omega⟩
    have good : ∀ H2, Gr D H2 → ¬ q.any (fun y => decide (0 ≤ cmpT y l[i])) = true → Ok (r54_j1 (fun v1_ v2_ v3_ v4_ v5_ v6_ H_ => r54_l0 K v1_ v2_ v3_ v4_ v5_ v6_ H_) v w H.n H1.n w l.length i false H2) fun b H' => Gr H H' ∧ b = refF v l := by
      intro H2 g2 hc
      rw [if_neg (by
        rintro (c | c)
        · exact c hin
        · exact hc c)] at he
      have h2D : H2.get H1.n = some (.cells [.int .i64 l[i].1, .int .i64 l[i].2.1, .int .i64 l[i].2.2] false) := by rw [g2.2 _ (Hp.get_lt hD')]; exact hD'
      have hM2 : H2.get H.n = some (.cells (cntA M) false) := by rw [g2.2 _ (by have := (gB.1); have := Hp.get_lt hM; have := gD.1; omega), gD.2 _ (Hp.get_lt hM)]; exact hM
      have hne : H1.n ≠ H.n := by have := Hp.get_lt hM; omega
      have gB2 := gB.trans g2
      unfold r54_j1
      refine Ok.neg (by simp) (Ok.ld (ldI_get h2D rfl) (Ok.ld (ldI_get h2D rfl) (Ok.ck (by omega) (Ok.ck (by omega) ?_))))
      refine Ok.inc (x := l[i].1) (y := l[i].2.1) hM2 (by omega) ⟨by omega, by omega, by omega, by omega⟩ fun H3 e3 n3 o3 => ?_
      have h3D : H3.get H1.n = some (.cells [.int .i64 l[i].1, .int .i64 l[i].2.1, .int .i64 l[i].2.2] false) := by rw [o3 _ hne]; exact h2D
      refine Ok.ld (ldI_get h3D rfl) (Ok.ld (ldI_get h3D rfl) (Ok.ck (by omega) (Ok.ck (by omega) ?_)))
      refine Ok.inc (x := l[i].1) (y := l[i].2.2) e3 (by simp; omega) ⟨by omega, by omega, by omega, by omega⟩ fun H4 e4 n4 o4 => ?_
      have h4D : H4.get H1.n = some (.cells [.int .i64 l[i].1, .int .i64 l[i].2.1, .int .i64 l[i].2.2] false) := by rw [o4 _ hne]; exact h3D
      refine Ok.ld (ldI_get h4D rfl) (Ok.ld (ldI_get h4D rfl) (Ok.ck (by omega) (Ok.ck (by omega) ?_)))
      refine Ok.inc (x := l[i].2.1) (y := l[i].2.2) e4 (by simp; omega) ⟨by omega, by omega, by omega, by omega⟩ fun H5 e5 n5 o5 => ?_
      have gB5 : Gr H H5 := ⟨by have := gB2.1; omega, fun c hc => by rw [o5 c (by omega), o4 c (by omega), o3 c (by omega), gB2.2 c hc]⟩
      dsimp only
      rw [w64_succ (by omega)]
      refine ih (m - 1) _ H5 (by omega) ⟨i + 1, rfl, by omega, gB5, M ++ prs3 l[i], some l[i], ?_, by simp [prs3]; omega, fun _ _ => by simp, fun e => by omega, fun t ht => ?_, he⟩
      · rw [e5]
        simp [prs3]
      · injection ht with ht
        subst ht
        refine ⟨hin, ?_⟩
        by_cases h0 : i = 0
        · subst h0
          unfold inT at hin
          unfold valT
          omega
        · have hq := hq1 (by omega) (by omega)
          obtain ⟨a, b⟩ := hqv _ hq
          rw [hq] at hc
          have := (val_lt hv a hin (by simpa using hc)).1
          omega
    refine Ok.ite (fun h0 => ?_) fun h0 => good D (.refl _) (by rw [hq0 (by omega)]; simp)
    have ei : w64 ((i : Int) - 1) = ((i - 1 : Nat) : Int) := by rw [w64_id (by omega) (by omega)]; omega
    rw [ei]
    have hq := hq1 (by omega) (by omega)
    have hgD := hg.gr gD
    refine Ok.ck (by omega) (Ok.ld (hgD.ldI (i := i - 1) (j := 0) (by omega) rfl) (Ok.ld (hgD.ldI (i := i - 1) (j := 1) (by omega) rfl) (Ok.ld (hgD.ldI (i := i - 1) (j := 2) (by omega) rfl) (Ok.ld (ldI_get hD' rfl) (Ok.ld (ldI_get hD' rfl) (Ok.ld (ldI_get hD' rfl) (Ok.bind (r92_ok l[i - 1] l[i] D) fun b H2 ⟨g2, hb2⟩ => ?_)))))))
    by_cases hx : cmpT l[i - 1] l[i] < 0
    · rw [decide_eq_true hx] at hb2
      subst hb2
      exact good H2 g2 (by rw [hq]; simp; omega)
    · rw [decide_eq_false hx] at hb2
      subst hb2
      exact bad (.inr (by rw [hq]; simp; omega)) _ _ _ _ _ _ _ _ _ (gB.trans g2)
  · rw [List.drop_eq_nil_of_le (by omega), arR] at he
    refine Ok.neg (by omega) ((r54_l2_ok hv hM).mono fun b H2 ⟨e2, hb2⟩ => ⟨by rw [e2]; exact g1, ?_⟩)
    rw [hb2]
    unfold refF
    rw [he]
end Go.Lt.P8
