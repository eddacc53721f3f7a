/- PLAIN LAWS OF WHAT IS COMPUTED, for the statement 'DealsOthers'. Nothing is asked of the input. -/
import Derived.Test.YtficeemoekikdaaU14VLm
import Derived.Test.YtficeemoekikdaaU14VGc
set_option linter.unusedVariables false
set_option linter.unusedSimpArgs false
namespace Go.Lt.P5
open Go Go.Lt Go.Proofs
theorem sts3 (H : Hp) (x y z a b c : AV) : ∃ D, (H.push (.cells [a, b, c] false)).sts H.n 0 [x, y, z] = some D ∧ D.get H.n = some (.cells [x, y, z] false) ∧ Gr H D ∧ D.n = H.n + 1 := by
  obtain ⟨D, h1, h2, h3, h4⟩ := sts_blk [x, y, z] 0 (H.push (.cells [a, b, c] false)) [a, b, c] (Hp.get_push_new _ _) (by simp)
  refine ⟨D, h1, h2, ⟨by rw [h3]; simp, fun q hq => ?_⟩, by rw [h3]; simp⟩
  rw [h4 q (by omega), Hp.get_push_old _ _ hq]
theorem fr_toNat {x : Pr} (h1 : 0 ≤ x.1) (h2 : x.1 ≤ 30000000) (h3 : 1 ≤ x.2) (h4 : x.2 ≤ 1000000) : ∃ a b : Nat, x = ((a : Int), (b : Int)) ∧ a ≤ 30000000 ∧ 1 ≤ b ∧ b ≤ 1000000 :=
  ⟨x.1.toNat, x.2.toNat, by rw [Int.toNat_of_nonneg h1, Int.toNat_of_nonneg (by omega)], by omega, by omega, by omega⟩
theorem sat_bd {t : Tr} {x y : Pr} (ht : tb t) (hx : fr x) (hy : fr y) : w64 (t.1 * x.1) = t.1 * x.1 ∧ w64 (t.1 * x.1 * y.2) = t.1 * x.1 * y.2 ∧ w64 (t.2.1 * y.1) = t.2.1 * y.1 ∧ w64 (t.2.1 * y.1 * x.2) = t.2.1 * y.1 * x.2 ∧ w64 (t.1 * x.1 * y.2 + t.2.1 * y.1 * x.2) = t.1 * x.1 * y.2 + t.2.1 * y.1 * x.2 ∧ w64 (t.2.2 * x.2) = t.2.2 * x.2 ∧ w64 (t.2.2 * x.2 * y.2) = t.2.2 * x.2 * y.2 := by
  obtain ⟨a1, a2, a3, a4, a5, a6⟩ := ht
  obtain ⟨x1, x2, x3, x4, _⟩ := hx
  obtain ⟨y1, y2, y3, y4, _⟩ := hy
  have b1 := mul_bd (A := 30) (B := 30000000) (x := t.1) (y := x.1) (by omega) (by omega) (by omega) (by omega)
  have b2 := mul_bd (A := 900000000) (B := 1000000) (x := t.1 * x.1) (y := y.2) (by omega) (by omega) (by omega) (by omega)
  have b3 := mul_bd (A := 30) (B := 30000000) (x := t.2.1) (y := y.1) (by omega) (by omega) (by omega) (by omega)
  have b4 := mul_bd (A := 900000000) (B := 1000000) (x := t.2.1 * y.1) (y := x.2) (by omega) (by omega) (by omega) (by omega)
  have b5 := mul_bd (A := 1800) (B := 1000000) (x := t.2.2) (y := x.2) (by omega) (by omega) (by omega) (by omega)
  have b6 := mul_bd (A := 1800000000) (B := 1000000) (x := t.2.2 * x.2) (y := y.2) (by omega) (by omega) (by omega) (by omega)
  exact ⟨w64_id (by omega) (by omega), w64_id (by omega) (by omega), w64_id (by omega) (by omega), w64_id (by omega) (by omega), w64_id (by omega) (by omega), w64_id (by omega) (by omega), w64_id (by omega) (by omega)⟩
theorem r23_l2_ok {a : App} {H : Hp} {pb : Nat} {v : Sl} {l : List Tr} {x y : Pr} (hv : SL H v l) (hb : l.length ≤ 1000) (hl : ∀ t ∈ l, tb t) (hx : fr x) (hy : fr y) (hp : H.get pb = some (.cells [.int .i64 x.1, .int .i64 x.2, .int .i64 y.1, .int .i64 y.2] false)) :
    Ok (r23_l2 a FUEL pb v l.length 0 H) fun r H' => Gr H H' ∧ r = (decide (∀ t ∈ l, sat t x y), 0) := by
  have hlen := hv.len
  refine Ok.loop (L := fun K (s : Int) H2 => r23_l2 a K pb v l.length s H2) (fun m s H' => Gr H H' ∧ ∃ i : Nat, s = i ∧ i + m = l.length ∧ ∀ t ∈ l.take i, sat t x y) ?_ FUEL l.length 0 H (by unfold FUEL; omega) ⟨.refl _, 0, rfl, by omega, by simp⟩
  rintro K m s H1 ⟨g1, i, rfl, hm, ht⟩ ih
  try dsimp only at *
  rw [r23_l2]
  by_cases h : i < l.length
  · have hg := hv.gr g1
    have hmem : l[i] ∈ l := List.getElem_mem h
    obtain ⟨E, hE, hE', gE, nE⟩ := sts3 H1 (.int .i64 l[i].1) (.int .i64 l[i].2.1) (.int .i64 l[i].2.2) (.int .i64 0) (.int .i64 0) (.int .i64 0)
    have gB := g1.trans gE
    have hpE : E.get pb = some (.cells [.int .i64 x.1, .int .i64 x.2, .int .i64 y.1, .int .i64 y.2] false) := by rw [gB.2 _ (Hp.get_lt hp)]; exact hp
    refine Ok.pos (by omega) (Ok.ck (by omega) (Ok.ld (hg.ldI (i := i) (j := 0) h rfl) (Ok.ld (hg.ldI (i := i) (j := 1) h rfl) (Ok.ld (hg.ldI (i := i) (j := 2) h rfl) (Ok.ld hE ?_)))))
    refine Ok.ld (ldI_get hE' rfl) (Ok.ld (ldI_get hpE rfl) (Ok.ld (ldI_get hpE rfl) (Ok.ld (ldI_get hE' rfl) (Ok.ld (ldI_get hpE rfl) (Ok.ld (ldI_get hpE rfl) (Ok.ld (ldI_get hE' rfl) (Ok.ld (ldI_get hpE rfl) (Ok.ld (ldI_get hpE rfl) ?_))))))))
    obtain ⟨e1, e2, e3, e4, e5, e6, e7⟩ := sat_bd (hl _ hmem) hx hy
    rw [e1, e2, e3, e4, e5, e6, e7]
    refine Ok.ite (fun c => Ok.ret ⟨gB, ?_⟩) fun c => ?_
    · rw [decide_eq_false]
      intro f
      have := f _ hmem
      unfold sat at this
      omega
    · rw [w64_succ (by omega)]
      refine ih (m - 1) _ E (by omega) ⟨gB, i + 1, rfl, by omega, ?_⟩
      rw [List.take_succ_eq_append_getElem h]
      intro z hz
      rcases List.mem_append.1 hz with hz | hz
      · exact ht z hz
      · rw [List.mem_singleton] at hz; subst hz; unfold sat; omega
  · rw [List.take_of_length_le (by omega)] at ht
    exact Ok.neg (by omega) (Ok.ret ⟨g1, by rw [decide_eq_true ht]⟩)
theorem num_tb {x y : Pr} (hx : num x) (hy : num y) : tb (lineB x y) := by
  unfold num at hx hy
  have b1 := mul_bd (A := 30) (B := 30) (x := x.2 - y.2) (y := y.1) (by omega) (by omega) (by omega) (by omega)
  have b2 := mul_bd (A := 30) (B := 30) (x := y.1 - x.1) (y := y.2) (by omega) (by omega) (by omega) (by omega)
  unfold tb lineB
  dsimp only
  omega
theorem lines_tb {e : List Pr} (h0 : 0 < e.length) (h : ∀ x ∈ e, num x) : ∀ t ∈ linesF e, tb t := by
  have ha : ∀ i, i < e.length → num (at' e i) := fun i hi => by rw [← at_eq hi]; exact h _ (List.getElem_mem hi)
  intro t ht
  unfold linesF at ht
  rcases List.mem_cons.1 ht with rfl | ht
  · have := ha 0 h0
    unfold num at this
    unfold tb
    dsimp only
    omega
  · rcases List.mem_cons.1 ht with rfl | ht
    · have := ha (e.length - 1) (by omega)
      unfold num at this
      unfold tb
      dsimp only
      omega
    · obtain ⟨i, hi, rfl⟩ := List.mem_map.1 ht
      rw [List.mem_range] at hi
      exact num_tb (ha i (by omega)) (ha (i + 1) (by omega))
theorem r23_ok {k : Nat} {H : Hp} {v : Sl} {l : List Pr} (hv : SL H v l) (hb : l.length ≤ 1000) (a b c d : Int) : Ok (r23 (appA (k + 2)) v a b c d H) fun r H' => Gr H H' ∧ if offP l ∧ fr (a, b) ∧ fr (c, d) then (∃ q, q.Perm l ∧ q.Pairwise lexP ∧ r = (decide (∀ t ∈ linesF (chainF q).reverse, sat t (a, b) (c, d)), 0)) else r = (false, 2) := by
  unfold r23
  have gp := Gr.push H (.cells [.int .i64 a, .int .i64 b, .int .i64 c, .int .i64 d] false)
  have g0 : (H.push (.cells [.int .i64 a, .int .i64 b, .int .i64 c, .int .i64 d] false)).get H.n = some (.cells [.int .i64 a, .int .i64 b, .int .i64 c, .int .i64 d] false) := Hp.get_push_new _ _
  generalize H.push (.cells [.int .i64 a, .int .i64 b, .int .i64 c, .int .i64 d] false) = A at *
  refine Ok.lt (Ok.bind (r52_ok (hv.gr gp) hb) fun r B ⟨gB0, hr⟩ => ?_)
  subst hr
  have gB := gp.trans gB0
  by_cases ho : offP l
  · rw [decide_eq_true ho]
    simp only [ho, true_and]
    have b0 : B.get H.n = some (.cells [.int .i64 a, .int .i64 b, .int .i64 c, .int .i64 d] false) := by rw [gB0.2 _ (Hp.get_lt g0)]; exact g0
    refine Ok.pos (by simp) (Ok.ld (ldI_get b0 rfl) (Ok.ld (ldI_get b0 rfl) (Ok.ld (ldI_get b0 rfl) (Ok.ld (ldI_get b0 rfl) (Ok.lt ?_)))))
    try dsimp only
    have gq := Gr.push B (.cells [.int .i64 a, .int .i64 b, .int .i64 c, .int .i64 d] false)
    have hs : SL (T := Pr) (B.push (.cells [.int .i64 a, .int .i64 b, .int .i64 c, .int .i64 d] false)) ⟨false, B.n, 0, 2, 2, 0⟩ [(a, b), (c, d)] := .of_get (ro := false) (Hp.get_push_new _ _) rfl rfl (Nat.le_refl _) (.inl rfl) rfl
    generalize B.push (.cells [.int .i64 a, .int .i64 b, .int .i64 c, .int .i64 d] false) = C at *
    have c0 : C.get H.n = some (.cells [.int .i64 a, .int .i64 b, .int .i64 c, .int .i64 d] false) := by rw [gq.2 _ (Hp.get_lt b0)]; exact b0
    have gC := gB.trans gq
    have hvC := hv.gr gC
    have hall : (fr (a, b) ∧ fr (c, d)) = (∀ x ∈ [(a, b), (c, d)], fr x) := by simp
    show Ok (r23_l0 (appA (k + 2)) FUEL v H.n ⟨false, B.n, 0, 2, 2, 0⟩ 2 0 C) _
    have two : [(a, b), (c, d)].length = 2 := rfl
    have e0 : at' [(a, b), (c, d)] 0 = (a, b) := rfl
    have e1 : at' [(a, b), (c, d)] 1 = (c, d) := rfl
    simp only [hall]
    generalize hlp : [(a, b), (c, d)] = pl at *
    have hvl := hs.len
    refine Ok.loop (L := fun K (s : Int) H2 => r23_l0 (appA (k + 2)) K v H.n ⟨false, B.n, 0, 2, 2, 0⟩ 2 s H2) (fun m s H' => Gr C H' ∧ ∃ i : Nat, s = i ∧ i + m = 2 ∧ ∀ x ∈ pl.take i, fr x) ?_ FUEL 2 0 C (by unfold FUEL; omega) ⟨.refl _, 0, rfl, rfl, by simp⟩
    rintro K m s H1 ⟨g1, i, rfl, hm, ht⟩ ih
    try dsimp only at *
    rw [r23_l0]
    by_cases h : i < 2
    · have hg := hs.gr g1
      obtain ⟨E, hE, hE', gE, nE⟩ := sts2 H1 (.int .i64 pl[i].1) (.int .i64 pl[i].2) (.int .i64 0) (.int .i64 0)
      have gX := gC.trans (g1.trans gE)
      have hmem : pl[i] ∈ pl := List.getElem_mem (by omega)
      have bad : ¬ fr pl[i] → Ok (r23_j1 (appA (k + 2)) (fun v1_ v2_ v3_ v4_ v5_ H_ => r23_l0 (appA (k + 2)) K v1_ v2_ v3_ v4_ v5_ H_) v H.n ⟨false, B.n, 0, 2, 2, 0⟩ 2 i true E) fun r H' => Gr H H' ∧ if ∀ x ∈ pl, fr x then (∃ q, q.Perm l ∧ q.Pairwise lexP ∧ r = (decide (∀ t ∈ linesF (chainF q).reverse, sat t (a, b) (c, d)), 0)) else r = (false, 2) := fun hno => by
        unfold r23_j1
        simp only [if_neg (show ¬ ∀ x ∈ pl, fr x from fun c => hno (c _ hmem))]
        exact Ok.pos (by simp) (Ok.ret ⟨gX, rfl⟩)
      refine Ok.pos (by omega) (Ok.ck (by dsimp only; omega) (Ok.ld (hg.ldI (i := i) (j := 0) (by omega) rfl) (Ok.ld (hg.ldI (i := i) (j := 1) (by omega) rfl) (Ok.ld hE (Ok.ld (ldI_get hE' rfl) ?_)))))
      refine Ok.ite (fun c1 => bad (fun f => by have := f.1; omega)) fun c1 => Ok.ld (ldI_get hE' rfl) (Ok.ite (fun c2 => bad (fun f => by have := f.2.1; omega)) fun c2 => Ok.ld (ldI_get hE' rfl) (Ok.ite (fun c3 => bad (fun f => by have := f.2.2.1; omega)) fun c3 => Ok.ld (ldI_get hE' rfl) (Ok.ld (ldI_get hE' rfl) ?_)))
      rw [w64_id (n := 30 * pl[i].2) (by omega) (by omega)]
      refine Ok.ite (fun c4 => bad (fun f => by have := f.2.2.2.1; omega)) fun c4 => Ok.ld (ldI_get hE' rfl) (Ok.ld (ldI_get hE' rfl) ?_)
      obtain ⟨p, q, e, hp, hq, hq2⟩ := fr_toNat (x := pl[i]) (by omega) (by omega) (by omega) (by omega)
      have hX := r53_ok (a := p) (b := q) (by omega) (by omega) H0
      have hfr : fr pl[i] ↔ Nat.gcd p q = 1 := by
        rw [e]
        unfold fr
        simp only [Int.toNat_natCast]
        constructor
        · intro f; exact f.2.2.2.2
        · intro f
          rw [e] at c4
          dsimp only at c4
          exact ⟨by omega, by omega, by omega, by omega, f⟩
      rw [e]
      refine Ok.ld hX ?_
      dsimp only
      by_cases hgc : Nat.gcd p q = 1
      · rw [hgc, decide_eq_false (by simp)]
        unfold r23_j1
        refine Ok.neg (by simp) ?_
        rw [w64_succ (by omega)]
        refine ih (m - 1) _ E (by omega) ⟨g1.trans gE, i + 1, rfl, by omega, ?_⟩
        rw [List.take_succ_eq_append_getElem (by omega)]
        intro x hx
        rcases List.mem_append.1 hx with hx | hx
        · exact ht x hx
        · rw [List.mem_singleton] at hx; subst hx; exact hfr.2 hgc
      · rw [decide_eq_true (by omega)]
        exact bad (fun f => hgc (hfr.1 f))
    · rw [List.take_of_length_le (by omega)] at ht
      simp only [if_pos ht]
      have g1C := gC.trans g1
      have hx : fr (a, b) := by rw [← e0, ← at_eq (by omega)]; exact ht _ (List.getElem_mem _)
      have hy : fr (c, d) := by rw [← e1, ← at_eq (by omega)]; exact ht _ (List.getElem_mem _)
      refine Ok.neg (by omega) (Ok.bind (r54_ok (hv.gr g1C) ho) fun w H2 ⟨g2, _, q, hperm, hlex, hw⟩ => ?_)
      have hpl := hperm.length_eq
      have hl8 := ho.2.1
      have hl1 := ho.1
      have hcl := chainF_len q
      have hci := chain_ok hlex
      have hne : q ≠ [] := by intro e; rw [e] at hpl; simp at hpl; omega
      have hcn := List.length_pos_iff.2 (hci.ne hne)
      have hnum : ∀ x ∈ (chainF q).reverse, num x := fun x hx => ho.2.2.1 x (hperm.mem_iff.1 (hci.sub x (List.mem_reverse.1 hx)))
      have hwl := hw.len
      rw [hwl]
      refine Ok.mono (r23_l2_ok (x := (a, b)) (y := (c, d)) hw ?_ (lines_tb (by simpa using hcn) hnum) hx hy ?_) fun r H' h => ⟨g1C.trans (g2.trans h.1), q, hperm, hlex, h.2⟩
      · simp [linesF]; omega
      · have h1c : H1.get H.n = some (.cells [.int .i64 a, .int .i64 b, .int .i64 c, .int .i64 d] false) := by rw [g1.2 _ (Hp.get_lt c0)]; exact c0
        rw [g2.2 _ (Hp.get_lt h1c)]
        exact h1c
  · rw [decide_eq_false ho]
    simp only [ho, false_and, if_false]
    exact Ok.neg (by simp) (Ok.ret ⟨gB, rfl⟩)
end Go.Lt.P5
