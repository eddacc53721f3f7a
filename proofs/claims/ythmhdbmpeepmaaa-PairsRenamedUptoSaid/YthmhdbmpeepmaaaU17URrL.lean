/- PLAIN LAWS OF WHAT IS COMPUTED, for the statement 'PairsRenamed'. Nothing is asked of the input. -/
import Derived.Test.YthmhdbmpeepmaaaU17URrI
set_option linter.unusedVariables false
set_option linter.unusedSimpArgs false
namespace Go.Lt.P8
open Go Go.Lt Go.Proofs
def arrB (S : List Pr) : List AV := (List.range 64).map fun t => AV.bool (decide ((((t / 8 : Nat) : Int), ((t % 8 : Nat) : Int)) ∈ S))
theorem arrB_len (S : List Pr) : (arrB S).length = 64 := by simp [arrB]
theorem arrB_get {S : List Pr} {a b : Nat} (ha : a < 8) (hb : b < 8) : (arrB S)[a * 8 + b]? = some (.bool (decide (((a : Int), (b : Int)) ∈ S))) := by
  unfold arrB
  rw [List.getElem?_map, List.getElem?_range (by omega)]
  simp only [Option.map_some]
  rw [show (a * 8 + b) / 8 = a by omega, show (a * 8 + b) % 8 = b by omega]
theorem arrB_set {S : List Pr} {a b : Nat} (ha : a < 8) (hb : b < 8) : (arrB S).set (a * 8 + b) (.bool true) = arrB (S ++ [((a : Int), (b : Int))]) := by
  apply List.ext_getElem
  · simp [arrB]
  · intro t h1 h2
    have ht : t < 64 := by rw [arrB_len] at h2; exact h2
    rw [List.getElem_set]
    unfold arrB
    simp only [List.getElem_map, List.getElem_range, List.mem_append, List.mem_singleton]
    by_cases e : a * 8 + b = t
    · subst e
      rw [if_pos rfl, show (a * 8 + b) / 8 = a by omega, show (a * 8 + b) % 8 = b by omega, decide_eq_true (.inr rfl)]
    · rw [if_neg e]
      congr 1
      rw [Bool.eq_iff_iff, decide_eq_true_iff, decide_eq_true_iff]
      constructor
      · exact .inl
      · rintro (h | h)
        · exact h
        · obtain ⟨h1, h2⟩ := Prod.mk.inj h
          omega
theorem bit_int {P : Nat} (hP : P < 2 ^ 40) {x : Int} (h0 : 0 ≤ x) (h1 : x < 40) : bitsOf .and .i64 (shrOf .i64 (P : Int) x) 1 = 1 ↔ P.testBit x.toNat = true := by
  obtain ⟨a, rfl⟩ : ∃ a : Nat, x = a := ⟨x.toNat, by omega⟩
  rw [bit_nat (by omega) (by omega), Int.toNat_natCast]
section
variable {n : Nat} {Q : Bool → Hp → Prop} {Hb : Hp} {cb : Nat}
def prev (r : List Pr) (i : Nat) : Option Int := if i = 0 then none else some (r.getD (i - 1) (0, 0)).1
theorem r64_l1_ok (hn : n ≤ 4) {kt : Int → Nat → Sl → Int → Int → Hp → Option (Bool × Hp)} {v4 v7 : Sl} {x5 x6 : Int} {r : List Pr} (hb : r.length ≤ 1000) {S : List Pr} {H : Hp} (hv : SL Hb v7 r) (hcb : Hb.n ≤ cb) (g : Gr Hb H) (hm : H.get cb = some (.cells (arrB S) false))
    (k1 : ∀ S' H', rdR n r S 0 none = some S' → Gr Hb H' → H'.get cb = some (.cells (arrB S') false) → Ok (kt n cb v4 x5 (w64 (x6 + 1)) H') Q)
    (k2 : rdR n r S 0 none = none → ∀ H', Gr Hb H' → Q false H') :
    Ok (r64_l1 kt FUEL n cb v7 0 v4 x5 x6 v7 (v7.len : Int) 0 H) Q := by
  have hlen := hv.len
  rw [hlen]
  refine Ok.loop (L := fun K (s : Int × Int) H' => r64_l1 kt K n cb v7 s.1 v4 x5 x6 v7 r.length s.2 H') (fun m s H' => ∃ i P : Nat, s = ((P : Int), (i : Int)) ∧ i + m = r.length ∧ P < 2 ^ 40 ∧ Gr Hb H' ∧ ∃ S1, H'.get cb = some (.cells (arrB S1) false) ∧ rdR n r S 0 none = rdR n (r.drop i) S1 P (prev r i)) ?_ FUEL r.length (0, 0) H (by unfold FUEL; omega)
    ⟨0, 0, rfl, by omega, by omega, g, S, hm, rfl⟩
  rintro K m ⟨s1, s2⟩ H1 ⟨i, P, he, hm, hP, g1, S1, hS, hr⟩ ih
  obtain ⟨rfl, rfl⟩ := Prod.mk.inj he
  try dsimp only at *
  rw [r64_l1]
  have e2n : w64 (2 * (n : Int)) = ((2 * n : Nat) : Int) := by rw [w64_id (by omega) (by omega)]; push_cast; rfl
  by_cases h : i < r.length
  · have hg := hv.gr g1
    refine Ok.pos (by omega) (Ok.ck (by omega) (Ok.ld (hg.ldI (i := i) (j := 0) h rfl) (Ok.ld (hg.ldI (i := i) (j := 1) h rfl) ?_)))
    obtain ⟨D, hD, hD', gD, nD⟩ := sts2 H1 (.int .i64 r[i].1) (.int .i64 r[i].2) (.int .i64 0) (.int .i64 0)
    refine Ok.ld hD ?_
    have q0 : D.ldI .i64 H1.n (0 + (0 : Int).toNat * 1) = some r[i].1 := ldI_get hD' rfl
    have q1 : D.ldI .i64 H1.n (0 + (1 : Int).toNat * 1) = some r[i].2 := ldI_get hD' rfl
    rw [List.drop_eq_getElem_cons h, rdR] at hr
    have gB := g1.trans gD
    have hmD : D.get cb = some (.cells (arrB S1) false) := by rw [gD.2 _ (Hp.get_lt hS)]; exact hS
    have bad : (¬ inP n r[i] ∨ r[i] ∈ S1 ∨ P.testBit r[i].1.toNat = true ∨ P.testBit r[i].2.toNat = true ∨ (prev r i).any (fun y => decide (r[i].1 ≤ y)) = true) → ∀ v1 v3 v4 v5 v6 v7 v8 v9 v10 v11 v12 kt2, Ok (r64_j2 kt2 v1 cb v3 v4 v5 v6 v7 v8 v9 v10 v11 v12 true D) Q := by
      intro hc v1 v3 v4 v5 v6 v7 v8 v9 v10 v11 v12 kt2
      rw [if_pos hc] at hr
      unfold r64_j2
      exact Ok.pos rfl (Ok.ret (k2 hr D gB))
    refine Ok.ld q0 (Ok.ld q1 (Ok.ite (fun hc => bad (.inl fun c => by unfold inP at c; omega) ..) fun c1 => ?_))
    refine Ok.ite (fun hc => bad (.inl fun c => by unfold inP at c; omega) ..) fun c2 => ?_
    rw [e2n]
    refine Ok.ite (fun hc => bad (.inl fun c => by unfold inP at c; omega) ..) fun c3 => ?_
    have hin : inP n r[i] := ⟨by omega, by omega, by omega⟩
    obtain ⟨a, ha⟩ : ∃ a : Nat, r[i].1 = a := ⟨r[i].1.toNat, by omega⟩
    obtain ⟨b, hb'⟩ : ∃ b : Nat, r[i].2 = b := ⟨r[i].2.toNat, by omega⟩
    have ep : r[i] = ((a : Int), (b : Int)) := Prod.ext ha hb'
    have hld : D.ldB cb ((0 + (r[i].1 : Int).toNat * 8) + (r[i].2 : Int).toNat * 1) = some (decide (r[i] ∈ S1)) := by
      rw [ha, hb', Int.toNat_natCast, Int.toNat_natCast, Nat.zero_add, Nat.mul_one]
      exact ldB_get hmD (by rw [arrB_get (by omega) (by omega), ep])
    refine Ok.ck (by omega) (Ok.ck (by omega) (Ok.ld hld ?_))
    refine Ok.ite (fun hc => bad (.inr (.inl (by simpa using hc))) ..) fun c4 => ?_
    have c4' : r[i] ∉ S1 := by simpa using c4
    refine Ok.ck (by omega) ?_
    refine Ok.ite (fun hc => bad (.inr (.inr (.inl ((bit_int hP (by omega) (by omega)).1 hc)))) ..) fun c5 => ?_
    refine Ok.ck (by omega) ?_
    refine Ok.ite (fun hc => bad (.inr (.inr (.inr (.inl ((bit_int hP (by omega) (by omega)).1 hc))))) ..) fun c6 => ?_
    have good : ¬ (prev r i).any (fun y => decide (r[i].1 ≤ y)) = true → Ok (r64_j2 (fun v1_ v2_ v3_ v4_ v5_ v6_ v7_ v8_ v9_ v10_ H_ => r64_l1 kt K v1_ v2_ v3_ v4_ v5_ v6_ v7_ v8_ v9_ v10_ H_) n cb v7 P r[i].1 r[i].2 v4 x5 x6 v7 r.length i false D) Q := by
      intro hq
      rw [if_neg (by
        rintro (c | c | c | c | c)
        · exact c hin
        · exact c4' c
        · exact c5 ((bit_int hP (by omega) (by omega)).2 c)
        · exact c6 ((bit_int hP (by omega) (by omega)).2 c)
        · exact hq c)] at hr
      unfold r64_j2
      refine Ok.neg (by simp) (Ok.ck (by omega) (Ok.ck (by omega) ?_))
      rw [ha, hb', Int.toNat_natCast, Int.toNat_natCast, Nat.zero_add, Nat.mul_one]
      refine Ok.st hmD (by rw [arrB_len]; omega) fun H2 e2 h2 => Ok.ck (by omega) (Ok.ck (by omega) ?_)
      rw [arrB_set (by omega) (by omega), ← ep] at h2
      obtain ⟨p1, p2⟩ := setP_eq hP (by omega) hin
      rw [ha, hb'] at p1
      rw [p1, w64_succ (by omega)]
      refine ih (m - 1) _ H2 (by omega) ⟨i + 1, _, rfl, by omega, p2, e2 ▸ gB.set hcb, _, h2, ?_⟩
      rw [hr]
      congr 1
      unfold prev
      rw [if_neg (by omega), Nat.add_sub_cancel, List.getD_eq_getElem?_getD, List.getElem?_eq_getElem h]
      rfl
    refine Ok.ite (fun h0 => ?_) fun h0 => good (by unfold prev; rw [if_pos (by omega)]; simp)
    have ei : w64 ((i : Int) - 1) = ((i - 1 : Nat) : Int) := by rw [w64_id (by omega) (by omega)]; omega
    rw [ei]
    have hpv : prev r i = some (r[i - 1]'(by omega)).1 := by
      unfold prev
      rw [if_neg (by omega), List.getD_eq_getElem?_getD, List.getElem?_eq_getElem (by omega)]
      rfl
    refine Ok.ck (by omega) (Ok.ld ((hv.gr gB).ldI (i := i - 1) (j := 0) (by omega) rfl) ?_)
    by_cases hq : r[i].1 ≤ (r[i - 1]'(by omega)).1
    · rw [decide_eq_true hq]
      exact bad (.inr (.inr (.inr (.inr (by rw [hpv]; simpa using hq))))) ..
    · rw [decide_eq_false hq]
      exact good (by rw [hpv]; simpa using hq)
  · rw [List.drop_eq_nil_of_le (by omega), rdR] at hr
    exact Ok.neg (by omega) (k1 S1 H1 hr g1 hS)
/-- IsRounds of the reference -/
theorem r64_ok {n : Nat} (hn1 : 1 ≤ n) (hn : n ≤ 4) {H : Hp} {v : Sl} {vs : List Sl} {ls : List (List Pr)} (hv : SLL H v vs ls) :
    Ok (r64 n v H) fun b H' => Gr H H' ∧ b = (decide (ls.length = 2 * n - 1) && isRR n ls []) := by
  unfold r64
  have hlen := hv.len
  rw [w64_id (n := 2 * (n : Int)) (by omega) (by omega), w64_id (by omega) (by omega)]
  refine Ok.ite (fun hc => Ok.ret ⟨.refl _, ?_⟩) fun hc => ?_
  · rw [decide_eq_false (by omega)]; rfl
  · rw [decide_eq_true (show ls.length = 2 * n - 1 by omega), Bool.true_and]
    refine Ok.lt ?_
    have gp := Gr.push H (.cells (arrB []) false)
    show Ok (r64_l0 FUEL n H.n v v.len 0 (H.push (.cells (arrB []) false))) _
    rw [hlen]
    refine Ok.loop (L := fun K (s : Int) H' => r64_l0 K n H.n v ls.length s H') (fun m s H' => ∃ i : Nat, s = i ∧ i + m = ls.length ∧ Gr H H' ∧ ∃ S, H'.get H.n = some (.cells (arrB S) false) ∧ isRR n ls [] = isRR n (ls.drop i) S) ?_ FUEL ls.length 0 _ (by unfold FUEL; omega) ⟨0, rfl, by omega, gp, [], by simp, rfl⟩
    rintro K m s H1 ⟨i, rfl, hmi, g1, S, hS, he⟩ ih
    try dsimp only at *
    rw [r64_l0]
    by_cases h : i < ls.length
    · rw [List.drop_eq_getElem_cons h, isRR] at he
      have hx := hv.get h
      have hxl := hx.len
      refine Ok.pos (by omega) (Ok.ck (by omega) (Ok.ld ((hv.gr g1).ldSl (i := i) h) ?_))
      refine Ok.ite (fun hc => ?_) fun hc => ?_
      · rw [if_neg (by omega)] at he
        exact Ok.ret ⟨g1, by rw [he]⟩
      · rw [if_pos (by omega)] at he
        refine r64_l1_ok (Hb := H) hn (by omega) hx (Nat.le_refl _) g1 hS (fun S' H3 e3 g3 h3 => ?_) (fun hno H3 g3 => ⟨g3, ?_⟩)
        · rw [e3] at he
          rw [w64_succ (by omega)]
          exact ih (m - 1) _ H3 (by omega) ⟨i + 1, rfl, by omega, g3, S', h3, he⟩
        · rw [hno] at he; rw [he]
    · rw [List.drop_eq_nil_of_le (by omega), isRR] at he
      exact Ok.neg (by omega) (Ok.ret ⟨g1, by rw [he]⟩)
end
end Go.Lt.P8
