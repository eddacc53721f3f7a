/- PLAIN LAWS OF WHAT IS COMPUTED, for the statement 'CutsMoved'. Nothing is asked of the input. -/
import Derived.Test.YteefkljbmjjncaaU16XOf
import Derived.Test.YteefkljbmjjncaaU16XTk
import Derived.Test.YteefkljbmjjncaaLB
set_option linter.unusedVariables false
set_option linter.unusedSimpArgs false
namespace Go.Lt.P2
open Go Go.Lt Go.Proofs
theorem keqs16 (a b c d : Int) : AV.keqs [.int .i64 a, .int .i64 b] [.int .i64 c, .int .i64 d] = decide ((a, b) = (c, d)) := by
  simp only [AV.keqs, AV.keq1, Bool.and_true, Prod.mk.injEq]
  exact Bool.eq_iff_iff.2 (by simp)
theorem dv_addint {n d k : Int} (hd : 0 < d) : dv (n + k * d) d = dv n d + (k : Rat) := by
  have h0 := cast_pos hd
  have h0' : ((d : Int) : Rat) ≠ 0 := by grind
  unfold dv
  push_cast
  grind
theorem fq_addint (q : Rat) (k : Int) : fq (q + (k : Rat)) = ((fq q).1 + k * (fq q).2, (fq q).2) := by
  have le : ∀ (q : Rat) (k : Int), (fq (q + (k : Rat))).2 ≤ (fq q).2 := fun q k => by
    have e := dv_addint (n := (fq q).1) (k := k) (fq_pos q)
    rw [dv_fq] at e
    rw [← e]
    exact (fq_bd (fq_pos q)).1
  have e := dv_addint (n := (fq q).1) (k := k) (fq_pos q)
  rw [dv_fq] at e
  have h1 := le q k
  have h2 := le (q + (k : Rat)) (-k)
  rw [show q + (k : Rat) + ((-k : Int) : Rat) = q by rw [Rat.intCast_neg]; grind] at h2
  have hd : (fq (q + (k : Rat))).2 = (fq q).2 := by omega
  have h3 := (fq_bd (a := (fq q).1 + k * (fq q).2) (fq_pos q)).2.2
  rw [e, hd] at h3
  have h4 := Int.eq_of_mul_eq_mul_right (by have := fq_pos q; omega) h3
  exact Prod.ext h4 hd
/-- plus of the law -/
theorem r62_ok {n d k : Int} (hn : -1000000 ≤ n ∧ n ≤ 1000000) (hd : -1000000 ≤ d ∧ d ≤ 1000000) (hk : -5 ≤ k ∧ k ≤ 5) : Ok (r62 n d k H0) fun r _ => r = (n + k * d, d) := by
  have m := mul_bd (A := 5) (B := 1000000) (x := k) (y := d) (by omega) (by omega) (by omega) (by omega)
  unfold r62
  refine Ok.box2 (.nil H0) fun A _ c => Ok.cld c (.tail _ (.head _)) rfl (Ok.cld c (.tail _ (.head _)) rfl (Ok.cld c (.tail _ (.head _)) rfl ?_))
  rw [w64_id (n := k * d) (by omega) (by omega), w64_id (by omega) (by omega)]
  exact Ok.cst c 0 rfl rfl fun B _ _ c => Ok.cld c (.head _) rfl (Ok.cld c (.head _) rfl (Ok.ret rfl))
theorem hulR_near {l : List Pr} (h : ∀ p ∈ l, near3 p) : ∀ p ∈ (hulR l).2, near3 p := fun p hp => by
  unfold hulR at hp
  split at hp
  · cases hp
  · split at hp
    · exact h p hp
    · unfold hul chn at hp
      rcases List.mem_append.1 hp with hp | hp
      · exact h p (stk_sub _ p (List.mem_reverse.1 (List.dropLast_subset _ hp)))
      · exact h p (List.mem_reverse.1 (stk_sub _ p (List.mem_reverse.1 (List.dropLast_subset _ hp))))
theorem hulR_sp {u v : Int} (l : List Pr) : hulR (l.map (sp u v)) = ((hulR l).1, (hulR l).2.map (sp u v)) := by
  unfold hulR
  rw [List.length_map]
  split
  · rfl
  · split
    · rfl
    · rw [hul_sp]
section
variable {v1 v5 v6 v7 v8 v9 v10 v11 : Sl} {u v : Int} {xb : Nat} {B H : Hp}
theorem r16_l2_ok {L : List Pr} (hb : L.length ≤ 100000000) (hn : ∀ p ∈ L, near3 p) (hu : -5 ≤ u ∧ u ≤ 5) (hv : -5 ≤ v ∧ v ≤ 5) (h1 : SL H v11 L) (h2 : SL H v6 (L.map (sp u v))) (kN : ∀ H', Gr H H' → Ok (r16_l3 (appA 20) FUEL v1 u v xb v5 v8 v9 v10 v7 (v7.len : Int) 0 H') fun r _ => r = true) :
    Ok (r16_l2 (appA 20) FUEL v1 u v xb v5 v6 v7 v8 v9 v10 v11 L.length 0 H) fun r _ => r = true := by
  have e1 := h1.len
  have e2 := h2.len
  rw [List.length_map] at e2
  refine Ok.loop (L := fun K (s : Int) H2 => r16_l2 (appA 20) K v1 u v xb v5 v6 v7 v8 v9 v10 v11 L.length s H2) (fun m s H' => Gr H H' ∧ ∃ i : Nat, s = i ∧ i + m = L.length) ?_ FUEL L.length 0 H (by unfold FUEL; omega) ⟨.refl _, 0, rfl, by omega⟩
  rintro K m s H1 ⟨g1, i, rfl, hm⟩ ih
  try dsimp only at *
  rw [r16_l2]
  by_cases h : i < L.length
  · have hg := h1.gr g1
    have c0 : Cx H1 H1 [] := .nil H1
    have hi : i < (L.map (sp u v)).length := by rw [List.length_map]; exact h
    have ei : (L.map (sp u v))[i] = sp u v L[i] := by rw [List.getElem_map]
    have hni := hn _ (List.getElem_mem h)
    unfold near3 at hni
    refine Ok.pos (by omega) (Ok.ck (by omega) (Ok.ld (hg.ldI (i := i) (j := 0) h rfl) (Ok.ld (hg.ldI (i := i) (j := 1) h rfl) (Ok.alo c0 fun E gE c => Ok.ck (by omega) ?_))))
    have hg2 := h2.gr (g1.trans gE)
    refine Ok.ld (hg2.ldI (i := i) (j := 0) (n := L[i].1 + u) hi (by rw [ei]; rfl)) (Ok.ld (hg2.ldI (i := i) (j := 1) (n := L[i].2 + v) hi (by rw [ei]; rfl)) (Ok.cld c (.head _) rfl (Ok.cld c (.head _) rfl ?_)))
    rw [w64_id (n := L[i].1 + u) (by omega) (by omega), w64_id (n := L[i].2 + v) (by omega) (by omega), keqs16, decide_eq_true rfl, w64_succ (by omega)]
    exact Ok.pos rfl (ih (m - 1) _ E (by omega) ⟨g1.trans gE, i + 1, rfl, by omega⟩)
  · exact Ok.neg (by omega) (kN H1 g1)
theorem r16_l3_ok {L : List Pr} (hb : L.length ≤ 100000000) (hn : ∀ p ∈ L, near3 p) (hu : -5 ≤ u ∧ u ≤ 5) (hv : -5 ≤ v ∧ v ≤ 5) (h1 : SL H v9 L) (h2 : SL H v6 (L.map (sp u v))) (kN : ∀ H', Gr H H' → Ok (r16_l4 (appA 20) FUEL v1 u v xb v5 v8 v7 (v7.len : Int) 0 H') fun r _ => r = true) :
    Ok (r16_l3 (appA 20) FUEL v1 u v xb v5 v6 v7 v8 v9 L.length 0 H) fun r _ => r = true := by
  have e1 := h1.len
  have e2 := h2.len
  rw [List.length_map] at e2
  refine Ok.loop (L := fun K (s : Int) H2 => r16_l3 (appA 20) K v1 u v xb v5 v6 v7 v8 v9 L.length s H2) (fun m s H' => Gr H H' ∧ ∃ i : Nat, s = i ∧ i + m = L.length) ?_ FUEL L.length 0 H (by unfold FUEL; omega) ⟨.refl _, 0, rfl, by omega⟩
  rintro K m s H1 ⟨g1, i, rfl, hm⟩ ih
  try dsimp only at *
  rw [r16_l3]
  by_cases h : i < L.length
  · have hg := h1.gr g1
    have c0 : Cx H1 H1 [] := .nil H1
    have hi : i < (L.map (sp u v)).length := by rw [List.length_map]; exact h
    have ei : (L.map (sp u v))[i] = sp u v L[i] := by rw [List.getElem_map]
    have hni := hn _ (List.getElem_mem h)
    unfold near3 at hni
    refine Ok.pos (by omega) (Ok.ck (by omega) (Ok.ld (hg.ldI (i := i) (j := 0) h rfl) (Ok.ld (hg.ldI (i := i) (j := 1) h rfl) (Ok.alo c0 fun E gE c => Ok.ck (by omega) ?_))))
    have hg2 := h2.gr (g1.trans gE)
    refine Ok.ld (hg2.ldI (i := i) (j := 0) (n := L[i].1 + u) hi (by rw [ei]; rfl)) (Ok.ld (hg2.ldI (i := i) (j := 1) (n := L[i].2 + v) hi (by rw [ei]; rfl)) (Ok.cld c (.head _) rfl (Ok.cld c (.head _) rfl ?_)))
    rw [w64_id (n := L[i].1 + u) (by omega) (by omega), w64_id (n := L[i].2 + v) (by omega) (by omega), keqs16, decide_eq_true rfl, w64_succ (by omega)]
    exact Ok.pos rfl (ih (m - 1) _ E (by omega) ⟨g1.trans gE, i + 1, rfl, by omega⟩)
  · exact Ok.neg (by omega) (kN H1 g1)
theorem r16_l4_ok {p : List Sd} {x : Pa} {P : List Pq} (hp : plateP p) (hq : plateP (p.map (mv u v))) (hvp : SL B v1 p) (hb : p.length < 9223372036854775808) (hvq : SL H v5 (p.map (mv u v))) (hP : ∀ z ∈ P, qb 320 32 z.1 ∧ qb 320 32 z.2) (hPl : P.length ≤ 15) (hu : -5 ≤ u ∧ u ≤ 5) (hv : -5 ≤ v ∧ v ≤ 5) (h1 : SL H v7 P) (h2 : SL H v6 (P.map (sh u v))) (c : Cx B H [(xb, [.int .i64 x.1.1, .int .i64 x.1.2, .int .i64 x.2.1, .int .i64 x.2.2])]) :
    Ok (r16_l4 (appA 20) FUEL v1 u v xb v5 v6 v7 P.length 0 H) fun r _ => r = true := by
  have awkt : ∀ (X : Hp), Ok ((appA 20 21 [] X).bind fun p => (p.1.asB).bind fun x => some (x, p.2)) fun r _ => r = true := fun X => Ok.ld (awk 20 _) (Ok.ld rfl (Ok.ret rfl))
  have e1 := h1.len
  have e2 := h2.len
  rw [List.length_map] at e2
  refine Ok.loop (L := fun K (s : Int) H2 => r16_l4 (appA 20) K v1 u v xb v5 v6 v7 P.length s H2) (fun m s H' => Gr H H' ∧ Cx B H' [(xb, [.int .i64 x.1.1, .int .i64 x.1.2, .int .i64 x.2.1, .int .i64 x.2.2])] ∧ ∃ i : Nat, s = i ∧ i + m = P.length) ?_ FUEL P.length 0 H (by unfold FUEL; omega) ⟨.refl _, c, 0, rfl, by omega⟩
  rintro K m s H1 ⟨g1, c, i, rfl, hm⟩ ih
  try dsimp only at *
  rw [r16_l4]
  by_cases h : i < P.length
  · have hg := h1.gr g1
    have hi : i < (P.map (sh u v)).length := by rw [List.length_map]; exact h
    have ei : (P.map (sh u v))[i] = sh u v P[i] := by rw [List.getElem_map]
    obtain ⟨⟨a1, a2, a3⟩, ⟨b1, b2, b3⟩⟩ := hP _ (List.getElem_mem h)
    have l0 := hg.ldI (i := i) (j := 0) h rfl
    have l1 := hg.ldI (i := i) (j := 1) h rfl
    have l2 := hg.ldI (i := i) (j := 2) h rfl
    have l3 := hg.ldI (i := i) (j := 3) h rfl
    have f1 := fq_addint P[i].1 u
    have f2 := fq_addint P[i].2 v
    have pu := fq_pos P[i].1
    have pv := fq_pos P[i].2
    refine Ok.pos (by omega) (Ok.ck (by omega) (Ok.ld l0 (Ok.ld l1 (Ok.ld l2 (Ok.ld l3 (Ok.alo c fun E gE c => Ok.ck (by omega) ?_))))))
    have hg2 := h2.gr (g1.trans gE)
    have k0 := hg2.ldI (i := i) (j := 0) (n := (fq (P[i].1 + (u : Rat))).1) hi (by rw [ei]; rfl)
    have k1 := hg2.ldI (i := i) (j := 1) (n := (fq (P[i].1 + (u : Rat))).2) hi (by rw [ei]; rfl)
    have k2 := hg2.ldI (i := i) (j := 2) (n := (fq (P[i].2 + (v : Rat))).1) hi (by rw [ei]; rfl)
    have k3 := hg2.ldI (i := i) (j := 3) (n := (fq (P[i].2 + (v : Rat))).2) hi (by rw [ei]; rfl)
    refine Ok.ld k0 (Ok.ld k1 (Ok.ld k2 (Ok.ld k3 (Ok.cld c (.head _) rfl (Ok.cld c (.head _) rfl (Ok.own (r62_ok (by omega) (by omega) hu) fun _ => Ok.cld c (.head _) rfl (Ok.cld c (.head _) rfl (Ok.own (r62_ok (by omega) (by omega) hv) fun _ => ?_))))))))
    rw [f1, f2, w64_succ (by omega)]
    exact Ok.pos (by simp) (ih (m - 1) _ E (by omega) ⟨g1.trans gE, c.weak (.cons _ (.refl _)), i + 1, rfl, by omega⟩)
  · refine Ok.neg (by omega) (Ok.cld c (.head _) rfl (Ok.cld c (.head _) rfl (Ok.cld c (.head _) rfl (Ok.cld c (.head _) rfl (Ok.own r20_ok fun _ => ?_)))))
    by_cases hx : ptP x
    case neg =>
      rw [decide_eq_false hx]
      exact Ok.neg (by simp) (awkt _)
    rw [decide_eq_true hx]
    have hx' := hx
    unfold ptP frP at hx'
    refine Ok.pos rfl (Ok.cld c (.head _) rfl (Ok.cld c (.head _) rfl (Ok.own (r62_ok (by omega) (by omega) hu) fun _ => Ok.cld c (.head _) rfl (Ok.cld c (.head _) rfl (Ok.own (r62_ok (by omega) (by omega) hv) fun _ => Ok.alo c fun E gE c => ?_)))))
    have cE := c
    refine Ok.bind (r18_ok (hvp.gr c.g) hb) fun w F ⟨gF, hw⟩ => ?_
    rw [plate_eq hp] at hw
    have c := c.gr gF
    refine Ok.cld c (.tail _ (.head _)) rfl (Ok.cld c (.tail _ (.head _)) rfl (Ok.cld c (.tail _ (.head _)) rfl (Ok.cld c (.tail _ (.head _)) rfl (Ok.bind (r17_ok (k := 16) (x := x) hw (by have := hp.1.2; omega)) fun r1 G ⟨gG, hr1, _⟩ => ?_))))
    have c := c.gr gG
    refine Ok.cck cE (.tail _ (.head _)) rfl (Ok.cck cE (.tail _ (.head _)) rfl (Ok.cck cE (.tail _ (.head _)) rfl (Ok.cck cE (.tail _ (.head _)) rfl ?_)))
    have hz : ((x.1.1 + u * x.1.2, x.1.2), (x.2.1 + v * x.2.2, x.2.2)) = (((x.1.1 + u * x.1.2, x.1.2), (x.2.1 + v * x.2.2, x.2.2)) : Pa) := rfl
    have hqG : SL G v5 (p.map (mv u v)) := hvq.gr (g1.trans (gE.trans (gF.trans gG)))
    refine Ok.cld c (.head _) rfl (Ok.cld c (.head _) rfl (Ok.cld c (.head _) rfl (Ok.cld c (.head _) rfl (Ok.bind (r17_ok (k := 16) (x := ((x.1.1 + u * x.1.2, x.1.2), (x.2.1 + v * x.2.2, x.2.2))) hqG (by rw [List.length_map]; have := hp.1.2; omega)) fun r2 I ⟨gI, hr2, hr3⟩ => ?_))))
    have c := c.gr gI
    have a1 := hr1 ⟨hp, hx⟩
    have epq : paq ((x.1.1 + u * x.1.2, x.1.2), (x.2.1 + v * x.2.2, x.2.2)) = sh u v (paq x) := by
      unfold paq sh
      dsimp only
      rw [dv_addint (by omega), dv_addint (by omega)]
    refine Ok.neg (by rw [a1.2]; simp) (Ok.cld c (.head _) rfl (Ok.cld c (.head _) rfl (Ok.cld c (.head _) rfl (Ok.cld c (.head _) rfl (Ok.own (r20_ok (x := ((x.1.1 + u * x.1.2, x.1.2), (x.2.1 + v * x.2.2, x.2.2)))) fun _ => ?_)))))
    by_cases hz : ptP ((x.1.1 + u * x.1.2, x.1.2), (x.2.1 + v * x.2.2, x.2.2))
    · rw [decide_eq_true hz]
      have a2 := hr2 ⟨hq, hz⟩
      rw [epq, inP_mv, rnd_mv, ← a1.1] at a2
      refine Ok.pos rfl (Ok.pos a2.2 (Ok.pos ?_ (awkt _)))
      rw [beq_iff_eq]
      exact Bool.eq_iff_iff.2 a2.1.symm
    · rw [decide_eq_false hz]
      have a3 := hr3 fun q => hz q.2
      subst a3
      exact Ok.neg (by simp) (Ok.pos rfl (awkt _))
end
theorem clone16 {H : Hp} {v : Sl} {l : List Sd} (hv : SL H v l) (hb : l.length ≤ 1000) : Ok (r49 v H) fun w H' => Gr H H' ∧ SL H' w l := by
  show Ok (cloneR 3 v H) _
  exact Ok.mono (clone_ok hv (by omega) rfl) fun w H' h => ⟨h.1, h.2.1⟩
theorem movedLaw {H : Hp} {v : Sl} {p : List Sd} (hv : SL H v p) (hb : p.length < 9223372036854775808) (a b : Int) (x : Pa) : Ok (r16 (appA 20) v a b x.1.1 x.1.2 x.2.1 x.2.2 H) fun r _ => r = true := by
  unfold r16
  have l1 : (p.take 9).length ≤ 1000 := by rw [List.length_take]; omega
  have awkt : ∀ (X : Hp), Ok ((appA 20 21 [] X).bind fun p => (p.1.asB).bind fun x => some (x, p.2)) fun r _ => r = true := fun X => Ok.ld (awk 20 _) (Ok.ld rfl (Ok.ret rfl))
  refine Ok.box (.nil H) fun A gA c => Ok.bind (r18_ok (hv.gr gA) hb) fun w B ⟨gB, hw⟩ => Ok.bind (r33_ok (k := 19) (u := a) (v := b) hw l1) fun y C ⟨gC, hy1, hy2, _⟩ => ?_
  have c := (c.gr gB).gr gC
  by_cases hok : (plateP p ∧ ((-5 ≤ a ∧ a ≤ 5) ∧ -5 ≤ b ∧ b ≤ 5)) ∧ ∀ s ∈ p, mvOk a b s
  case neg =>
    have hne : y.2 = 2 ∨ y.2 = 4 := by
      rw [hy2]
      unfold mvR
      split
      · rename_i hh
        split
        · rename_i h2
          exact absurd ⟨⟨plate_take.1 hh.1, hh.2⟩, by rw [plate_eq (plate_take.1 hh.1)] at h2; exact h2⟩ hok
        · exact .inr rfl
      · exact .inl rfl
    unfold r16_j0
    refine Ok.pos (by rcases hne with h | h <;> rw [h] <;> simp) (Ok.pos rfl ?_)
    rcases hne with h | h
    · exact Ok.pos h (awkt _)
    · exact Ok.neg (by rw [h]; simp) (Ok.pos h (awkt _))
  obtain ⟨⟨hp, hab⟩, hmv⟩ := hok
  have h6 := hp.1.2
  rw [plate_eq hp] at hy1 hy2
  unfold mvR at hy1 hy2
  rw [if_pos ⟨hp, hab⟩, if_pos hmv] at hy1 hy2
  have hq := (plate_mv (u := a) (v := b) hp).2 hmv
  have hql : (p.map (mv a b)).length ≤ 1000 := by rw [List.length_map]; omega
  refine Ok.neg (by rw [hy2]; simp) (Ok.bind (r19_ok (hv.gr c.g)) fun z D ⟨gD, hz⟩ => ?_)
  subst hz
  rw [decide_eq_true hp]
  have c := c.gr gD
  refine Ok.pos rfl (Ok.neg (by omega) (Ok.neg (by omega) (Ok.neg (by omega) ?_)))
  rw [decide_eq_false (show ¬ 5 < b by omega)]
  unfold r16_j0
  have hyD := hy1.gr gD
  refine Ok.neg (by simp) (Ok.bind (r36_ok hyD hql) fun o E ⟨gE, ho⟩ => Ok.bind (r19_ok ho) fun z F ⟨gF, hz⟩ => ?_)
  subst hz
  rw [decide_eq_true hq]
  have c := (c.gr gE).gr gF
  have hyF := hyD.gr (gE.trans gF)
  have l1p : p.length ≤ 1000 := by omega
  refine Ok.pos rfl (Ok.bind (r18_ok (hv.gr c.g) hb) fun w1 I1 ⟨g1, hw1⟩ => ?_)
  have c := c.gr g1
  rw [plate_eq hp] at hw1
  refine Ok.bind (r40_ok (k := 18) hw1 l1p) fun q1 I2 ⟨g2, hq1⟩ => ?_
  rw [if_pos hp] at hq1
  have c := c.gr g2
  refine Ok.bind (clone16 (hyF.gr (g1.trans g2)) hql) fun w2 I3 ⟨g3, hw2⟩ => Ok.bind (r40_ok (k := 18) hw2 hql) fun q2 I4 ⟨g4, hq2⟩ => ?_
  rw [if_pos hq] at hq2
  have c := (c.gr g3).gr g4
  refine Ok.bind (r18_ok (hv.gr c.g) hb) fun w3 I5 ⟨g5, hw3⟩ => ?_
  have c := c.gr g5
  rw [plate_eq hp] at hw3
  refine Ok.bind (r23_ok (k := 18) hw3 l1p) fun q3 I6 ⟨g6, hq3⟩ => ?_
  rw [if_pos hp] at hq3
  have c := c.gr g6
  have gF6 := g1.trans (g2.trans (g3.trans (g4.trans (g5.trans g6))))
  refine Ok.bind (clone16 (hyF.gr gF6) hql) fun w4 I7 ⟨g7, hw4⟩ => Ok.bind (r23_ok (k := 18) hw4 hql) fun q4 I8 ⟨g8, hq4⟩ => ?_
  rw [if_pos hq] at hq4
  have c := (c.gr g7).gr g8
  refine Ok.bind (r18_ok (hv.gr c.g) hb) fun w5 I9 ⟨g9, hw5⟩ => ?_
  have c := c.gr g9
  rw [plate_eq hp] at hw5
  refine Ok.bind (r51_ok (k := 18) hw5 l1p) fun q5 J ⟨g10, hq5⟩ => ?_
  rw [if_pos hp] at hq5
  have c := c.gr g10
  have gF10 := gF6.trans (g7.trans (g8.trans (g9.trans g10)))
  refine Ok.bind (clone16 (hyF.gr gF10) hql) fun w6 J1 ⟨g11, hw6⟩ => Ok.bind (r51_ok (k := 18) hw6 hql) fun q6 M ⟨g12, hq6⟩ => ?_
  rw [if_pos hq] at hq6
  have c := (c.gr g11).gr g12
  have hyM := hyF.gr (gF10.trans (g11.trans g12))
  -- all as they stand at the end
  have s1 := (AccL.sl hq1.1).gr (g3.trans (g4.trans (g5.trans (g6.trans (g7.trans (g8.trans (g9.trans (g10.trans (g11.trans g12)))))))))
  have s2 := (AccL.sl hq2.1).gr (g5.trans (g6.trans (g7.trans (g8.trans (g9.trans (g10.trans (g11.trans g12)))))))
  have s3 := hq3.1.gr (g7.trans (g8.trans (g9.trans (g10.trans (g11.trans g12)))))
  have s4 := hq4.1.gr (g9.trans (g10.trans (g11.trans g12)))
  have s5 := hq5.1.gr (g11.trans g12)
  have s6 := hq6.1
  rw [pts_mv hp hq] at s2 s4
  rw [hulR_sp] at s4
  rw [rcs_mv] at s6
  have k1 := s1.len
  have k2 := s2.len
  have k3 := s3.len
  have k4 := s4.len
  have k5 := s5.len
  have k6 := s6.len
  dsimp only at k4
  rw [List.length_map] at k2 k4 k6
  have hnr := pts_near hp.2.1
  have hpl := pts_len hp.2.1
  have hhl : (hulR (pts p)).2.length ≤ 100000000 := by
    unfold hulR
    split
    · simp
    · split
      · dsimp only; omega
      · unfold hul
        have a := chn_len (pts p)
        have b := chn_len (pts p).reverse
        rw [List.length_reverse] at b
        simp only [List.length_append, List.length_dropLast]
        omega
  have hrl : (rcs (cs p)).length ≤ 15 := Nat.le_trans (rcs_len _) (cs_len15 h6)
  have hqb : ∀ z ∈ rcs (cs p), qb 320 32 z.1 ∧ qb 320 32 z.2 := fun z hz => by
    obtain ⟨d, hd, rfl⟩ := mem_rcs.1 hz
    have k := cs_mem hd
    rw [k.2.2.2.1]
    exact meet_qb (hp.2.1 _ k.1) (hp.2.1 _ k.2.1) k.2.2.1
  have e34 : q3.2 = q4.2 := by rw [hq3.2, hq4.2, pts_mv hp hq, hulR_sp]
  refine Ok.neg (by rw [hq1.2]; simp) (Ok.neg (by rw [hq2.2]; simp) (Ok.neg (by rw [e34]; simp) (Ok.neg (by rw [hq5.2]; simp) (Ok.neg (by rw [hq6.2]; simp) (Ok.neg (by dsimp only; omega) (Ok.neg (by dsimp only; omega) ?_))))))
  dsimp only
  rw [decide_eq_false (show ¬ (q5.1.len : Int) ≠ (q6.1.len : Int) by omega)]
  unfold r16_j1
  refine Ok.neg (by simp) ?_
  rw [k1]
  refine r16_l2_ok (by omega) hnr hab.1 hab.2 s1 s2 fun N1 gN1 => ?_
  rw [k3]
  refine r16_l3_ok hhl (hulR_near hnr) hab.1 hab.2 (s3.gr gN1) (s4.gr gN1) fun N2 gN2 => ?_
  rw [k5]
  exact r16_l4_ok (B := H) (x := x) hp hq hv hb (hyM.gr (gN1.trans gN2)) hqb hrl hab.1 hab.2 (s5.gr (gN1.trans gN2)) (s6.gr (gN1.trans gN2)) (c.gr (gN1.trans gN2))
theorem lawCall16 (H : Hp) (xs : List AV) (_ : NoOwn H) (h : RdAs H [.sl (.pair (.int .i64) (.pair (.int .i64) (.pair (.int .i64) .unit))), .int .i64, .int .i64, .pair (.pair (.int .i64) (.pair (.int .i64) .unit)) (.pair (.pair (.int .i64) (.pair (.int .i64) .unit)) .unit)] xs) : ∃ H1, CallSim Try.prog 16 xs H (.bool true) H1 := by
  obtain ⟨x, _, rfl, hx, z, _, rfl, hz, w, _, rfl, hw, y, _, rfl, hy, rfl⟩ := h
  obtain ⟨v, l, rfl, hv, hb⟩ := rd_sl (enc_pair enc_int (enc_pair enc_int (enc_unit enc_int))) hx
  obtain ⟨n, hn, _⟩ := hz
  injection hn with hn
  subst hn
  obtain ⟨m, hm, _⟩ := hw
  injection hm with hm
  subst hm
  obtain ⟨zs, rfl, hz⟩ : ∃ zs, y = .agg zs ∧ Rd H (.pair (.pair (.int .i64) (.pair (.int .i64) .unit)) (.pair (.pair (.int .i64) (.pair (.int .i64) .unit)) .unit)) zs := hy
  obtain ⟨⟨⟨a, b⟩, c, d⟩, rfl⟩ := (enc_pair (enc_pair enc_int (enc_unit enc_int)) (enc_unit (enc_pair enc_int (enc_unit enc_int)))).2 H zs hz
  obtain ⟨r, H1, h1, rfl⟩ := movedLaw hv (by unfold maxLen at hb; omega) n m ((a, b), (c, d))
  exact ⟨H1, sim16 (happ := appASim 20) h1⟩
end Go.Lt.P2
