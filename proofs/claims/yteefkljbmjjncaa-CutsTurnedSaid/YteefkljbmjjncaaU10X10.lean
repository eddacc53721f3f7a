/- PLAIN LAWS OF WHAT IS COMPUTED, for the statement 'CutsTurned'. Nothing is asked of the input. -/
import Derived.Test.YteefkljbmjjncaaU10XTn
import Derived.Test.YteefkljbmjjncaaU10XTk
import Derived.Test.YteefkljbmjjncaaLB
set_option linter.unusedVariables false
set_option linter.unusedSimpArgs false
namespace Go.Lt.P2
open Go Go.Lt Go.Proofs
theorem clone10 {H : Hp} {v : Sl} {l : List Sd} (hv : SL H v l) (hb : l.length ≤ 1000) : Ok (r49 v H) fun w H' => Gr H H' ∧ SL H' w l := by
  show Ok (cloneR 3 v H) _
  exact Ok.mono (clone_ok hv (by omega) rfl) fun w H' h => ⟨h.1, h.2.1⟩
theorem tn4 (s : Sd) : tn (tn (tn (tn s))) = s := by
  unfold tn
  dsimp only
  simp
def nx (x : Pa) : Pa := ((w64 (0 - x.2.1), x.2.2), x.1)
section
variable {v1 v3 : Sl} {xb : Nat} {B H : Hp} {p : List Sd} {x : Pa}
theorem r10_l3_ok {v4 : Sl} (hp : plateP p) (hvp : SL B v1 p) (hb : p.length < 9223372036854775808) (hr : -9223372036854775808 ≤ x.2.1 ∧ x.2.1 < 9223372036854775808) (h3 : SL H v3 (p.map tn)) (h4 : SL H v4 (p.map tn)) (c : Cx B H [(xb, [.int .i64 x.1.1, .int .i64 x.1.2, .int .i64 x.2.1, .int .i64 x.2.2])]) :
    Ok (r10_l3 (appA 20) FUEL v1 xb v3 v4 0 H) fun r _ => r = true := by
  have awkt : ∀ (X : Hp), Ok ((appA 20 21 [] X).bind fun p => (p.1.asB).bind fun x => some (x, p.2)) fun r _ => r = true := fun X => Ok.ld (awk 20 _) (Ok.ld rfl (Ok.ret rfl))
  have h6 := hp.1.2
  refine Ok.loop (L := fun K (s : Sl × Int) H2 => r10_l3 (appA 20) K v1 xb v3 s.1 s.2 H2) (fun m s H' => Gr H H' ∧ Cx B H' [(xb, [.int .i64 x.1.1, .int .i64 x.1.2, .int .i64 x.2.1, .int .i64 x.2.2])] ∧ ∃ i : Nat, s.2 = i ∧ i + m = 3 ∧ ∃ l, SL H' s.1 l ∧ plateP l ∧ l.length ≤ 6 ∧ l = (p.map tn).map (fun t => Nat.repeat tn i t)) ?_ FUEL 3 (v4, 0) H (by unfold FUEL; omega) ⟨.refl _, c, 0, rfl, rfl, _, h4, plate_tn hp, by rw [List.length_map]; omega, by simp [Nat.repeat]⟩
  rintro K m ⟨w, s⟩ H1 ⟨g1, c, i, rfl, hm, l, hl, hpl, hll, rfl⟩ ih
  try dsimp only at *
  rw [r10_l3]
  by_cases h : i < 3
  · refine Ok.pos (by omega) (Ok.bind (r34_ok (k := 19) hl (by omega)) fun r E ⟨gE, hr⟩ => ?_)
    rw [if_pos hpl] at hr
    refine Ok.neg (by rw [hr.2]; simp) ?_
    rw [w64_succ (by omega)]
    refine ih (m - 1) (r.1, _) E (by omega) ⟨g1.trans gE, c.gr gE, i + 1, rfl, by omega, _, hr.1, plate_tn hpl, by rw [List.length_map]; exact hll, ?_⟩
    rw [List.map_map]
    rfl
  · have hi : i = 3 := by omega
    subst hi
    have el : (p.map tn).map (fun t => Nat.repeat tn 3 t) = p := by
      rw [List.map_map]
      conv => rhs; rw [← List.map_id p]
      refine List.map_congr_left fun s _ => ?_
      exact tn4 s
    rw [el] at hl
    refine Ok.neg (by omega) (Ok.bind (r36_ok hl (by omega)) fun o E ⟨gE, ho⟩ => ?_)
    have c := c.gr gE
    refine Ok.bind (r35_ok ho (hvp.gr c.g) (by omega)) fun e F ⟨hF, he⟩ => ?_
    subst hF he
    rw [decide_eq_true rfl]
    have c0 := c
    refine Ok.pos rfl (Ok.bind (r18_ok (hvp.gr c.g) hb) fun w5 G ⟨gG, hw5⟩ => ?_)
    have c := c.gr gG
    rw [plate_eq hp] at hw5
    refine Ok.cld c (.head _) rfl (Ok.cld c (.head _) rfl (Ok.cld c (.head _) rfl (Ok.cld c (.head _) rfl (Ok.bind (r17_ok (k := 16) (x := x) hw5 (by omega)) fun r1 I ⟨gI, ha1, ha2⟩ => ?_))))
    have c := c.gr gI
    refine Ok.cck c0 (.head _) rfl (Ok.cck c0 (.head _) rfl (Ok.cck c0 (.head _) rfl (Ok.cck c0 (.head _) rfl ?_)))
    have h3I := h3.gr (g1.trans (gE.trans (gG.trans gI)))
    refine Ok.cld c (.head _) rfl (Ok.cld c (.head _) rfl (Ok.cld c (.head _) rfl (Ok.cld c (.head _) rfl (Ok.bind (r17_ok (k := 16) (x := nx x) h3I (by rw [List.length_map]; omega)) fun r2 J ⟨gJ, hb1, hb2⟩ => ?_))))
    have c := c.gr gJ
    refine Ok.cld c (.head _) rfl (Ok.cld c (.head _) rfl (Ok.cld c (.head _) rfl (Ok.cld c (.head _) rfl (Ok.own r20_ok fun _ => ?_))))
    have hq := plate_tn hp
    have hpt : ptP (nx x) ↔ ptP x := by
      unfold ptP frP nx
      dsimp only
      by_cases hsm : -10000 ≤ x.2.1 ∧ x.2.1 ≤ 10000
      · have e : w64 (0 - x.2.1) = -x.2.1 := by rw [w64_id (by omega) (by omega)]; omega
        rw [e, Int.natAbs_neg]
        omega
      · have hw : ¬ (-10000 ≤ w64 (0 - x.2.1) ∧ w64 (0 - x.2.1) ≤ 10000) := by
          by_cases hmin : x.2.1 = -9223372036854775808
          · rw [hmin]; decide
          · rw [w64_id (by omega) (by omega)]; omega
        omega
    by_cases hx : ptP x
    · rw [decide_eq_true hx]
      have a1 := ha1 ⟨hp, hx⟩
      have b1 := hb1 ⟨hq, hpt.2 hx⟩
      have hx' := hx
      unfold ptP frP at hx'
      have epq : paq (nx x) = rt (paq x) := by
        unfold paq nx rt
        dsimp only
        rw [w64_id (by omega) (by omega), Int.zero_sub]
        refine Prod.ext ?_ rfl
        dsimp only
        unfold dv
        rw [Rat.intCast_neg]
        grind
      rw [epq, inP_tn, rnd_tn, ← a1.1] at b1
      refine Ok.pos rfl (Ok.pos a1.2 (Ok.pos b1.2 (Ok.pos ?_ (awkt _))))
      rw [beq_iff_eq]
      exact Bool.eq_iff_iff.2 b1.1.symm
    · rw [decide_eq_false hx]
      have a2 := ha2 fun q => hx q.2
      have b2 := hb2 fun q => hx (hpt.1 q.2)
      subst a2 b2
      exact Ok.neg (by simp) (Ok.pos rfl (Ok.pos rfl (awkt _)))
theorem r10_l2_ok {v4 v5 : Sl} (hp : plateP p) (hvp : SL B v1 p) (hb : p.length < 9223372036854775808) (hr : -9223372036854775808 ≤ x.2.1 ∧ x.2.1 < 9223372036854775808) (h3 : SL H v3 (p.map tn)) (h4 : SL H v4 (pts (p.map tn))) (h5 : SL H v5 (pts p)) (c : Cx B H [(xb, [.int .i64 x.1.1, .int .i64 x.1.2, .int .i64 x.2.1, .int .i64 x.2.2])]) :
    Ok (r10_l2 (appA 20) FUEL v1 xb v3 v4 v5 (pts p).length 0 H) fun r _ => r = true := by
  have hn := pts_near hp.2.1
  have hpl := pts_len hp.2.1
  have hpl2 := pts_len (plate_tn hp).2.1
  have h5l := h5.len
  refine Ok.loop (L := fun K (s : Int) H2 => r10_l2 (appA 20) K v1 xb v3 v4 v5 (pts p).length s H2) (fun m s H' => Gr H H' ∧ Cx B H' [(xb, [.int .i64 x.1.1, .int .i64 x.1.2, .int .i64 x.2.1, .int .i64 x.2.2])] ∧ ∃ i : Nat, s = i ∧ i + m = (pts p).length) ?_ FUEL (pts p).length 0 H (by unfold FUEL; omega) ⟨.refl _, c, 0, rfl, by omega⟩
  rintro K m s H1 ⟨g1, c, i, rfl, hm⟩ ih
  try dsimp only at *
  rw [r10_l2]
  by_cases h : i < (pts p).length
  · have hg := h5.gr g1
    have mi := List.getElem_mem h
    have hni := hn _ mi
    have ht := mem_tn hp mi
    have l0 := hg.ldI (i := i) (j := 0) h rfl
    have l1 := hg.ldI (i := i) (j := 1) h rfl
    generalize (pts p)[i] = y at *
    unfold near3 at hni
    refine Ok.pos (by omega) (Ok.ck (by omega) (Ok.ld l0 (Ok.ld l1 (Ok.alo c fun E gE c => Ok.cld c (.head _) rfl (Ok.cld c (.head _) rfl ?_)))))
    rw [w64_id (n := 0 - y.2) (by omega) (by omega), Int.zero_sub]
    refine Ok.alo c fun F gF c => Ok.cld c (.head _) rfl (Ok.cld c (.head _) rfl ?_)
    have gEF := gE.trans gF
    refine Ok.bind (r43_ok (k := 19) (x := ri y) (h4.gr (g1.trans gEF)) (by omega) (pts_plt _) ht) fun r G ⟨gG, hr2⟩ => ?_
    rw [w64_succ (by omega)]
    exact Ok.pos hr2 (ih (m - 1) _ G (by omega) ⟨g1.trans (gEF.trans gG), (c.gr gG).weak (.cons _ (.cons _ (.refl _))), i + 1, rfl, by omega⟩)
  · have h3' := h3.gr g1
    refine Ok.neg (by omega) (Ok.bind (clone10 h3' (by rw [List.length_map]; have := hp.1.2; omega)) fun w E ⟨gE, hw⟩ => ?_)
    exact r10_l3_ok hp hvp hb hr (h3'.gr gE) hw (c.gr gE)
end
theorem turnedLaw {H : Hp} {v : Sl} {p : List Sd} (hv : SL H v p) (hb : p.length < 9223372036854775808) (x : Pa) (hr : -9223372036854775808 ≤ x.2.1 ∧ x.2.1 < 9223372036854775808) : Ok (r10 (appA 20) v x.1.1 x.1.2 x.2.1 x.2.2 H) fun r _ => r = true := by
  unfold r10
  have l1 : (p.take 9).length ≤ 1000 := by rw [List.length_take]; omega
  have awkt : ∀ (X : Hp), Ok ((appA 20 21 [] X).bind fun p => (p.1.asB).bind fun x => some (x, p.2)) fun r _ => r = true := fun X => Ok.ld (awk 20 _) (Ok.ld rfl (Ok.ret rfl))
  refine Ok.box (.nil H) fun A gA c => Ok.bind (r18_ok (hv.gr gA) hb) fun w B ⟨gB, hw⟩ => Ok.bind (r34_ok (k := 19) hw l1) fun y C ⟨gC, hy⟩ => ?_
  have c := (c.gr gB).gr gC
  by_cases hp : plateP p
  case neg =>
    rw [if_neg (fun q => hp (plate_take.1 q))] at hy
    subst hy
    unfold r10_j0
    exact Ok.pos (by simp) (Ok.pos rfl (Ok.pos rfl (awkt _)))
  have h6 := hp.1.2
  rw [plate_eq hp, if_pos hp] at hy
  have hq := plate_tn hp
  have hql : (p.map tn).length ≤ 1000 := by rw [List.length_map]; omega
  refine Ok.neg (by rw [hy.2]; simp) (Ok.bind (r19_ok (hv.gr c.g)) fun z D ⟨gD, hz⟩ => ?_)
  subst hz
  rw [decide_eq_true hp]
  have c := c.gr gD
  have hyD := hy.1.gr gD
  unfold r10_j0
  refine Ok.neg (by simp) (Ok.bind (r36_ok hyD hql) fun o E ⟨gE, ho⟩ => Ok.bind (r19_ok ho) fun z F ⟨gF, hz⟩ => ?_)
  subst hz
  rw [decide_eq_true hq]
  have c := (c.gr gE).gr gF
  have hyF := hyD.gr (gE.trans gF)
  refine Ok.pos rfl (Ok.bind (r18_ok (hv.gr c.g) hb) fun w1 I1 ⟨g1, hw1⟩ => ?_)
  have c := c.gr g1
  rw [plate_eq hp] at hw1
  refine Ok.bind (r40_ok (k := 18) hw1 (by omega)) fun q1 I2 ⟨g2, hq1⟩ => ?_
  rw [if_pos hp] at hq1
  have c := c.gr g2
  refine Ok.bind (clone10 (hyF.gr (g1.trans g2)) hql) fun w2 I3 ⟨g3, hw2⟩ => Ok.bind (r40_ok (k := 18) hw2 hql) fun q2 I4 ⟨g4, hq2⟩ => ?_
  rw [if_pos hq] at hq2
  have c := (c.gr g3).gr g4
  have s1 := (AccL.sl hq1.1).gr (g3.trans g4)
  have s2 := AccL.sl hq2.1
  have k1 := s1.len
  have k2 := s2.len
  rw [len_tn hp] at k2
  refine Ok.neg (by rw [hq1.2]; simp) (Ok.neg (by rw [hq2.2]; simp) ?_)
  dsimp only
  rw [decide_eq_false (show ¬ (q1.1.len : Int) ≠ (q2.1.len : Int) by omega)]
  unfold r10_j1
  refine Ok.neg (by simp) ?_
  rw [k1]
  exact r10_l2_ok (B := H) (x := x) hp hv hb hr (hyF.gr (g1.trans (g2.trans (g3.trans g4)))) s2 s1 c
theorem lawCall10 (H : Hp) (xs : List AV) (_ : NoOwn H) (h : RdAs H [.sl (.pair (.int .i64) (.pair (.int .i64) (.pair (.int .i64) .unit))), .pair (.pair (.int .i64) (.pair (.int .i64) .unit)) (.pair (.pair (.int .i64) (.pair (.int .i64) .unit)) .unit)] xs) : ∃ H1, CallSim Try.prog 10 xs H (.bool true) H1 := by
  obtain ⟨x, _, rfl, hx, y, _, rfl, hy, rfl⟩ := h
  obtain ⟨v, l, rfl, hv, hb⟩ := rd_sl (enc_pair enc_int (enc_pair enc_int (enc_unit enc_int))) hx
  obtain ⟨zs, rfl, hz⟩ : ∃ zs, y = .agg zs ∧ Rd H (.pair (.pair (.int .i64) (.pair (.int .i64) .unit)) (.pair (.pair (.int .i64) (.pair (.int .i64) .unit)) .unit)) zs := hy
  obtain ⟨_, _, rfl, ⟨_, _, rfl, ⟨a, rfl, _⟩, _, _, rfl, ⟨b, rfl, _⟩, rfl⟩, _, _, rfl, ⟨_, _, rfl, ⟨c, rfl, hc⟩, _, _, rfl, ⟨d, rfl, _⟩, rfl⟩, rfl⟩ := hz
  have hc' : -9223372036854775808 ≤ c ∧ c < 9223372036854775808 := by
    simp only [Lit.wf, Bool.and_eq_true, decide_eq_true_eq, IntKind.min, IntKind.max, IntKind.signed, IntKind.bits, if_true] at hc
    omega
  obtain ⟨r, H1, h1, rfl⟩ := turnedLaw hv (by unfold maxLen at hb; omega) ((a, b), (c, d)) hc'
  exact ⟨H1, sim10 (happ := appASim 20) h1⟩
end Go.Lt.P2
