/- PLAIN LAWS OF WHAT IS COMPUTED, for the statement 'DealsRules'. Nothing is asked of the input. -/
import Derived.Test.YtficeemoekikdaaDoorU3VPt
import Derived.Test.YtficeemoekikdaaDoorU3VDl
set_option linter.unusedVariables false
set_option linter.unusedSimpArgs false
namespace Go.Lt.P5
open Go Go.Lt Go.Proofs
theorem candG_tb {o p : Pr} (ho : num o) (hp : num p) : ∀ t ∈ candG o p, tb t := by
  intro t ht
  unfold candG at ht
  split at ht
  · rw [List.mem_singleton] at ht
    subst ht
    unfold num at ho hp
    have b1 := mul_bd (A := 30) (B := 30) (x := o.2 - p.2) (y := o.1) (by omega) (by omega) (by omega) (by omega)
    have b2 := mul_bd (A := 30) (B := 30) (x := p.1 - o.1) (y := o.2) (by omega) (by omega) (by omega) (by omega)
    unfold tb
    dsimp only
    omega
  · cases ht
theorem cands_tb {l : List Pr} (h : ∀ x ∈ l, num x) : ∀ t ∈ cands l, tb t := by
  intro t ht
  unfold cands at ht
  obtain ⟨o, ho, ht⟩ := List.mem_flatMap.1 ht
  have hn := h o ho
  unfold candF at ht
  rcases List.mem_cons.1 ht with rfl | ht
  · unfold num at hn; unfold tb; dsimp only; omega
  · rcases List.mem_cons.1 ht with rfl | ht
    · unfold num at hn; unfold tb; dsimp only; omega
    · obtain ⟨p, hp, ht⟩ := List.mem_flatMap.1 ht
      exact candG_tb hn (h p hp) t ht
section
variable {Q : Sl → Hp → Prop}
theorem r48_l1_ok {n0 H : Hp} {v w z : Sl} {l : List Pr} {L : List Tr} {pb : Nat} {o : Pr} {iv : Int} {vv : Sl} {ln : Int} (hv : SL n0 v l) (hl8 : l.length ≤ 8) (hn : ∀ x ∈ l, num x) (ho : num o) (hL : L.length ≤ 1000) (g : Gr n0 H) (ha : AccL n0.n H w L) (hp : H.get pb = some (.cells [.int .i64 o.1, .int .i64 o.2] false))
    {kt0 : Sl → Sl → Sl → Sl → Int → Int → Hp → Option (Sl × Hp)} (k : ∀ w' H', AccL n0.n H' w' (L ++ l.flatMap (candG o)) → Gr n0 H' → (L ++ l.flatMap (candG o)).length ≤ L.length + l.length → Ok (kt0 v w' z vv ln (w64 (iv + 1)) H') Q) : Ok (r48_l1 kt0 FUEL v w z pb vv ln iv v l.length 0 H) Q := by
  have hlen := hv.len
  refine Ok.loop (L := fun K (s : Sl × Int) H2 => r48_l1 kt0 K v s.1 z pb vv ln iv v l.length s.2 H2) (fun m s H' => ∃ i : Nat, s.2 = i ∧ i + m = l.length ∧ Gr n0 H' ∧ H'.get pb = some (.cells [.int .i64 o.1, .int .i64 o.2] false) ∧ AccL n0.n H' s.1 (L ++ (l.take i).flatMap (candG o)) ∧ (L ++ (l.take i).flatMap (candG o)).length ≤ L.length + i) ?_ FUEL l.length (w, 0) H (by unfold FUEL; omega) ⟨0, rfl, by omega, g, hp, by simpa using ha, by simp⟩
  rintro K m ⟨u, s⟩ H2 ⟨i, rfl, hm, g2, hp2, ha2, hle⟩ ih
  try dsimp only at *
  rw [r48_l1]
  by_cases h : i < l.length
  · have hg := hv.gr g2
    have hx := hn _ (List.getElem_mem h)
    obtain ⟨E, hE, hE', gE, nE⟩ := sts2 H2 (.int .i64 l[i].1) (.int .i64 l[i].2) (.int .i64 0) (.int .i64 0)
    have hpE : E.get pb = some (.cells [.int .i64 o.1, .int .i64 o.2] false) := by rw [gE.2 _ (Hp.get_lt hp2)]; exact hp2
    have gB := g2.trans gE
    have el : (l.take (i + 1)).flatMap (candG o) = (l.take i).flatMap (candG o) ++ candG o l[i] := by rw [List.take_succ_eq_append_getElem h, List.flatMap_append]; simp
    have off : ¬ (o.1 < l[i].1 ∧ l[i].2 < o.2) → Ok (r48_j3 (fun v1_ v2_ v3_ v4_ v5_ v6_ v7_ v8_ v9_ v10_ H_ => r48_l1 kt0 K v1_ v2_ v3_ v4_ v5_ v6_ v7_ v8_ v9_ v10_ H_) v u z pb H2.n vv ln iv v l.length i false E) Q := fun hno => by
      unfold r48_j3
      refine Ok.neg (by simp) ?_
      rw [w64_succ (by omega)]
      have : candG o l[i] = [] := by unfold candG; rw [if_neg hno]
      exact ih (m - 1) (u, _) E (by omega) ⟨i + 1, rfl, by omega, gB, hpE, by rw [el, this, List.append_nil]; exact ha2.gr gE, by rw [el, this, List.append_nil]; omega⟩
    refine Ok.pos (by omega) (Ok.ck (by omega) (Ok.ld (hg.ldI (i := i) (j := 0) h rfl) (Ok.ld (hg.ldI (i := i) (j := 1) h rfl) (Ok.ld hE (Ok.ld (ldI_get hE' rfl) (Ok.ld (ldI_get hpE rfl) ?_))))))
    refine Ok.ite (fun c1 => Ok.ld (ldI_get hE' rfl) (Ok.ld (ldI_get hpE rfl) ?_)) fun c1 => off (fun c => c1 c.1)
    by_cases c2 : l[i].2 < o.2
    · rw [decide_eq_true c2]
      unfold r48_j3
      refine Ok.pos rfl (Ok.ld (ldI_get hpE rfl) (Ok.ld (ldI_get hE' rfl) (Ok.ld (ldI_get hE' rfl) (Ok.ld (ldI_get hpE rfl) (Ok.ld (ldI_get hpE rfl) (Ok.ld (ldI_get hE' rfl) (Ok.ld (ldI_get hpE rfl) (Ok.ld (ldI_get hE' rfl) (Ok.ld (ldI_get hpE rfl) (Ok.ld (ldI_get hpE rfl) ?_))))))))))
      unfold num at ho hx
      have b1 := mul_bd (A := 30) (B := 30) (x := o.2 - l[i].2) (y := o.1) (by omega) (by omega) (by omega) (by omega)
      have b2 := mul_bd (A := 30) (B := 30) (x := l[i].1 - o.1) (y := o.2) (by omega) (by omega) (by omega) (by omega)
      rw [w64_id (n := o.2 - l[i].2) (by omega) (by omega), w64_id (n := l[i].1 - o.1) (by omega) (by omega), w64_id (n := (o.2 - l[i].2) * o.1) (by omega) (by omega), w64_id (n := (l[i].1 - o.1) * o.2) (by omega) (by omega), w64_id (by omega) (by omega)]
      have : candG o l[i] = [(o.2 - l[i].2, l[i].1 - o.1, (o.2 - l[i].2) * o.1 + (l[i].1 - o.1) * o.2)] := by unfold candG; rw [if_pos ⟨c1, c2⟩]
      refine Ok.bind ((ha2.gr gE).push gB (o.2 - l[i].2, l[i].1 - o.1, (o.2 - l[i].2) * o.1 + (l[i].1 - o.1) * o.2) rfl rfl (by omega)) fun u2 H3 ⟨ha3, g3, bt, _⟩ => ?_
      rw [w64_succ (by omega)]
      refine ih (m - 1) (u2, _) H3 (by omega) ⟨i + 1, rfl, by omega, g3, ?_, by rw [el, this, ← List.append_assoc]; exact ha3, by rw [el, this, ← List.append_assoc, List.length_append]; simp only [List.length_singleton]; omega⟩
      rw [bt.2 _ (Hp.get_lt hpE) ?_]
      · exact hpE
      · intro hnu e
        have h1 := ha2.gr gE
        unfold AccL at h1
        rcases h1 with ⟨rfl, _⟩ | ⟨_, _, _, _, _, h6, _⟩
        · simp [nilS] at hnu
        · rw [← e, hpE] at h6
          injection h6 with h6
          injection h6 with h6
          have q1 := congrArg List.length h6
          rw [encs_len] at q1
          have q2 : El.sz Tr = 3 := rfl
          rw [q2] at q1
          simp only [List.length_cons, List.length_nil] at q1
          omega
    · rw [decide_eq_false c2]
      exact off (fun c => c2 c.2)
  · rw [List.take_of_length_le (by omega)] at ha2 hle
    exact Ok.neg (by omega) (k u H2 ha2 g2 (by omega))
theorem r48_l4_ok {n0 H : Hp} {v w vv : Sl} {l : List Pr} {L : List Tr} {pb : Nat} {t : Tr} {ln iv : Int} (hv : SL n0 v l) (hl8 : l.length ≤ 8) (hn : ∀ x ∈ l, num x) (ht : tb t) (hL : L.length ≤ 1000) (g : Gr n0 H) (ha : AccL n0.n H w L) (hp : H.get pb = some (.cells [.int .i64 t.1, .int .i64 t.2.1, .int .i64 t.2.2] false))
    {kt2 : Sl → Sl → Sl → Int → Int → Hp → Option (Sl × Hp)} (k : ∀ w' H', AccL n0.n H' w' (L ++ [t].filter fun t => decide (keeps l t)) → Gr n0 H' → Ok (kt2 v w' vv ln (w64 (iv + 1)) H') Q) : Ok (r48_l4 kt2 FUEL v w pb true vv ln iv v l.length 0 H) Q := by
  have hlen := hv.len
  refine Ok.loop (L := fun K (s : Bool × Int) H2 => r48_l4 kt2 K v w pb s.1 vv ln iv v l.length s.2 H2) (fun m s H' => ∃ i : Nat, s.2 = i ∧ i + m = l.length ∧ Gr n0 H' ∧ AccL n0.n H' w L ∧ H'.get pb = some (.cells [.int .i64 t.1, .int .i64 t.2.1, .int .i64 t.2.2] false) ∧ s.1 = decide (keeps (l.take i) t)) ?_ FUEL l.length (true, 0) H (by unfold FUEL; omega) ⟨0, rfl, by omega, g, ha, hp, by simp [keeps]⟩
  rintro K m ⟨b, s⟩ H2 ⟨i, rfl, hm, g2, ha2, hp2, hb⟩ ih
  try dsimp only at *
  subst hb
  rw [r48_l4]
  by_cases h : i < l.length
  · have hg := hv.gr g2
    have hx := hn _ (List.getElem_mem h)
    obtain ⟨E, hE, hE', gE, nE⟩ := sts2 H2 (.int .i64 l[i].1) (.int .i64 l[i].2) (.int .i64 0) (.int .i64 0)
    have hpE : E.get pb = some (.cells [.int .i64 t.1, .int .i64 t.2.1, .int .i64 t.2.2] false) := by rw [gE.2 _ (Hp.get_lt hp2)]; exact hp2
    have gB := g2.trans gE
    have ek : keeps (l.take (i + 1)) t ↔ keeps (l.take i) t ∧ t.1 * l[i].1 + t.2.1 * l[i].2 ≤ t.2.2 := by
      unfold keeps
      rw [List.take_succ_eq_append_getElem h]
      constructor
      · intro f; exact ⟨fun o ho => f o (List.mem_append_left _ ho), f _ (List.mem_append_right _ (List.mem_singleton.2 rfl))⟩
      · rintro ⟨f1, f2⟩ o ho
        rcases List.mem_append.1 ho with ho | ho
        · exact f1 o ho
        · rw [List.mem_singleton] at ho; subst ho; exact f2
    refine Ok.pos (by omega) (Ok.ck (by omega) (Ok.ld (hg.ldI (i := i) (j := 0) h rfl) (Ok.ld (hg.ldI (i := i) (j := 1) h rfl) (Ok.ld hE ?_))))
    by_cases hk : keeps (l.take i) t
    · rw [decide_eq_true hk]
      refine Ok.pos rfl (Ok.ld (ldI_get hpE rfl) (Ok.ld (ldI_get hE' rfl) (Ok.ld (ldI_get hpE rfl) (Ok.ld (ldI_get hE' rfl) (Ok.ld (ldI_get hpE rfl) ?_)))))
      unfold num at hx
      obtain ⟨a1, a2, a3, a4, a5, a6⟩ := ht
      have b1 := mul_bd (A := 30) (B := 30) (x := t.1) (y := l[i].1) (by omega) (by omega) (by omega) (by omega)
      have b2 := mul_bd (A := 30) (B := 30) (x := t.2.1) (y := l[i].2) (by omega) (by omega) (by omega) (by omega)
      rw [w64_id (n := t.1 * l[i].1) (by omega) (by omega), w64_id (n := t.2.1 * l[i].2) (by omega) (by omega), w64_id (by omega) (by omega), w64_succ (by omega)]
      exact ih (m - 1) (_, _) E (by omega) ⟨i + 1, rfl, by omega, gB, ha2.gr gE, hpE, decide_eq_decide.2 (by rw [ek]; exact ⟨fun c => ⟨hk, c⟩, fun c => c.2⟩)⟩
    · rw [decide_eq_false hk]
      refine Ok.neg (by simp) ?_
      rw [w64_succ (by omega)]
      exact ih (m - 1) (_, _) E (by omega) ⟨i + 1, rfl, by omega, gB, ha2.gr gE, hpE, (decide_eq_false (fun c => hk (ek.1 c).1)).symm⟩
  · rw [List.take_of_length_le (by omega)]
    refine Ok.neg (by omega) ?_
    by_cases hk : keeps l t
    · rw [decide_eq_true hk]
      refine Ok.pos rfl (Ok.ld (ldI_get hp2 rfl) (Ok.ld (ldI_get hp2 rfl) (Ok.ld (ldI_get hp2 rfl) (Ok.bind (ha2.push g2 t rfl rfl (by omega)) fun u2 H3 ⟨ha3, g3, _⟩ => ?_))))
      exact k u2 H3 (by simpa [hk] using ha3) g3
    · rw [decide_eq_false hk]
      exact Ok.neg (by simp) (k w H2 (by simpa [hk] using ha2) g2)
end
theorem r48_ok {H : Hp} {v : Sl} {l : List Pr} (hv : SL H v l) (ho : offP l) : Ok (r48 v H) fun w H' => Gr H H' ∧ SL H' w (limits l) ∧ (limits l).length ≤ 1000 := by
  unfold r48
  have hlen := hv.len
  have hl8 := ho.2.1
  rw [hlen]
  refine Ok.loop (L := fun K (s : Sl × Int) H2 => r48_l0 K v s.1 ⟨true, 0, 0, 0, 0, 0⟩ v l.length s.2 H2) (fun m s H' => ∃ i : Nat, s.2 = i ∧ i + m = l.length ∧ Gr H H' ∧ AccL H.n H' s.1 ((l.take i).flatMap (candF l)) ∧ ((l.take i).flatMap (candF l)).length ≤ 10 * i) ?_ FUEL l.length (⟨true, 0, 0, 0, 0, 0⟩, 0) H (by unfold FUEL; omega) ⟨0, rfl, by omega, .refl _, by simpa using AccL.nilS, by simp⟩
  rintro K m ⟨u, s⟩ H1 ⟨i, rfl, hm, g1, ha, hle⟩ ih
  try dsimp only at *
  rw [r48_l0]
  by_cases h : i < l.length
  · have hg := hv.gr g1
    have hx := ho.2.2.1 _ (List.getElem_mem h)
    obtain ⟨E, hE, hE', gE, nE⟩ := sts2 H1 (.int .i64 l[i].1) (.int .i64 l[i].2) (.int .i64 0) (.int .i64 0)
    have gB := g1.trans gE
    refine Ok.pos (by omega) (Ok.ck (by omega) (Ok.ld (hg.ldI (i := i) (j := 0) h rfl) (Ok.ld (hg.ldI (i := i) (j := 1) h rfl) (Ok.ld hE (Ok.ld (ldI_get hE' rfl) (Ok.ld (ldI_get hE' rfl) ?_))))))
    refine Ok.bind ((ha.gr gE).app gB [((1 : Int), (0 : Int), l[i].1), ((0 : Int), (1 : Int), l[i].2)] rfl rfl rfl (by simp only [List.length_cons, List.length_nil]; omega)) fun u2 H2 ⟨ha2, g2, bt, _⟩ => ?_
    have hp2 : H2.get H1.n = some (.cells [.int .i64 l[i].1, .int .i64 l[i].2] false) := by
      rw [bt.2 _ (Hp.get_lt hE') ?_]
      · exact hE'
      · intro hnu e
        unfold AccL at ha
        rcases ha with ⟨rfl, _⟩ | ⟨_, _, _, _, _, h6, _⟩
        · simp [nilS] at hnu
        · have := Hp.get_lt h6
          omega
    dsimp only
    rw [hlen]
    refine r48_l1_ok (n0 := H) hv hl8 ho.2.2.1 hx (by simp only [List.length_append, List.length_cons, List.length_nil]; omega) g2 ha2 hp2 fun w' H3 ha3 g3 hle3 => ?_
    rw [w64_succ (by omega)]
    have el : (l.take (i + 1)).flatMap (candF l) = (l.take i).flatMap (candF l) ++ [((1 : Int), (0 : Int), l[i].1), ((0 : Int), (1 : Int), l[i].2)] ++ l.flatMap (candG l[i]) := by
      rw [List.take_succ_eq_append_getElem h, List.flatMap_append]
      simp [candF]
    refine ih (m - 1) (w', _) H3 (by omega) ⟨i + 1, rfl, by omega, g3, by rw [el]; exact ha3, ?_⟩
    rw [el]
    simp only [List.length_append, List.length_cons, List.length_nil] at hle3 ⊢
    omega
  · rw [List.take_of_length_le (by omega)] at ha hle
    refine Ok.neg (by omega) ?_
    have hc : SL H1 u (cands l) := ha.sl
    have hcl := hc.len
    have hcb : (cands l).length ≤ 80 := by unfold cands; omega
    rw [hcl]
    have htb := cands_tb ho.2.2.1
    have hv1 := hv.gr g1
    unfold limits
    generalize cands l = C at *
    refine Ok.loop (L := fun K (s : Sl × Int) H2 => r48_l2 K v s.1 u C.length s.2 H2) (fun m s H' => ∃ i : Nat, s.2 = i ∧ i + m = C.length ∧ Gr H1 H' ∧ AccL H1.n H' s.1 ((C.take i).filter fun t => decide (keeps l t))) ?_ FUEL C.length (⟨true, 0, 0, 0, 0, 0⟩, 0) H1 (by unfold FUEL; omega) ⟨0, rfl, by omega, .refl _, by simpa using AccL.nilS⟩
    rintro K2 m2 ⟨w, s⟩ H2 ⟨j, rfl, hm2, g2, ha2⟩ ih2
    try dsimp only at *
    rw [r48_l2]
    by_cases hj : j < C.length
    · have hg := hc.gr g2
      obtain ⟨E, hE, hE', gE, nE⟩ := sts3 H2 (.int .i64 C[j].1) (.int .i64 C[j].2.1) (.int .i64 C[j].2.2) (.int .i64 0) (.int .i64 0) (.int .i64 0)
      have hfl := List.length_filter_le (fun t => decide (keeps l t)) (C.take j)
      rw [List.length_take] at hfl
      refine Ok.pos (by omega) (Ok.ck (by omega) (Ok.ld (hg.ldI (i := j) (j := 0) hj rfl) (Ok.ld (hg.ldI (i := j) (j := 1) hj rfl) (Ok.ld (hg.ldI (i := j) (j := 2) hj rfl) (Ok.ld hE ?_)))))
      rw [hlen]
      refine r48_l4_ok (n0 := H1) hv1 hl8 ho.2.2.1 (htb _ (List.getElem_mem hj)) (by omega) (g2.trans gE) (ha2.gr gE) hE' fun w' H3 ha3 g3 => ?_
      rw [w64_succ (by omega)]
      refine ih2 (m2 - 1) (w', _) H3 (by omega) ⟨j + 1, rfl, by omega, g3, ?_⟩
      rw [List.take_succ_eq_append_getElem hj, List.filter_append]
      exact ha3
    · rw [List.take_of_length_le (by omega)] at ha2
      exact Ok.neg (by omega) (Ok.ret ⟨g1.trans g2, ha2.sl, Nat.le_trans (List.length_filter_le _ _) (by omega)⟩)
theorem r27_ok {H : Hp} {v : Sl} {l : List Pr} (hv : SL H v l) (ho : offP l) {a b c d : Int} (hx : fr (a, b)) (hy : fr (c, d)) : Ok (r27 v a b c d H) fun r H' => Gr H H' ∧ r = decide (∀ t ∈ limits l, sat t (a, b) (c, d)) := by
  unfold r27
  have gp := Gr.push H (.cells [.int .i64 a, .int .i64 b, .int .i64 c, .int .i64 d] false)
  have g0 : (H.push (.cells [.int .i64 a, .int .i64 b, .int .i64 c, .int .i64 d] false)).get H.n = some (.cells [.int .i64 a, .int .i64 b, .int .i64 c, .int .i64 d] false) := Hp.get_push_new _ _
  generalize H.push (.cells [.int .i64 a, .int .i64 b, .int .i64 c, .int .i64 d] false) = A at *
  refine Ok.lt (Ok.bind (r48_ok (hv.gr gp) ho) fun w H1 ⟨g1, hw, hcb⟩ => ?_)
  have hwl := hw.len
  dsimp only
  rw [hwl]
  refine Ok.mono (r27_l0_ok (x := (a, b)) (y := (c, d)) hw hcb (fun t ht => cands_tb ho.2.2.1 t (List.mem_filter.1 ht).1) hx hy (by rw [g1.2 _ (Hp.get_lt g0)]; exact g0)) fun r H' h => ⟨gp.trans (g1.trans h.1), h.2⟩
end Go.Lt.P5

namespace Go.Lt.P5
open Go Go.Lt Go.Proofs
theorem r32_q {p q : Rat} {N D N' D' : Int} (hp : qb N D p) (hq : qb N' D' q) (h1 : N * D' < 1000000000000000000) (h2 : N' * D < 1000000000000000000) (h3 : D * D' < 1000000000000000000) : Ok (r32 (fq p).1 (fq p).2 (fq q).1 (fq q).2 H0) fun r _ => r = fq (p + q) := by
  have e := fq_add p q
  obtain ⟨a1, a2, a3⟩ := hp
  obtain ⟨k1, k2, k3⟩ := hq
  have ap := fq_pos p
  have kp := fq_pos q
  have b1 := mul_bd (A := N) (B := D') (x := (fq p).1) (y := (fq q).2) a1 a2 (by omega) k3
  have b2 := mul_bd (A := N') (B := D) (x := (fq q).1) (y := (fq p).2) k1 k2 (by omega) a3
  have b3 := mul_bd (A := D) (B := D') (x := (fq p).2) (y := (fq q).2) (by omega) a3 (by omega) k3
  have b4 := Int.mul_pos ap kp
  unfold r32
  refine Ok.lt (Ok.ld rfl (Ok.ld rfl (Ok.ld rfl (Ok.ld rfl (Ok.ld rfl (Ok.ld rfl ?_))))))
  rw [w64_id (n := (fq p).1 * (fq q).2) (by omega) (by omega), w64_id (n := (fq q).1 * (fq p).2) (by omega) (by omega), w64_id (n := (fq p).2 * (fq q).2) (by omega) (by omega), w64_id (by omega) (by omega)]
  refine Ok.own (r33_q (by omega) b4 (by omega) H0) fun X => ?_
  rw [e]
  exact Ok.ld rfl (Ok.ld rfl (Ok.ld rfl (Ok.ret rfl)))
theorem r28_q (a b : Int) (H : Hp) : Ok (r28 a b H) fun r _ => r = (a, 1, b, 1) := by
  unfold r28
  refine Ok.box2 (.nil H) fun A _ c => Ok.cld c (.tail _ (.head _)) rfl (Ok.own (r30_q a H0) fun X => Ok.cld c (.tail _ (.head _)) rfl (Ok.own (r30_q b H0) fun X => ?_))
  exact Ok.cst c 0 rfl rfl fun D _ _ c => Ok.cld c (.head _) rfl (Ok.cld c (.head _) rfl (Ok.cld c (.head _) rfl (Ok.cld c (.head _) rfl (Ok.ret rfl))))
theorem own_id (a b c d : Int) (H : Hp) : Ok (r12 a b c d H) fun r _ => r = (a, b, c, d) := by
  unfold r12
  refine Ok.box2 (.nil H) fun A _ k => Ok.cld k (.tail _ (.head _)) rfl (Ok.cld k (.tail _ (.head _)) rfl (Ok.cld k (.tail _ (.head _)) rfl (Ok.cld k (.tail _ (.head _)) rfl ?_)))
  exact Ok.cst k 0 rfl rfl fun D _ _ k => Ok.cld k (.head _) rfl (Ok.cld k (.head _) rfl (Ok.cld k (.head _) rfl (Ok.cld k (.head _) rfl (Ok.ret rfl))))
theorem limits_lb {l : List Pr} (hn : ∀ o ∈ l, num o) : ∀ t ∈ limits l, lb t := fun t ht => by
  unfold limits cands at ht
  rw [List.mem_filter, List.mem_flatMap] at ht
  obtain ⟨⟨o, ho, ht⟩, _⟩ := ht
  have hno := hn o ho
  unfold num at hno
  unfold candF at ht
  rcases List.mem_cons.1 ht with rfl | ht
  · unfold lb; dsimp only; omega
  rcases List.mem_cons.1 ht with rfl | ht
  · unfold lb; dsimp only; omega
  obtain ⟨p, hp, ht⟩ := List.mem_flatMap.1 ht
  have hnp := hn p hp
  unfold num at hnp
  unfold candG at ht
  split at ht
  · rename_i hc
    rw [List.mem_singleton] at ht
    subst ht
    have b1 := mul_bd (A := 30) (B := 30) (x := o.2 - p.2) (y := o.1) (by omega) (by omega) (by omega) (by omega)
    have b2 := mul_bd (A := 30) (B := 30) (x := p.1 - o.1) (y := o.2) (by omega) (by omega) (by omega) (by omega)
    have b3 : 0 ≤ (o.2 - p.2) * o.1 := Int.mul_nonneg (by omega) (by omega)
    have b4 : 0 ≤ (p.1 - o.1) * o.2 := Int.mul_nonneg (by omega) (by omega)
    unfold lb
    dsimp only
    omega
  · cases ht
theorem sorted_perm {l : List Pr} {H : Hp} {v : Sl} (hv : SL H v l) (ho : offP l) : ∃ q : List Pr, q.Perm l ∧ q.Pairwise lexP := by
  obtain ⟨r, H', _, _, q, h1, h2, _⟩ := r17_ok (k := 17) hv ho
  exact ⟨q, h1, h2⟩
theorem inv_q {q : Rat} (h : 0 < q) : dv (fq q).2 (fq q).1 * q = 1 := by
  have h1 := fq_num_pos.2 h
  have h2 := fq_pos q
  conv => lhs; rhs; rw [← dv_fq q]
  rw [← dv_mul h1 h2, Int.mul_comm (fq q).2]
  have : dv ((fq q).1 * (fq q).2) ((fq q).1 * (fq q).2) = dv 1 1 := (dv_eq_iff (Int.mul_pos h1 h2) (by decide)).2 (by omega)
  rw [this, dv_int]
  rfl
theorem sl_far {H : Hp} {w : Sl} {L : List Tr} (hw : SL H w L) (hpos : 0 < L.length) {b : Nat} {xs : List AV} (h2 : xs.length = 2) (hg : H.get b = some (.cells xs false)) : w.b ≠ b := fun e => by
  have l2 := hw.ldI (i := 0) (j := 2) hpos rfl
  rw [e] at l2
  have : xs[w.o + 0 * El.sz Tr + 2]? = none := List.getElem?_eq_none (by omega)
  have h : H.ld b (w.o + 0 * El.sz Tr + 2) = none := by unfold Hp.ld; rw [hg]; exact this
  unfold Hp.ldI at l2
  rw [h] at l2
  cases l2
section
variable {l : List Pr} {L : List Tr} {d : Pr} {u v : Rat} {N D : Int}
theorem r29_l0_ok {HH H : Hp} {v1 v2 v3 v4 v5 : Nat} {w : Sl} (hL : ∀ x y, (∀ t ∈ L, lq t x y) ↔ reg l x y) (hb : ∀ t ∈ L, lb t) (hlen : L.length ≤ 1000) (hd : num d) (hr : ∀ t ∈ L, 0 ≤ restF t d) (hu : qb 1800 30 u) (hv : qb 1800 30 v) (hu0 : 0 ≤ u) (hv0 : 0 ≤ v)
    (hex : ∃ t ∈ L, perq t u v ≠ 0) (hq : ∀ t ∈ L, ∀ n, 0 < perq t u v → n * perq t u v = (restF t d : Rat) → qb N D n) (hND : N * D < 1000000000000000000)
    (hw : SL H w L) (hwb : w.b ≠ v5) (hwb4 : w.b ≠ v4) (c : Cx HH H [(v5, bst none), (v4, [.int .i64 0, .int .i64 0]), (v3, fc v), (v2, fc u), (v1, [.int .i64 d.1, .int .i64 1, .int .i64 d.2, .int .i64 1])]) :
    Ok (r29_l0 FUEL v1 v2 v3 v4 v5 false w L.length 0 H) fun r H' => Gr HH H' ∧ ∃ m, IsTop l d u v m ∧ qb N D m ∧ r = ((fq m).1, (fq m).2, true) := by
  have hwl := hw.len
  have hnn : ∀ t ∈ L, 0 ≤ perq t u v := fun t ht => perq_nn (hb t ht) hu0 hv0
  refine Ok.loop (L := fun K (s : Bool × Int) H2 => r29_l0 K v1 v2 v3 v4 v5 s.1 w L.length s.2 H2) (fun m s H' => ∃ (i : Nat) (o : Option Rat), s.1 = o.isSome ∧ s.2 = i ∧ i + m = L.length ∧ Cx HH H' [(v5, bst o), (v4, [.int .i64 0, .int .i64 0]), (v3, fc v), (v2, fc u), (v1, [.int .i64 d.1, .int .i64 1, .int .i64 d.2, .int .i64 1])] ∧ SL H' w L ∧ MinSt (L.take i) d u v o ∧ ∀ m, o = some m → qb N D m) ?_ FUEL L.length (false, 0) H (by unfold FUEL; omega) ⟨0, none, rfl, rfl, by omega, c, hw, by simpa using MinSt.nil, fun _ h => by cases h⟩
  rintro K m ⟨s1, s2⟩ H1 ⟨i, o, rfl, rfl, hm, c, hw, hms, hqb⟩ ih
  try dsimp only at *
  rw [r29_l0]
  have hd' := hd
  unfold num at hd'
  by_cases h : i < L.length
  · have hmem : L[i] ∈ L := List.getElem_mem h
    have hlb := hb _ hmem
    have hrm := hr _ hmem
    have hp0 := hnn _ hmem
    have hq1 := hq _ hmem
    have htk := List.take_succ_eq_append_getElem h
    have l0 := hw.ldI (i := i) (j := 0) h rfl
    have l1 := hw.ldI (i := i) (j := 1) h rfl
    have l2 := hw.ldI (i := i) (j := 2) h rfl
    generalize L[i] = t at *
    have hlb' := hlb
    unfold lb at hlb'
    have qt1 : qb 30 1 (t.1 : Rat) := qb_int (by omega) (by omega) (by decide)
    have qt2 : qb 30 1 (t.2.1 : Rat) := qb_int (by omega) (by omega) (by decide)
    have qt3 : qb 1800 1 (t.2.2 : Rat) := qb_int (by omega) (by omega) (by decide)
    have qd1 : qb 30 1 (d.1 : Rat) := qb_int (by omega) (by omega) (by decide)
    have qd2 : qb 30 1 (d.2 : Rat) := qb_int (by omega) (by omega) (by decide)
    refine Ok.pos (by omega) (Ok.ck (by omega) (Ok.ld l0 (Ok.ld l1 (Ok.ld l2 (Ok.alo c fun A gA c => ?_)))))
    refine Ok.cld c (.head _) rfl (Ok.own (r30_q t.1 H0) fun X => Ok.cld c (.tail _ (.tail _ (.tail _ (.tail _ (.head _))))) rfl (Ok.cld c (.tail _ (.tail _ (.tail _ (.tail _ (.head _))))) rfl (Ok.own (r36_q qt1 hu (by decide) (by decide)) fun X => ?_)))
    refine Ok.cld c (.head _) rfl (Ok.own (r30_q t.2.1 H0) fun X => Ok.cld c (.tail _ (.tail _ (.tail _ (.head _)))) rfl (Ok.cld c (.tail _ (.tail _ (.tail _ (.head _)))) rfl (Ok.own (r36_q qt2 hv (by decide) (by decide)) fun X => ?_)))
    have qa := qt1.mul hu
    have qc := qt2.mul hv
    refine Ok.own (r32_q qa qc (by decide) (by decide) (by decide)) fun X => ?_
    have qp := qa.add qc
    have ep : (t.1 : Rat) * u + (t.2.1 : Rat) * v = perq t u v := rfl
    rw [ep] at qp ⊢
    refine Ok.alo c fun B gB c => Ok.cld c (.head _) rfl ?_
    have gAB := gA.trans gB
    refine Ok.ite (fun hz => ?_) fun hz => ?_
    · have hz0 : perq t u v = 0 := by
        have hz : (fq (perq t u v)).1 ≤ 0 := hz
        have : ¬ 0 < perq t u v := fun k => by have := fq_num_pos.2 k; omega
        grind
      rw [w64_succ (by omega)]
      exact ih (m - 1) (o.isSome, _) B (by omega) ⟨i + 1, o, rfl, rfl, by omega, c.weak (.cons _ (.cons _ (.refl _))), hw.gr gAB, by rw [htk]; exact hms.skip hz0, hqb⟩
    have hz : ¬ (fq (perq t u v)).1 ≤ 0 := hz
    have hpos : 0 < perq t u v := fq_num_pos.1 (by omega)
    refine Ok.cld c (.tail _ (.head _)) rfl (Ok.own (r30_q t.2.2 H0) fun X => ?_)
    refine Ok.cld c (.tail _ (.head _)) rfl (Ok.own (r30_q t.1 H0) fun X => Ok.cld c (.tail _ (.tail _ (.tail _ (.tail _ (.tail _ (.tail _ (.head _))))))) rfl (Ok.cld c (.tail _ (.tail _ (.tail _ (.tail _ (.tail _ (.tail _ (.head _))))))) rfl (Ok.own (r36_q (q := (d.1 : Rat)) qt1 qd1 (by decide) (by decide)) fun X => ?_)))
    refine Ok.cld c (.tail _ (.head _)) rfl (Ok.own (r30_q t.2.1 H0) fun X => Ok.cld c (.tail _ (.tail _ (.tail _ (.tail _ (.tail _ (.tail _ (.head _))))))) rfl (Ok.cld c (.tail _ (.tail _ (.tail _ (.tail _ (.tail _ (.tail _ (.head _))))))) rfl (Ok.own (r36_q (q := (d.2 : Rat)) qt2 qd2 (by decide) (by decide)) fun X => ?_)))
    have q1 := qt1.mul qd1
    have q2 := qt2.mul qd2
    refine Ok.own (r32_q q1 q2 (by decide) (by decide) (by decide)) fun X => ?_
    refine Ok.own (r35_q qt3 (q1.add q2) (by decide) (by decide) (by decide)) fun X => ?_
    have er : (t.2.2 : Rat) - ((t.1 : Rat) * (d.1 : Rat) + (t.2.1 : Rat) * (d.2 : Rat)) = (restF t d : Rat) := by
      unfold restF
      rw [Rat.intCast_sub, Rat.intCast_sub, Rat.intCast_mul, Rat.intCast_mul]
      grind
    rw [er]
    have hrb := rest_bd hlb hd
    have qr : qb 1800 1 (restF t d : Rat) := qb_int (by omega) (by omega) (by decide)
    refine Ok.alo c fun C gC c => ?_
    have hnum := fq_num_pos.2 hpos
    have hden := fq_pos (perq t u v)
    obtain ⟨p1, p2, p3⟩ := qp
    refine Ok.cld c (.head _) rfl (Ok.cld c (.head _) rfl (Ok.cld c (.tail _ (.head _)) rfl (Ok.cld c (.tail _ (.head _)) rfl (Ok.own (r33_q (a := (fq (perq t u v)).2) (b := (fq (perq t u v)).1) (by omega) hnum (by omega) H0) fun X => ?_))))
    have qi : qb 900 3240000 (dv (fq (perq t u v)).2 (fq (perq t u v)).1) := qb_dv hnum (by omega) (by omega) (by omega)
    refine Ok.own (r36_q (p := (restF t d : Rat)) qr qi (by decide) (by decide)) fun X => ?_
    have hn : (restF t d : Rat) * dv (fq (perq t u v)).2 (fq (perq t u v)).1 * perq t u v = (restF t d : Rat) := by
      rw [Rat.mul_assoc, inv_q hpos, Rat.mul_one]
    have hnb := hq1 _ hpos hn
    generalize (restF t d : Rat) * dv (fq (perq t u v)).2 (fq (perq t u v)).1 = n at *
    refine Ok.alo c fun E gE c => ?_
    have hwE := hw.gr (gAB.trans (gC.trans gE))
    have wk : ∀ {G : Hp} {z1 z2 z3 z4 : Nat × List AV} {o' : List AV}, Cx HH G [z1, z2, z3, z4, (v5, o'), (v4, [.int .i64 0, .int .i64 0]), (v3, fc v), (v2, fc u), (v1, [.int .i64 d.1, .int .i64 1, .int .i64 d.2, .int .i64 1])] → Cx HH G [(v5, o'), (v4, [.int .i64 0, .int .i64 0]), (v3, fc v), (v2, fc u), (v1, [.int .i64 d.1, .int .i64 1, .int .i64 d.2, .int .i64 1])] := fun k => k.weak (.cons _ (.cons _ (.cons _ (.cons _ (.refl _)))))
    have take : (∀ m, o = some m → n ≤ m) → Ok (r29_j1 (fun v1_ v2_ v3_ v4_ v5_ v6_ v7_ v8_ v9_ H_ => r29_l0 K v1_ v2_ v3_ v4_ v5_ v6_ v7_ v8_ v9_ H_) v1 v2 v3 v4 v5 o.isSome C.n w L.length i true E) fun r H' => Gr HH H' ∧ ∃ m, IsTop l d u v m ∧ qb N D m ∧ r = ((fq m).1, (fq m).2, true) := fun ho => by
      unfold r29_j1
      refine Ok.pos rfl (Ok.cld c (.head _) rfl (Ok.cld c (.head _) rfl (Ok.cst c 4 rfl (by cases o <;> rfl) fun G hn' hg c => ?_)))
      rw [w64_succ (by omega)]
      exact ih (m - 1) (true, _) G (by omega) ⟨i + 1, some n, rfl, rfl, by omega, wk c, hwE.congr (hg _ hwb), by rw [htk]; exact hms.take (fun t ht => hnn t (List.mem_of_mem_take ht)) hpos hn ho, fun m e => by injection e with e; subst e; exact hnb⟩
    cases o with
    | none => exact Ok.neg (by simp) (take fun m e => by cases e)
    | some m' =>
      refine Ok.pos rfl (Ok.cld c (.head _) rfl (Ok.cld c (.head _) rfl (Ok.cld c (.tail _ (.tail _ (.tail _ (.tail _ (.head _))))) rfl (Ok.cld c (.tail _ (.tail _ (.tail _ (.tail _ (.head _))))) rfl (Ok.own (r34_q hnb (hqb m' rfl) hND hND) fun X => ?_)))))
      by_cases k : n < m'
      · rw [decide_eq_true k]
        exact take fun m e => by injection e with e; subst e; exact Rat.le_of_lt k
      · rw [decide_eq_false k]
        unfold r29_j1
        refine Ok.neg (by simp) ?_
        rw [w64_succ (by omega)]
        exact ih (m - 1) (true, _) E (by omega) ⟨i + 1, some m', rfl, rfl, by omega, wk c, hwE, by rw [htk]; exact hms.keep hpos hn k, hqb⟩
  · rw [List.take_of_length_le (by omega)] at hms
    refine Ok.neg (by omega) ?_
    cases o with
    | none =>
      obtain ⟨t, ht, hne⟩ := hex
      exact absurd (hms t ht) hne
    | some m' =>
      refine Ok.cld c (.head _) rfl (Ok.cld c (.head _) rfl (Ok.cst c 1 rfl rfl fun G hn hg c => Ok.cld c (.tail _ (.head _)) rfl (Ok.cld c (.tail _ (.head _)) rfl (Ok.ret ⟨c.g, m', hms.top hL hnn hr, hqb m' rfl, rfl⟩))))
theorem r29_ok {H : Hp} {s : Sl} (hs : SL H s l) (ho : offP l) (hd : num d) (hreg : reg l d.1 d.2) (hu : qb 1800 30 u) (hv : qb 1800 30 v) (hu0 : 0 ≤ u) (hv0 : 0 ≤ v) (huv : 0 < u ∨ 0 < v)
    (hq : ∀ t ∈ limits l, ∀ n, 0 < perq t u v → n * perq t u v = (restF t d : Rat) → qb N D n) (hND : N * D < 1000000000000000000) :
    Ok (r29 s d.1 1 d.2 1 (fq u).1 (fq u).2 (fq v).1 (fq v).2 H) fun r H' => Gr H H' ∧ ∃ m, IsTop l d u v m ∧ qb N D m ∧ r = ((fq m).1, (fq m).2, true) := by
  obtain ⟨q, hp, hs'⟩ := sorted_perm hs ho
  have hL := fun x y => limits_reg (x := x) (y := y) hp hs' (perm_ne ho hp)
  have hb := limits_lb ho.2.2.1
  have hr : ∀ t ∈ limits l, 0 ≤ restF t d := fun t ht => by
    have h0 := (hL _ _).2 hreg t ht
    have e : (d.1 : Rat) = (d.1 : Rat) + 0 * 0 := by grind
    have e2 : (d.2 : Rat) = (d.2 : Rat) + 0 * 0 := by grind
    rw [e, e2] at h0
    have := lq_step.1 h0
    rw [Rat.zero_mul] at this
    exact_mod_cast this
  have hex : ∃ t ∈ limits l, perq t u v ≠ 0 := Classical.byContradiction fun hno => by
    have all : ∀ s, reg l ((d.1 : Rat) + s * u) ((d.2 : Rat) + s * v) := fun s => (hL _ _).1 fun t ht => by
      rw [lq_step]
      have : perq t u v = 0 := Classical.byContradiction fun k => hno ⟨t, ht, k⟩
      rw [this, Rat.mul_zero]
      exact_mod_cast hr t ht
    have hd' := hd
    unfold num at hd'
    have d1 : (0 : Rat) ≤ d.1 := by exact_mod_cast hd'.1
    have d2 : (0 : Rat) ≤ d.2 := by exact_mod_cast hd'.2.2.1
    rcases huv with k | k
    · have := (all (31 / u)).le ho.2.2.1
      rw [Rat.div_mul_cancel (by grind)] at this
      grind
    · have := (all (31 / v)).le ho.2.2.1
      rw [Rat.div_mul_cancel (by grind)] at this
      grind
  unfold r29
  refine Ok.box4 (.nil H) fun A gA c => Ok.box c fun B gB c => Ok.bind (r48_ok (hs.gr c.g) ho) fun w C ⟨gC, hw, hlen⟩ => ?_
  have c := c.gr gC
  have hne : limits l ≠ [] := by obtain ⟨t, ht, _⟩ := hex; exact List.ne_nil_of_mem ht
  have hpos := List.length_pos_iff.2 hne
  rw [hw.len]
  refine r29_l0_ok hL hb hlen hd hr hu hv hu0 hv0 hex hq hND hw ?_ ?_ c
  · exact sl_far hw hpos rfl (c.e _ (.head _))
  · exact sl_far hw hpos rfl (c.e _ (.tail _ (.head _)))
end
end Go.Lt.P5

namespace Go.Lt.P5
open Go Go.Lt Go.Proofs
theorem of_mul {n : Rat} {a b : Int} (hb : 0 < b) (h : n * (b : Rat) = (a : Rat)) : n = dv a b := by
  unfold dv
  rw [← h]
  have := cast_pos hb
  rw [Rat.mul_div_cancel (by grind)]
theorem cancelR {n m p : Rat} (hp : 0 < p) (h : n * p = m * p) : n = m := by
  have h1 := Rat.le_of_mul_le_mul_right (show n * p ≤ m * p by grind) hp
  have h2 := Rat.le_of_mul_le_mul_right (show m * p ≤ n * p by grind) hp
  exact Rat.le_antisymm h1 h2
section
variable {l : List Pr} {d : Pr} {H : Hp} {s : Sl}
theorem one_q (H : Hp) : Ok (r30 1 H) fun r _ => r = fq 1 := r30_q 1 H
theorem zero_q (H : Hp) : Ok (r30 0 H) fun r _ => r = fq 0 := r30_q 0 H
theorem qb01 : qb 1800 30 (1 : Rat) ∧ qb 1800 30 (0 : Rat) := ⟨qb_int (a := 1) (by omega) (by omega) (by omega), qb_int (a := 0) (by omega) (by omega) (by omega)⟩
theorem rest_nn (hs : SL H s l) (ho : offP l) (hreg : reg l d.1 d.2) : ∀ t ∈ limits l, 0 ≤ restF t d := fun t ht => by
  have h0 := reg_limits hreg t ht
  have e : (d.1 : Rat) = (d.1 : Rat) + 0 * 0 := by grind
  have e2 : (d.2 : Rat) = (d.2 : Rat) + 0 * 0 := by grind
  rw [e, e2] at h0
  have := lq_step.1 h0
  rw [Rat.zero_mul] at this
  exact_mod_cast this
theorem bd_int (hs : SL H s l) (ho : offP l) (hd : num d) (hreg : reg l d.1 d.2) {u v : Rat} {D : Int} (h : ∀ t : Tr, lb t → ∃ k : Int, k ≤ D ∧ perq t u v = (k : Rat)) : ∀ t ∈ limits l, ∀ n, 0 < perq t u v → n * perq t u v = (restF t d : Rat) → qb 1800 D n := fun t ht n hp hn => by
  have hlb := limits_lb ho.2.2.1 t ht
  obtain ⟨k, hk, e⟩ := h t hlb
  have hr := rest_nn hs ho hreg t ht
  have hr2 := rest_bd hlb hd
  rw [e] at hp hn
  have hk0 : 0 < k := by exact_mod_cast hp
  rw [of_mul hk0 hn]
  exact qb_dv hk0 (by omega) (by omega) hk
theorem perq_11 {t : Tr} (h : lb t) : ∃ k : Int, k ≤ 60 ∧ perq t 1 1 = (k : Rat) := by
  unfold lb at h
  refine ⟨t.1 + t.2.1, by omega, ?_⟩
  unfold perq
  rw [Rat.intCast_add]; grind
theorem perq_10 {t : Tr} (h : lb t) : ∃ k : Int, k ≤ 30 ∧ perq t 1 0 = (k : Rat) := by
  unfold lb at h
  refine ⟨t.1, by omega, ?_⟩
  unfold perq
  grind
theorem perq_01 {t : Tr} (h : lb t) : ∃ k : Int, k ≤ 30 ∧ perq t 0 1 = (k : Rat) := by
  unfold lb at h
  refine ⟨t.2.1, by omega, ?_⟩
  unfold perq
  grind
theorem bd_ab (hs : SL H s l) (ho : offP l) (hd : num d) (hreg : reg l d.1 d.2) {u v : Rat} (hu : qb 1800 30 u) (hv : qb 1800 30 v) : ∀ t ∈ limits l, ∀ n, 0 < perq t u v → n * perq t u v = (restF t d : Rat) → qb 1620000 3240000 n := fun t ht n hp hn => by
  have hlb := limits_lb ho.2.2.1 t ht
  have hr := rest_nn hs ho hreg t ht
  have hr2 := rest_bd hlb hd
  have hlb' := hlb
  unfold lb at hlb'
  have qt1 : qb 30 1 (t.1 : Rat) := qb_int (by omega) (by omega) (by decide)
  have qt2 : qb 30 1 (t.2.1 : Rat) := qb_int (by omega) (by omega) (by decide)
  have qp : qb _ _ (perq t u v) := (qt1.mul hu).add (qt2.mul hv)
  have hnum := fq_num_pos.2 hp
  have hden := fq_pos (perq t u v)
  obtain ⟨p1, p2, p3⟩ := qp
  have qi : qb 900 3240000 (dv (fq (perq t u v)).2 (fq (perq t u v)).1) := qb_dv hnum (by omega) (by omega) (by omega)
  have qr : qb 1800 1 (restF t d : Rat) := qb_int (by omega) (by omega) (by decide)
  have e : n = (restF t d : Rat) * dv (fq (perq t u v)).2 (fq (perq t u v)).1 := cancelR hp (by rw [Rat.mul_assoc, inv_q hp, Rat.mul_one, hn])
  rw [e]
  exact (qr.mul qi).mono (by decide) (by decide)
theorem room_reg (h : roomP l d) : reg l d.1 d.2 := by
  obtain ⟨x, y, h1, h2, h3⟩ := h
  exact h1.down (Rat.le_of_lt h2) (Rat.le_of_lt h3)
theorem r10_ok (hs : SL H s l) (ho : offP l) (hd : num d) : Ok (r10 s d.1 d.2 H) fun r H' => Gr H H' ∧ (r = true ↔ roomP l d) := by
  have hd' := hd
  unfold num at hd'
  unfold r10
  refine Ok.box (.nil H) fun A gA c => Ok.cld c (.head _) rfl (Ok.cld c (.head _) rfl (Ok.own (r28_q d.1 d.2 H0) fun X => ?_))
  have f1 : fr (d.1, 1) := by unfold fr; simp; omega
  have f2 : fr (d.2, 1) := by unfold fr; simp; omega
  obtain ⟨q, hp, hs'⟩ := sorted_perm hs ho
  have hL := limits_reg (x := (d.1 : Rat)) (y := (d.2 : Rat)) hp hs' (perm_ne ho hp)
  have hiff : (∀ t ∈ limits l, sat t (d.1, 1) (d.2, 1)) ↔ reg l d.1 d.2 := by
    rw [← hL]
    have : ∀ t, sat t (d.1, 1) (d.2, 1) ↔ lq t (d.1 : Rat) (d.2 : Rat) := fun t => by
      rw [sat_lq (show (0 : Int) < 1 by decide) (show (0 : Int) < 1 by decide), dv_int, dv_int]
    exact ⟨fun h t ht => (this t).1 (h t ht), fun h t ht => (this t).2 (h t ht)⟩
  refine Ok.bind (r27_ok (hs.gr gA) ho f1 f2) fun b B ⟨gB, hb⟩ => ?_
  subst hb
  have c := c.gr gB
  by_cases hr : reg l d.1 d.2
  case neg =>
    rw [decide_eq_false (fun k => hr (hiff.1 k))]
    exact Ok.neg (by simp) (Ok.ret ⟨c.g, by simp; exact fun k => hr (room_reg k)⟩)
  rw [decide_eq_true (hiff.2 hr)]
  refine Ok.pos rfl (Ok.cld c (.head _) rfl (Ok.cld c (.head _) rfl (Ok.own (r28_q d.1 d.2 H0) fun X => Ok.own (one_q H0) fun X => Ok.own (one_q H0) fun X => ?_)))
  refine Ok.bind (r29_ok (u := 1) (v := 1) (hs.gr c.g) ho hd hr qb01.1 qb01.1 (by decide) (by decide) (.inl (by decide)) (bd_int hs ho hd hr fun t => perq_11) (by decide)) fun r C ⟨gC, m, hm, hmb, hre⟩ => ?_
  subst hre
  have c := c.gr gC
  refine Ok.alo c fun D gD c => Ok.cld c (.head _) rfl (Ok.ret ⟨c.g, ?_⟩)
  rw [decide_eq_true_iff]
  constructor
  · intro k
    have hm0 : 0 < m := fq_num_pos.1 k
    have := (hm m).2 Rat.le_refl
    exact ⟨_, _, this, by grind, by grind⟩
  · intro k
    exact fq_num_pos.2 (hm.pos k (by decide) (by decide))
theorem r15_ok (hs : SL H s l) (ho : offP l) (hd : num d) (hrm : roomP l d) : Ok (r15 s d.1 d.2 H) fun r H' => Gr H H' ∧ ∃ p, IsHalf l d p ∧ r = pt p := by
  have hd' := hd
  unfold num at hd'
  have hr := room_reg hrm
  unfold r15
  refine Ok.box2 (.nil H) fun A gA c => Ok.cld c (.tail _ (.head _)) rfl (Ok.cld c (.tail _ (.head _)) rfl (Ok.own (r28_q d.1 d.2 H0) fun X => Ok.own (one_q H0) fun X => Ok.own (one_q H0) fun X => ?_))
  refine Ok.bind (r29_ok (u := 1) (v := 1) (hs.gr c.g) ho hd hr qb01.1 qb01.1 (by decide) (by decide) (.inl (by decide)) (bd_int hs ho hd hr fun t => perq_11) (by decide)) fun r C ⟨gC, m, hm, hmb, hre⟩ => ?_
  subst hre
  have c := c.gr gC
  have qd1 : qb 30 1 (d.1 : Rat) := qb_int (by omega) (by omega) (by decide)
  have qd2 : qb 30 1 (d.2 : Rat) := qb_int (by omega) (by omega) (by decide)
  refine Ok.alo c fun D gD c => Ok.cld c (.tail _ (.tail _ (.head _))) rfl (Ok.own (r30_q d.1 H0) fun X => Ok.cld c (.head _) rfl (Ok.cld c (.head _) rfl (Ok.own (r32_q qd1 hmb (by decide) (by decide) (by decide)) fun X => ?_)))
  refine Ok.cld c (.tail _ (.tail _ (.head _))) rfl (Ok.own (r30_q d.2 H0) fun X => Ok.cld c (.head _) rfl (Ok.cld c (.head _) rfl (Ok.own (r32_q qd2 hmb (by decide) (by decide) (by decide)) fun X => ?_)))
  refine Ok.cst c 1 rfl rfl fun E nE oE c => Ok.cld c (.tail _ (.head _)) rfl (Ok.cld c (.tail _ (.head _)) rfl (Ok.cld c (.tail _ (.head _)) rfl (Ok.cld c (.tail _ (.head _)) rfl (Ok.ret ⟨c.g, _, ⟨m, hm, rfl⟩, rfl⟩))))
theorem r14_ok (hs : SL H s l) (ho : offP l) (hd : num d) (hrm : roomP l d) : Ok (r14 s d.1 d.2 H) fun r H' => Gr H H' ∧ ∃ p, IsBest l d p ∧ r = pt p := by
  have hd' := hd
  unfold num at hd'
  have hr := room_reg hrm
  unfold r14
  refine Ok.box2 (.nil H) fun A gA c => Ok.cld c (.tail _ (.head _)) rfl (Ok.cld c (.tail _ (.head _)) rfl (Ok.own (r28_q d.1 d.2 H0) fun X => Ok.own (one_q H0) fun X => Ok.own (zero_q H0) fun X => ?_))
  refine Ok.bind (r29_ok (u := 1) (v := 0) (hs.gr c.g) ho hd hr qb01.1 qb01.2 (by decide) (by decide) (.inl (by decide)) (bd_int hs ho hd hr fun t => perq_10) (by decide)) fun r C ⟨gC, a, ha, hab, hre⟩ => ?_
  subst hre
  have c := c.gr gC
  refine Ok.alo c fun D gD c => Ok.cld c (.tail _ (.tail _ (.head _))) rfl (Ok.cld c (.tail _ (.tail _ (.head _))) rfl (Ok.own (r28_q d.1 d.2 H0) fun X => Ok.own (zero_q H0) fun X => Ok.own (one_q H0) fun X => ?_))
  refine Ok.bind (r29_ok (u := 0) (v := 1) (hs.gr c.g) ho hd hr qb01.2 qb01.1 (by decide) (by decide) (.inr (by decide)) (bd_int hs ho hd hr fun t => perq_01) (by decide)) fun r E ⟨gE, b, hb, hbb, hre⟩ => ?_
  subst hre
  have c := c.gr gE
  have ha0 := ha.pos hrm (by decide) (by decide)
  have hb0 := hb.pos hrm (by decide) (by decide)
  refine Ok.alo c fun F gF c => Ok.cld c (.tail _ (.tail _ (.tail _ (.head _)))) rfl (Ok.cld c (.tail _ (.tail _ (.tail _ (.head _)))) rfl (Ok.own (r28_q d.1 d.2 H0) fun X => ?_))
  refine Ok.cld c (.tail _ (.head _)) rfl (Ok.cld c (.tail _ (.head _)) rfl (Ok.cld c (.head _) rfl (Ok.cld c (.head _) rfl ?_)))
  refine Ok.bind (r29_ok (u := a) (v := b) (hs.gr c.g) ho hd hr hab hbb (Rat.le_of_lt ha0) (Rat.le_of_lt hb0) (.inl ha0) (bd_ab hs ho hd hr hab hbb) (by decide)) fun r G ⟨gG, m, hm, hmb, hre⟩ => ?_
  subst hre
  have c := c.gr gG
  have qd1 : qb 30 1 (d.1 : Rat) := qb_int (by omega) (by omega) (by decide)
  have qd2 : qb 30 1 (d.2 : Rat) := qb_int (by omega) (by omega) (by decide)
  refine Ok.alo c fun I gI c => Ok.cld c (.tail _ (.tail _ (.tail _ (.tail _ (.head _))))) rfl (Ok.own (r30_q d.1 H0) fun X => ?_)
  refine Ok.cld c (.head _) rfl (Ok.cld c (.head _) rfl (Ok.cld c (.tail _ (.tail _ (.head _))) rfl (Ok.cld c (.tail _ (.tail _ (.head _))) rfl (Ok.own (r36_q hmb hab (by decide) (by decide)) fun X => Ok.own (r32_q qd1 (hmb.mul hab) (by decide) (by decide) (by decide)) fun X => ?_))))
  refine Ok.cld c (.tail _ (.tail _ (.tail _ (.tail _ (.head _))))) rfl (Ok.own (r30_q d.2 H0) fun X => ?_)
  refine Ok.cld c (.head _) rfl (Ok.cld c (.head _) rfl (Ok.cld c (.tail _ (.head _)) rfl (Ok.cld c (.tail _ (.head _)) rfl (Ok.own (r36_q hmb hbb (by decide) (by decide)) fun X => Ok.own (r32_q qd2 (hmb.mul hbb) (by decide) (by decide) (by decide)) fun X => ?_))))
  refine Ok.cst c 3 rfl rfl fun E nE oE c => Ok.cld c (.tail _ (.tail _ (.tail _ (.head _)))) rfl (Ok.cld c (.tail _ (.tail _ (.tail _ (.head _)))) rfl (Ok.cld c (.tail _ (.tail _ (.tail _ (.head _)))) rfl (Ok.cld c (.tail _ (.tail _ (.tail _ (.head _)))) rfl (Ok.ret ⟨c.g, _, ⟨a, b, m, ha, hb, hm, rfl⟩, rfl⟩))))
end
end Go.Lt.P5

namespace Go.Lt.P5
open Go Go.Lt Go.Proofs
theorem cast_sub_mul (r d b : Int) : ((r + 2 * b * d : Int) : Rat) = (r : Rat) + 2 * (b : Rat) * (d : Rat) := by
  rw [Rat.intCast_add, Rat.intCast_mul, Rat.intCast_mul]; rfl
def gainq (d : Pr) (p : Rat × Rat) : Rat := if p.1 - d.1 < 0 ∨ p.2 - d.2 < 0 then -1 else (p.1 - d.1) * (p.2 - d.2)
def qp (p : Rat × Rat) : Prop := qb 3600 60 p.1 ∧ qb 3600 60 p.2
theorem sub_int_q {p : Rat} {d : Int} (hd : 0 ≤ d ∧ d ≤ 30) (hp : qb 3600 60 p) : -9223372036854775808 < d * (fq p).2 ∧ w64 (d * (fq p).2) = d * (fq p).2 ∧ w64 ((fq p).1 - d * (fq p).2) = (fq p).1 - d * (fq p).2 ∧ ((fq p).1 - d * (fq p).2).natAbs < 9223372036854775808 ∧ dv ((fq p).1 - d * (fq p).2) (fq p).2 = p - d ∧ qb 5400 60 (p - d) := by
  obtain ⟨h1, h2, h3⟩ := hp
  have hp := fq_pos p
  have b1 := mul_bd (A := 30) (B := 60) (x := d) (y := (fq p).2) (by omega) (by omega) (by omega) (by omega)
  have e : dv ((fq p).1 - d * (fq p).2) (fq p).2 = p - d := by
    have := dv_sub (a := (fq p).1) (b := (fq p).2) (c := d) (d := 1) hp (by decide)
    rw [Int.mul_one, Int.mul_one, dv_fq, dv_int] at this
    exact this
  refine ⟨by omega, w64_id (by omega) (by omega), w64_id (by omega) (by omega), by omega, e, ?_⟩
  rw [← e]
  exact qb_dv hp (by omega) (by omega) h3
theorem r20_q {d : Pr} {p : Rat × Rat} (hd : num d) (hp : qp p) : Ok (r20 (fq p.1).1 (fq p.1).2 (fq p.2).1 (fq p.2).2 d.1 d.2 H0) fun r _ => r = fq (gainq d p) := by
  unfold num at hd
  obtain ⟨_, a1, a2, a3, a4, a5⟩ := sub_int_q (d := d.1) ⟨hd.1, hd.2.1⟩ hp.1
  obtain ⟨_, b1, b2, b3, b4, b5⟩ := sub_int_q (d := d.2) ⟨hd.2.2.1, hd.2.2.2⟩ hp.2
  have f1 := fq_pos p.1
  have f2 := fq_pos p.2
  have f3 := hp.1.2.2
  have f4 := hp.2.2.2
  unfold r20
  refine Ok.box3 (.nil H0) fun A gA c => ?_
  refine Ok.cld c (.tail _ (.tail _ (.head _))) rfl (Ok.cld c (.tail _ (.head _)) rfl (Ok.cld c (.tail _ (.tail _ (.head _))) rfl (Ok.cld c (.tail _ (.tail _ (.head _))) rfl ?_)))
  rw [a1, a2]
  refine Ok.own (r18_q a3 f1 (by omega) H0) fun X => ?_
  rw [a4]
  refine Ok.cld c (.tail _ (.tail _ (.head _))) rfl (Ok.cld c (.tail _ (.head _)) rfl (Ok.cld c (.tail _ (.tail _ (.head _))) rfl (Ok.cld c (.tail _ (.tail _ (.head _))) rfl ?_)))
  rw [b1, b2]
  refine Ok.own (r18_q b3 f2 (by omega) H0) fun Y => ?_
  rw [b4]
  have c := (c.push [.int .i64 0, .int .i64 0]).push [.int .i64 0, .int .i64 0]
  refine Ok.cst c 1 rfl rfl fun C _ _ c => Ok.cst c 0 rfl rfl fun D _ _ c => Ok.cld c (.tail _ (.head _)) rfl ?_
  obtain ⟨u1, u2, u3⟩ := a5
  obtain ⟨w1, w2, w3⟩ := b5
  have g1 := fq_pos (p.1 - d.1)
  have g2 := fq_pos (p.2 - d.2)
  have n1 : (fq (p.1 - d.1)).1 < 0 ↔ p.1 - d.1 < 0 := by rw [← Int.not_le, fq_num_nonneg, Rat.not_le]
  have n2 : (fq (p.2 - d.2)).1 < 0 ↔ p.2 - d.2 < 0 := by rw [← Int.not_le, fq_num_nonneg, Rat.not_le]
  have bad : ∀ {b : Bool}, b = true → (p.1 - d.1 < 0 ∨ p.2 - d.2 < 0) → Ok (r20_j0 (((H0.push (.cells [.int .i64 (fq p.1).1, .int .i64 (fq p.1).2, .int .i64 (fq p.2).1, .int .i64 (fq p.2).2] false)).push (.cells [.int .i64 d.1, .int .i64 d.2] false)).n) A.n ((A.push (.cells [.int .i64 0, .int .i64 0] false)).n) b D) fun r _ => r = fq (gainq d p) := fun hb h => by
    subst hb
    unfold r20_j0
    refine Ok.pos rfl (Ok.own (r18_q (a := -1) (b := 1) (by decide) (by decide) (by decide) H0) fun Z => Ok.cst c 2 rfl rfl fun E _ _ c => ?_)
    refine Ok.cld c (.tail _ (.tail _ (.head _))) rfl (Ok.cld c (.tail _ (.tail _ (.head _))) rfl (Ok.ret ?_))
    unfold gainq
    rw [if_pos h, dv_int]
    rfl
  refine Ok.ite (fun cc => bad rfl (.inl (n1.1 cc))) fun cc => Ok.cld c (.head _) rfl ?_
  by_cases h2 : p.2 - d.2 < 0
  · exact bad (decide_eq_true (n2.2 h2)) (.inr h2)
  · rw [decide_eq_false (fun q => h2 (n2.1 q))]
    have h1 : ¬ p.1 - d.1 < 0 := fun q => cc (n1.2 q)
    have m1 := mul_bd (A := 5400) (B := 5400) u1 u2 w1 w2
    have m2 := mul_bd (A := 60) (B := 60) (x := (fq (p.1 - d.1)).2) (y := (fq (p.2 - d.2)).2) (by omega) (by omega) (by omega) (by omega)
    unfold r20_j0
    refine Ok.neg (by simp) (Ok.cld c (.tail _ (.head _)) rfl (Ok.cld c (.head _) rfl (Ok.cld c (.tail _ (.head _)) rfl (Ok.cld c (.head _) rfl ?_))))
    dsimp only
    rw [w64_id (by omega) (by omega), w64_id (by omega) (by omega)]
    refine Ok.own (r18_q (by omega) (Int.mul_pos g1 g2) (by omega) H0) fun Z => Ok.cst c 2 rfl rfl fun E _ _ c => ?_
    refine Ok.cld c (.tail _ (.tail _ (.head _))) rfl (Ok.cld c (.tail _ (.tail _ (.head _))) rfl (Ok.ret ?_))
    unfold gainq
    rw [if_neg (fun q => q.elim h1 h2), fq_mul]
theorem gainq_qb {d : Pr} {p : Rat × Rat} (hd : num d) (hp : qp p) : qb 29160000 3600 (gainq d p) := by
  unfold num at hd
  unfold gainq
  split
  · exact ⟨by decide, by decide, by decide⟩
  · have a := (sub_int_q (d := d.1) ⟨hd.1, hd.2.1⟩ hp.1).2.2.2.2.2
    have b := (sub_int_q (d := d.2) ⟨hd.2.2.1, hd.2.2.2⟩ hp.2).2.2.2.2.2
    exact (a.mul b).mono (by decide) (by decide)
def midq (t : Tr) (d : Pr) : Rat × Rat := (dv (restF t d + 2 * t.1 * d.1) (2 * t.1), dv (restF t d + 2 * t.2.1 * d.2) (2 * t.2.1))
def okM (t : Tr) (d u w : Pr) : Prop := (u.1 : Rat) ≤ (midq t d).1 ∧ (midq t d).1 ≤ (w.1 : Rat)
instance (t : Tr) (d u w : Pr) : Decidable (okM t d u w) := by unfold okM; infer_instance
theorem mid_qp {t : Tr} {d : Pr} (h : lb t) (h1 : 0 < t.1) (h2 : 0 < t.2.1) (hd : num d) (hr : 0 < restF t d) : (0 ≤ 2 * t.1 * d.1 ∧ 2 * t.1 * d.1 ≤ 1800) ∧ (0 ≤ 2 * t.2.1 * d.2 ∧ 2 * t.2.1 * d.2 ≤ 1800) ∧ qp (midq t d) := by
  have hrb := rest_bd h hd
  obtain ⟨⟨_, a2⟩, ⟨_, b2⟩, _⟩ := h
  unfold num at hd
  have m1 := mul_bd (A := 60) (B := 30) (x := 2 * t.1) (y := d.1) (by omega) (by omega) (by omega) (by omega)
  have m2 := mul_bd (A := 60) (B := 30) (x := 2 * t.2.1) (y := d.2) (by omega) (by omega) (by omega) (by omega)
  have n1 := Int.mul_nonneg (show 0 ≤ 2 * t.1 by omega) hd.1
  have n2 := Int.mul_nonneg (show 0 ≤ 2 * t.2.1 by omega) hd.2.2.1
  exact ⟨⟨n1, m1.2⟩, ⟨n2, m2.2⟩, qb_dv (by omega) (by omega) (by omega) (by omega), qb_dv (by omega) (by omega) (by omega) (by omega)⟩
theorem cmp_ge {p q : Rat} : (0 ≤ cmpq p q) ↔ q ≤ p := by
  unfold cmpq
  split
  · constructor
    · intro h; omega
    · intro h; grind
  · split
    · constructor
      · intro _; grind
      · intro _; omega
    · constructor
      · intro _; grind
      · intro _; omega
theorem cmp_le {p q : Rat} : (cmpq p q ≤ 0) ↔ p ≤ q := by
  unfold cmpq
  split
  · constructor
    · intro _; grind
    · intro _; omega
  · split
    · constructor
      · intro h; omega
      · intro h; grind
    · constructor
      · intro _; grind
      · intro _; omega
theorem r18_int {a : Int} (ha : a.natAbs < 9223372036854775808) (H : Hp) : Ok (r18 a 1 H) fun r _ => r = fq (a : Rat) := by
  have := r18_q (a := a) (b := 1) ha (by decide) (by decide) H
  rw [dv_int] at this
  exact this
theorem r23_q {t : Tr} {d u w : Pr} (h : lb t) (h1 : 0 < t.1) (h2 : 0 < t.2.1) (hd : num d) (hu : num u) (hw : num w) (hr : 0 < restF t d) :
    Ok (r23 t.1 t.2.1 t.2.2 d.1 d.2 u.1 u.2 w.1 w.2 H0) fun r _ => r = ((fq (midq t d).1).1, (fq (midq t d).1).2, (fq (midq t d).2).1, (fq (midq t d).2).2, decide (okM t d u w)) := by
  obtain ⟨m1, m2, m3⟩ := mid_qp h h1 h2 hd hr
  have hrb := rest_bd h hd
  obtain ⟨h3, h4, h5, _⟩ := h
  unfold num at hu hw
  unfold r23
  refine Ok.box5 (.nil H0) fun A gA c => ?_
  refine Ok.cld c (.tail _ (.tail _ (.tail _ (.tail _ (.head _))))) rfl (Ok.cld c (.tail _ (.tail _ (.tail _ (.tail _ (.head _))))) rfl (Ok.cld c (.tail _ (.tail _ (.tail _ (.tail _ (.head _))))) rfl (Ok.cld c (.tail _ (.tail _ (.tail _ (.head _)))) rfl (Ok.cld c (.tail _ (.tail _ (.tail _ (.head _)))) rfl (Ok.own (r39_q h3 h4 h5 hd) fun X => ?_)))))
  refine Ok.cld c (.tail _ (.tail _ (.tail _ (.tail _ (.head _))))) rfl (Ok.cld c (.tail _ (.tail _ (.tail _ (.head _)))) rfl (Ok.cld c (.tail _ (.tail _ (.tail _ (.tail _ (.head _))))) rfl ?_))
  dsimp only
  rw [w64_id (n := 2 * t.1) (by omega) (by omega), w64_id (n := 2 * t.1 * d.1) (by omega) (by omega), w64_id (by omega) (by omega)]
  refine Ok.own (r18_q (by omega) (show 0 < 2 * t.1 by omega) (by omega) H0) fun X => ?_
  refine Ok.cld c (.tail _ (.tail _ (.tail _ (.tail _ (.head _))))) rfl (Ok.cld c (.tail _ (.tail _ (.tail _ (.tail _ (.head _))))) rfl (Ok.cld c (.tail _ (.tail _ (.tail _ (.tail _ (.head _))))) rfl (Ok.cld c (.tail _ (.tail _ (.tail _ (.head _)))) rfl (Ok.cld c (.tail _ (.tail _ (.tail _ (.head _)))) rfl (Ok.own (r39_q h3 h4 h5 hd) fun X => ?_)))))
  refine Ok.cld c (.tail _ (.tail _ (.tail _ (.tail _ (.head _))))) rfl (Ok.cld c (.tail _ (.tail _ (.tail _ (.head _)))) rfl (Ok.cld c (.tail _ (.tail _ (.tail _ (.tail _ (.head _))))) rfl ?_))
  dsimp only
  rw [w64_id (n := 2 * t.2.1) (by omega) (by omega), w64_id (n := 2 * t.2.1 * d.2) (by omega) (by omega), w64_id (by omega) (by omega)]
  refine Ok.own (r18_q (by omega) (show 0 < 2 * t.2.1 by omega) (by omega) H0) fun X => ?_
  refine Ok.alo c fun C gC c => ?_
  show Ok _ fun r _ => r = ((fq (midq t d).1).1, (fq (midq t d).1).2, (fq (midq t d).2).1, (fq (midq t d).2).2, decide (okM t d u w))
  have e1 : dv (restF t d + 2 * t.1 * d.1) (2 * t.1) = (midq t d).1 := rfl
  have e2 : dv (restF t d + 2 * t.2.1 * d.2) (2 * t.2.1) = (midq t d).2 := rfl
  rw [e1, e2] at c
  have okd : okM t d u w ↔ (u.1 : Rat) ≤ (midq t d).1 ∧ (midq t d).1 ≤ (w.1 : Rat) := Iff.rfl
  simp only [okd]
  have m31 := m3.1
  generalize (midq t d).1 = p at *
  generalize (midq t d).2 = q at *
  refine Ok.cld c (.head _) rfl (Ok.cld c (.head _) rfl (Ok.cld c (.head _) rfl (Ok.cld c (.head _) rfl (Ok.cld c (.head _) rfl (Ok.cld c (.head _) rfl (Ok.cld c (.tail _ (.tail _ (.tail _ (.head _)))) rfl (Ok.own (r18_int (by omega) H0) fun X => ?_)))))))
  refine Ok.own (r21_q m31 (qb_int (a := u.1) (N := 30) (D := 1) (by omega) (by omega) (by omega)) (by decide) (by decide)) fun X => ?_
  dsimp only
  refine Ok.ite (fun cc => ?_) fun cc => ?_
  · refine Ok.cld c (.head _) rfl (Ok.cld c (.head _) rfl (Ok.cld c (.tail _ (.tail _ (.head _))) rfl (Ok.own (r18_int (by omega) H0) fun X => ?_)))
    refine Ok.own (r21_q m31 (qb_int (a := w.1) (N := 30) (D := 1) (by omega) (by omega) (by omega)) (by decide) (by decide)) fun X => ?_
    refine Ok.cst c 1 rfl rfl fun D _ _ c => Ok.cld c (.tail _ (.head _)) rfl (Ok.cld c (.tail _ (.head _)) rfl (Ok.cld c (.tail _ (.head _)) rfl (Ok.cld c (.tail _ (.head _)) rfl (Ok.ret ?_))))
    have : decide (cmpq p w.1 ≤ 0) = decide ((u.1 : Rat) ≤ p ∧ p ≤ (w.1 : Rat)) := decide_eq_decide.2 ⟨fun q => ⟨cmp_ge.1 cc, cmp_le.1 q⟩, fun q => cmp_le.2 q.2⟩
    dsimp only
    rw [this]
  · refine Ok.cst c 1 rfl rfl fun D _ _ c => Ok.cld c (.tail _ (.head _)) rfl (Ok.cld c (.tail _ (.head _)) rfl (Ok.cld c (.tail _ (.head _)) rfl (Ok.cld c (.tail _ (.head _)) rfl (Ok.ret ?_))))
    rw [decide_eq_false (fun q => cc (cmp_ge.2 q.1))]
end Go.Lt.P5

namespace Go.Lt.P5
open Go Go.Lt Go.Proofs
def seeF (d : Pr) (st : Option (Rat × Rat) × Rat) (p : Rat × Rat) : Option (Rat × Rat) × Rat := if st.2 < gainq d p then (some p, gainq d p) else st
def bst4 : Option (Rat × Rat) → List AV
  | none => [.int .i64 0, .int .i64 0, .int .i64 0, .int .i64 0]
  | some p => [.int .i64 (fq p.1).1, .int .i64 (fq p.1).2, .int .i64 (fq p.2).1, .int .i64 (fq p.2).2]
theorem bst4_len (o : Option (Rat × Rat)) : (bst4 o).length = 4 := by cases o <;> rfl
theorem set_same {α : Type} {E : List α} {i : Nat} {x : α} (h : E[i]? = some x) : E.set i x = E := by
  obtain ⟨h1, h2⟩ := List.getElem?_eq_some_iff.1 h
  subst h2
  exact List.set_getElem_self h1
theorem r19_ok {HH H : Hp} {E : List (Nat × List AV)} {d : Pr} {p : Rat × Rat} {o : Option (Rat × Rat)} {g : Rat} {c0 c1 c2 i1 i2 : Nat} (hd : num d) (hp : qp p) (hg : qb 29160000 3600 g) (c : Cx HH H E) (h0 : (c0, pc d) ∈ E) (h1 : E[i1]? = some (c1, fc g)) (h2 : E[i2]? = some (c2, bst4 o)) (hne : i1 ≠ i2) :
    Ok (r19 (fq p.1).1 (fq p.1).2 (fq p.2).1 (fq p.2).2 c0 c1 c2 H) fun _ H' => Cx HH H' ((E.set i2 (c2, bst4 (seeF d (o, g) p).1)).set i1 (c1, fc (seeF d (o, g) p).2)) ∧ H.n ≤ H'.n ∧ ∀ x, x < H.n → x ≠ c1 → x ≠ c2 → H'.get x = H.get x := by
  have m1 : (c1, fc g) ∈ E := List.mem_of_getElem? h1
  have m2 : (c2, bst4 o) ∈ E := List.mem_of_getElem? h2
  have l1 := c.lt m1
  have l2 := c.lt m2
  unfold r19
  refine Ok.box c fun A gA c => ?_
  refine Ok.cld c (.head _) rfl (Ok.cld c (.head _) rfl (Ok.cld c (.head _) rfl (Ok.cld c (.head _) rfl (Ok.cld c (.tail _ h0) rfl (Ok.cld c (.tail _ h0) rfl ?_)))))
  refine Ok.own (r20_q hd hp) fun X => ?_
  have hgq := gainq_qb hd hp
  refine Ok.alo c fun B gB c => ?_
  have cB := c
  refine Ok.cld c (.head _) rfl (Ok.cld c (.head _) rfl (Ok.cld c (.tail _ (.tail _ m1)) rfl (Ok.cld c (.tail _ (.tail _ m1)) rfl (Ok.own (r21_q hgq hg (by decide) (by decide)) fun X => ?_))))
  have ec : (0 < cmpq (gainq d p) g) ↔ g < gainq d p := by
    have := @cmp_le (gainq d p) g
    rw [← Rat.not_le, ← Int.not_le, this]
  dsimp only
  have hBn : B.n = H.n + 2 ∨ H.n ≤ B.n := .inr (Nat.le_trans gA.1 gB.1)
  refine Ok.ite (fun cc => ?_) fun cc => ?_
  · have hlt := ec.1 cc
    refine Ok.cld c (.tail _ (.head _)) rfl (Ok.cld c (.tail _ (.head _)) rfl (Ok.cld c (.tail _ (.head _)) rfl (Ok.cld c (.tail _ (.head _)) rfl (Ok.cld c (.head _) rfl (Ok.cld c (.head _) rfl ?_)))))
    refine Ok.cst c (i2 + 2) (by simpa using h2) (by rw [bst4_len]; rfl) fun C nC gC c => ?_
    have cC := c
    have h1' : (E.set i2 (c2, bst4 (some p)))[i1]? = some (c1, fc g) := by rw [List.getElem?_set_ne (fun q => hne q.symm)]; exact h1
    refine Ok.cst c (i1 + 2) (zs := fc g) h1' rfl fun D nD gD c => ?_
    have hst : seeF d (o, g) p = (some p, gainq d p) := by unfold seeF; rw [if_pos hlt]
    refine Ok.cck cC (.head _) rfl (Ok.cck cC (.head _) rfl (Ok.ret ⟨?_, by rw [nD, nC]; exact Nat.le_trans gA.1 gB.1, fun x hx hx1 hx2 => ?_⟩))
    · rw [hst]
      exact Cx.weak c (.cons _ (.cons _ (.refl _)))
    · rw [gD x hx1, gC x hx2, gB.2 x (by have := gA.1; omega), gA.2 x hx]
  · have hst : seeF d (o, g) p = (o, g) := by unfold seeF; rw [if_neg (fun q => cc (ec.2 q))]
    refine Ok.ret ⟨?_, Nat.le_trans gA.1 gB.1, fun x hx _ _ => by rw [gB.2 x (by have := gA.1; omega), gA.2 x hx]⟩
    rw [hst]
    dsimp only
    rw [set_same h2, set_same h1]
    exact c.weak (.cons _ (.cons _ (.refl _)))
theorem seeF_qb {d : Pr} {st : Option (Rat × Rat) × Rat} {p : Rat × Rat} (hd : num d) (hp : qp p) (hg : qb 29160000 3600 st.2) : qb 29160000 3600 (seeF d st p).2 := by
  unfold seeF
  split
  · exact gainq_qb hd hp
  · exact hg
def cornerQ (x : Pr) : Rat × Rat := ((x.1 : Rat), (x.2 : Rat))
def candP (e : List Pr) (d : Pr) (i : Nat) : List (Rat × Rat) :=
  cornerQ (at' e i) :: if 0 < i ∧ okM (lineB (at' e (i - 1)) (at' e i)) d (at' e (i - 1)) (at' e i) then [midq (lineB (at' e (i - 1)) (at' e i)) d] else []
def candsP (e : List Pr) (d : Pr) (n : Nat) : List (Rat × Rat) := (List.range n).flatMap (candP e d)
theorem candsP_succ {e : List Pr} {d : Pr} {n : Nat} : candsP e d (n + 1) = candsP e d n ++ candP e d n := by
  unfold candsP
  rw [List.range_succ, List.flatMap_append]
  simp
theorem corner_qp {x : Pr} (h : num x) : qp (cornerQ x) := by
  unfold num at h
  exact ⟨qb_int (by omega) (by omega) (by omega), qb_int (by omega) (by omega) (by omega)⟩
theorem SL.lt {T : Type} [El T] {H : Hp} {v : Sl} {l : List T} (h : SL H v l) (hl : l ≠ []) : v.b < H.n := by
  have h1 : 0 < (encs l).length := by
    rw [encs_len]
    exact Nat.mul_pos (List.length_pos_iff.2 hl) El.pos
  have := h.cs.ld h1
  unfold Hp.ld at this
  cases hg : H.get v.b with
  | none => rw [hg] at this; cases this
  | some b => exact Hp.get_lt hg
theorem lineF_at {e : List Pr} {i : Nat} (h0 : 0 < i) (h : i < e.length) : ∃ hl : i + 1 < (linesF e).length, (linesF e)[i + 1] = lineB (at' e (i - 1)) (at' e i) := by
  have hl : i + 1 < (linesF e).length := by unfold linesF; simp; omega
  refine ⟨hl, ?_⟩
  obtain ⟨j, rfl⟩ : ∃ j, i = j + 1 := ⟨i - 1, by omega⟩
  simp [linesF]
section
variable {k : Nat} {l e : List Pr} {d : Pr}
theorem r4_l0_ok {HH H : Hp} {v v4 : Sl} {v1 v2 v7 v8 : Nat} (hv : SL HH v l) (ho : offP l) (hd : num d) (hrm : roomP l d) {q : List Pr} (hp : q.Perm l) (hs : q.Pairwise lexP) (he : e = (chainF q).reverse) (hE : EdgeP l e) (hw : SL H v4 e) (hw7 : v4.b ≠ v7) (hw8 : v4.b ≠ v8)
    (c : Cx HH H [(v7, fc (-1)), (v8, bst4 none), (v2, [.int .i64 0, .int .i64 0, .int .i64 0, .int .i64 0]), (v1, pc d)]) :
    Ok (r4_l0 (appA (k + 3)) FUEL v1 v2 v v4 v8 v1 v7 v8 v4 e.length 0 H) fun r H' => Gr HH H' ∧ ∃ o g, (candsP e d e.length).foldl (seeF d) (none, -1) = (o, g) ∧ ∀ p, o = some p → r = pte p 0 := by
  have hwl := hw.len
  have h8 := hE.le
  have hlr := fun x y => lines_reg (x := x) (y := y) hp hs (perm_ne ho hp)
  rw [← he] at hlr
  obtain ⟨hlen, hlb⟩ := hE.lines ho
  have hri := (room_iff (d := d) hlr hlb).2 hrm
  refine Ok.loop (L := fun K (s : Int) H2 => r4_l0 (appA (k + 3)) K v1 v2 v v4 v8 v1 v7 v8 v4 e.length s H2) (fun m s H' => ∃ (i : Nat) (o : Option (Rat × Rat)) (g : Rat), s = i ∧ i + m = e.length ∧ Cx HH H' [(v7, fc g), (v8, bst4 o), (v2, [.int .i64 0, .int .i64 0, .int .i64 0, .int .i64 0]), (v1, pc d)] ∧ SL H' v4 e ∧ (candsP e d i).foldl (seeF d) (none, -1) = (o, g) ∧ qb 29160000 3600 g) ?_ FUEL e.length 0 H (by unfold FUEL; omega) ⟨0, none, -1, rfl, by omega, c, hw, rfl, ⟨by decide, by decide, by decide⟩⟩
  rintro K m s H1 ⟨i, o, g, rfl, hm, c, hw, hf, hgb⟩ ih
  try dsimp only at *
  rw [r4_l0]
  by_cases h : i < e.length
  · have hmem := hE.mem i h
    have hnx := ho.2.2.1 _ hmem
    have hnx' := hnx
    unfold num at hnx'
    have L1 : ∀ X, SL X v4 e → X.ldI .i64 v4.b (v4.o + i * 2) = some (at' e i).1 := fun X hX => by rw [← at_eq h]; exact hX.ldI (i := i) (j := 0) h rfl
    have L2 : ∀ X, SL X v4 e → X.ldI .i64 v4.b (v4.o + i * 2 + 1) = some (at' e i).2 := fun X hX => by rw [← at_eq h]; exact hX.ldI (i := i) (j := 1) h rfl
    refine Ok.pos (by omega) (Ok.ck (by omega) (Ok.ld (L1 _ hw) (Ok.ld (L2 _ hw) (Ok.alo c fun A gA c => ?_))))
    refine Ok.cld c (.head _) rfl (Ok.own (r18_int (by omega) H0) fun X => Ok.cld c (.head _) rfl (Ok.own (r18_int (by omega) H0) fun X => ?_))
    dsimp only
    have hcp := corner_qp hnx
    have hwA := hw.gr gA
    have hwlt := SL.lt hw (by intro q; rw [q] at h; simp at h)
    refine Ok.bind (P := fun r H' => Cx HH H' [(H1.n, pc (at' e i)), (v7, fc (seeF d (o, g) (cornerQ (at' e i))).2), (v8, bst4 (seeF d (o, g) (cornerQ (at' e i))).1), (v2, [.int .i64 0, .int .i64 0, .int .i64 0, .int .i64 0]), (v1, pc d)] ∧ A.n ≤ H'.n ∧ SL H' v4 e) ?_ fun r B ⟨c, nB, hwB⟩ => ?_
    · show Ok ((r19 (fq (cornerQ (at' e i)).1).1 (fq (cornerQ (at' e i)).1).2 (fq (cornerQ (at' e i)).2).1 (fq (cornerQ (at' e i)).2).2 v1 v7 v8 A).map fun p => ((AV.tup [], p.2) : AV × Hp)) _
      obtain ⟨r, H', e1, e2, e3, e4⟩ := r19_ok (i1 := 1) (i2 := 2) hd hcp hgb c (.tail _ (.tail _ (.tail _ (.tail _ (.head _))))) rfl rfl (by decide)
      rw [e1]
      exact ⟨_, H', rfl, e2, e3, hwA.congr (e4 _ (by have := gA.1; omega) hw7 hw8)⟩
    have hf1 : (candsP e d i ++ [cornerQ (at' e i)]).foldl (seeF d) (none, -1) = seeF d (o, g) (cornerQ (at' e i)) := by
      rw [List.foldl_append, hf]; rfl
    have hgb1 := seeF_qb (st := (o, g)) hd hcp hgb
    generalize seeF d (o, g) (cornerQ (at' e i)) = st at *
    have next : ∀ (st' : Option (Rat × Rat) × Rat) C, Cx HH C [(v7, fc st'.2), (v8, bst4 st'.1), (v2, [.int .i64 0, .int .i64 0, .int .i64 0, .int .i64 0]), (v1, pc d)] → SL C v4 e → (candsP e d (i + 1)).foldl (seeF d) (none, -1) = st' → qb 29160000 3600 st'.2 →
        Ok (r4_l0 (appA (k + 3)) K v1 v2 v v4 v8 v1 v7 v8 v4 e.length (w64 ((i : Int) + 1)) C) fun r H' => Gr HH H' ∧ ∃ o g, (candsP e d e.length).foldl (seeF d) (none, -1) = (o, g) ∧ ∀ p, o = some p → r = pte p 0 := fun st' C c hwC hf hg => by
      rw [w64_succ (by omega)]
      exact ih (m - 1) _ C (by omega) ⟨i + 1, st'.1, st'.2, rfl, by omega, c, hwC, hf, hg⟩
    refine Ok.ite (fun h0 => ?_) fun h0 => ?_
    · have h0' : 0 < i := by omega
      obtain ⟨hil, hie⟩ := lineF_at h0' h
      have hlb1 := hlb _ (List.getElem_mem hil)
      have hr1 := hri _ (List.getElem_mem hil)
      have hstp := hE.step (i - 1) (by omega)
      rw [show i - 1 + 1 = i by omega] at hstp
      have hnu := ho.2.2.1 _ (hE.mem (i - 1) (by omega))
      obtain ⟨_, hpa, hpb⟩ := lineB_lb hnu hnx hstp.1 hstp.2
      have gB : Gr HH B := c.g
      refine Ok.bind (r22_ok (k := k + 1) (hv.gr gB) ho) fun s C ⟨gC, hsb, q', hp', hs', hsl⟩ => ?_
      rw [lex_uniq hp' hp hs' hs, ← he] at hsl
      have hslen := hsl.len
      have cB := c
      have c := c.gr gC
      have hwC := hwB.gr gC
      have e1 : w64 ((i : Int) + 1) = ((i + 1 : Nat) : Int) := w64_succ (by omega)
      have e2 : w64 ((i : Int) - 1) = ((i - 1 : Nat) : Int) := by rw [w64_id (by omega) (by omega)]; omega
      have M1 : ∀ X, SL X v4 e → X.ldI .i64 v4.b (v4.o + (i - 1) * 2) = some (at' e (i - 1)).1 := fun X hX => by rw [← at_eq (by omega)]; exact hX.ldI (i := i - 1) (j := 0) (by omega) rfl
      have M2 : ∀ X, SL X v4 e → X.ldI .i64 v4.b (v4.o + (i - 1) * 2 + 1) = some (at' e (i - 1)).2 := fun X hX => by rw [← at_eq (by omega)]; exact hX.ldI (i := i - 1) (j := 1) (by omega) rfl
      have N0 := hsl.ldI (i := i + 1) (j := 0) hil rfl
      have N1 := hsl.ldI (i := i + 1) (j := 1) hil rfl
      have N2 := hsl.ldI (i := i + 1) (j := 2) hil rfl
      rw [hie] at N0 N1 N2 hlb1 hr1
      dsimp only
      rw [e1, e2]
      simp only [Int.toNat_natCast]
      refine Ok.ck (by omega) (Ok.ld N0 (Ok.ld N1 (Ok.ld N2 (Ok.cld c (.tail _ (.tail _ (.tail _ (.tail _ (.head _))))) rfl (Ok.cld c (.tail _ (.tail _ (.tail _ (.tail _ (.head _))))) rfl ?_)))))
      refine Ok.ck (by omega) (Ok.ld (M1 _ hwC) (Ok.ld (M2 _ hwC) (Ok.cld c (.head _) rfl (Ok.cld c (.head _) rfl (Ok.own (r23_q hlb1 hpa hpb hd hnu hnx hr1) fun X => ?_)))))
      dsimp only
      have hqm := (mid_qp hlb1 hpa hpb hd hr1).2.2
      have hcand : candP e d i = cornerQ (at' e i) :: if okM (lineB (at' e (i - 1)) (at' e i)) d (at' e (i - 1)) (at' e i) then [midq (lineB (at' e (i - 1)) (at' e i)) d] else [] := by
        unfold candP
        by_cases hk : okM (lineB (at' e (i - 1)) (at' e i)) d (at' e (i - 1)) (at' e i)
        · rw [if_pos ⟨h0', hk⟩, if_pos hk]
        · rw [if_neg (fun q => hk q.2), if_neg hk]
      have cP := c.push [.int .i64 0, .int .i64 0, .int .i64 0, .int .i64 0]
      have hwP := hwC.gr (Gr.push C (.cells [.int .i64 0, .int .i64 0, .int .i64 0, .int .i64 0] false))
      refine Ok.alo c fun D gD c => ?_
      refine Ok.cck cB (.tail _ (.tail _ (.tail _ (.tail _ (.head _))))) rfl (Ok.cck cB (.tail _ (.tail _ (.tail _ (.tail _ (.head _))))) rfl (Ok.ck (M1 _ hwB) (Ok.ck (M2 _ hwB) (Ok.cck cB (.head _) rfl (Ok.cck cB (.head _) rfl ?_)))))
      refine Ok.cck cP (.tail _ (.tail _ (.tail _ (.tail _ (.tail _ (.head _)))))) rfl (Ok.cck cP (.tail _ (.tail _ (.tail _ (.tail _ (.tail _ (.head _)))))) rfl (Ok.ck (M1 _ hwP) (Ok.ck (M2 _ hwP) (Ok.cck cP (.tail _ (.head _)) rfl (Ok.cck cP (.tail _ (.head _)) rfl ?_)))))
      have hwD := hwC.gr gD
      by_cases hk : okM (lineB (at' e (i - 1)) (at' e i)) d (at' e (i - 1)) (at' e i)
      · rw [if_pos hk] at hcand
        rw [decide_eq_true hk]
        refine Ok.pos rfl (Ok.cld c (.head _) rfl (Ok.cld c (.head _) rfl (Ok.cld c (.head _) rfl (Ok.cld c (.head _) rfl ?_))))
        have hgb2 := seeF_qb (st := st) hd hqm hgb1
        refine Ok.bind (P := fun r H' => Cx HH H' [(C.n, bst4 (some (midq (lineB (at' e (i - 1)) (at' e i)) d))), (H1.n, pc (at' e i)), (v7, fc (seeF d st (midq (lineB (at' e (i - 1)) (at' e i)) d)).2), (v8, bst4 (seeF d st (midq (lineB (at' e (i - 1)) (at' e i)) d)).1), (v2, [.int .i64 0, .int .i64 0, .int .i64 0, .int .i64 0]), (v1, pc d)] ∧ D.n ≤ H'.n ∧ SL H' v4 e) ?_ fun r G ⟨c, nG, hwG⟩ => ?_
        · show Ok ((r19 (fq (midq (lineB (at' e (i - 1)) (at' e i)) d).1).1 (fq (midq (lineB (at' e (i - 1)) (at' e i)) d).1).2 (fq (midq (lineB (at' e (i - 1)) (at' e i)) d).2).1 (fq (midq (lineB (at' e (i - 1)) (at' e i)) d).2).2 v1 v7 v8 D).map fun p => ((AV.tup [], p.2) : AV × Hp)) _
          obtain ⟨r, H', e1, e2, e3, e4⟩ := r19_ok (i1 := 2) (i2 := 3) (o := st.1) (g := st.2) hd hqm hgb1 c (.tail _ (.tail _ (.tail _ (.tail _ (.tail _ (.head _)))))) rfl rfl (by decide)
          rw [e1]
          refine ⟨_, H', rfl, e2, e3, hwD.congr (e4 _ ?_ hw7 hw8)⟩
          have a1 : H1.n ≤ A.n := gA.1
          have a4 : A.n ≤ B.n := nB
          have a2 : B.n ≤ C.n := gC.1
          have a3 : C.n ≤ D.n := gD.1
          omega
        · rw [← e1]
          refine next _ G (c.weak (.cons _ (.cons _ (.refl _)))) hwG ?_ hgb2
          rw [candsP_succ, hcand, List.foldl_append]
          rw [List.foldl_append] at hf1
          simp only [List.foldl_cons, List.foldl_nil] at hf1 ⊢
          rw [hf1]
      · rw [if_neg hk] at hcand
        rw [decide_eq_false hk]
        refine Ok.neg (by simp) ?_
        rw [← e1]
        refine next st D (c.weak (.cons _ (.cons _ (.refl _)))) hwD ?_ hgb1
        rw [candsP_succ, hcand]
        exact hf1
    · have hi0 : i = 0 := by omega
      refine next st B (c.weak (.cons _ (.refl _))) hwB ?_ hgb1
      rw [candsP_succ]
      have : candP e d i = [cornerQ (at' e i)] := by unfold candP; rw [if_neg (fun q => h0 (by omega))]
      rw [this]
      exact hf1
  · have hi : i = e.length := by omega
    subst hi
    refine Ok.neg (by omega) ?_
    have hb4 : ∃ a b c' d', bst4 o = [.int .i64 a, .int .i64 b, .int .i64 c', .int .i64 d'] ∧ ∀ p, o = some p → (a, b, c', d', (0 : Int)) = pte p 0 := by
      cases o with
      | none => exact ⟨0, 0, 0, 0, rfl, fun p h => by cases h⟩
      | some p => exact ⟨_, _, _, _, rfl, fun p' h => by injection h with h; subst h; rfl⟩
    obtain ⟨x1, x2, x3, x4, hb4, hpe⟩ := hb4
    rw [hb4] at c
    refine Ok.cld c (.tail _ (.head _)) rfl (Ok.cld c (.tail _ (.head _)) rfl (Ok.cld c (.tail _ (.head _)) rfl (Ok.cld c (.tail _ (.head _)) rfl ?_)))
    refine Ok.cst c 2 rfl rfl fun D _ _ c => ?_
    exact Ok.cld c (.tail _ (.tail _ (.head _))) rfl (Ok.cld c (.tail _ (.tail _ (.head _))) rfl (Ok.cld c (.tail _ (.tail _ (.head _))) rfl (Ok.cld c (.tail _ (.tail _ (.head _))) rfl (Ok.ret ⟨c.g, o, g, hf, hpe⟩))))
end
end Go.Lt.P5

namespace Go.Lt.P5
open Go.Lt
/-! ### the greatest product -/
theorem fold_max (d : Pr) (C : List (Rat × Rat)) : (C.foldl (seeF d) (none, -1) = (none, -1) ∧ ∀ p ∈ C, gainq d p ≤ -1) ∨ ∃ p ∈ C, C.foldl (seeF d) (none, -1) = (some p, gainq d p) ∧ ∀ p' ∈ C, gainq d p' ≤ gainq d p := by
  have key : ∀ n, n ≤ C.length → ((C.take n).foldl (seeF d) (none, -1) = (none, -1) ∧ ∀ p ∈ C.take n, gainq d p ≤ -1) ∨ ∃ p ∈ C.take n, (C.take n).foldl (seeF d) (none, -1) = (some p, gainq d p) ∧ ∀ p' ∈ C.take n, gainq d p' ≤ gainq d p := by
    intro n
    induction n with
    | zero => intro _; left; simp
    | succ n ih =>
      intro hn
      have hlt : n < C.length := by omega
      rw [List.take_succ_eq_append_getElem hlt, List.foldl_append]
      rcases ih (by omega) with ⟨h1, h2⟩ | ⟨p, hp, h1, h2⟩
      · rw [h1]
        simp only [List.foldl_cons, List.foldl_nil, seeF]
        by_cases c : -1 < gainq d C[n]
        · right
          rw [if_pos c]
          refine ⟨C[n], List.mem_append_right _ (List.mem_singleton.2 rfl), rfl, fun p' hp' => ?_⟩
          rcases List.mem_append.1 hp' with h | h
          · have := h2 p' h; grind
          · rw [List.mem_singleton] at h; subst h; exact Rat.le_refl
        · left
          rw [if_neg c]
          refine ⟨rfl, fun p' hp' => ?_⟩
          rcases List.mem_append.1 hp' with h | h
          · exact h2 p' h
          · rw [List.mem_singleton] at h; subst h; grind
      · rw [h1]
        simp only [List.foldl_cons, List.foldl_nil, seeF]
        right
        by_cases c : gainq d p < gainq d C[n]
        · rw [if_pos c]
          refine ⟨C[n], List.mem_append_right _ (List.mem_singleton.2 rfl), rfl, fun p' hp' => ?_⟩
          rcases List.mem_append.1 hp' with h | h
          · have := h2 p' h; grind
          · rw [List.mem_singleton] at h; subst h; exact Rat.le_refl
        · rw [if_neg c]
          refine ⟨p, List.mem_append_left _ hp, rfl, fun p' hp' => ?_⟩
          rcases List.mem_append.1 hp' with h | h
          · exact h2 p' h
          · rw [List.mem_singleton] at h; subst h; grind
  have := key C.length (Nat.le_refl _)
  rw [List.take_length] at this
  exact this
theorem gainq_pos {d : Pr} {p : Rat × Rat} (h1 : 0 ≤ p.1 - d.1) (h2 : 0 ≤ p.2 - d.2) : gainq d p = (p.1 - d.1) * (p.2 - d.2) := by
  unfold gainq
  rw [if_neg (by rintro (c | c) <;> grind)]
theorem of_gainq {d : Pr} {p : Rat × Rat} (h : 0 < gainq d p) : 0 < p.1 - d.1 ∧ 0 < p.2 - d.2 ∧ gainq d p = (p.1 - d.1) * (p.2 - d.2) := by
  unfold gainq at h
  split at h
  · exact absurd h (by decide)
  · rename_i c
    have h1 : 0 ≤ p.1 - d.1 := by grind
    have h2 : 0 ≤ p.2 - d.2 := by grind
    refine ⟨?_, ?_, gainq_pos h1 h2⟩
    · by_cases e : p.1 - d.1 = 0
      · rw [e, Rat.zero_mul] at h; grind
      · grind
    · by_cases e : p.2 - d.2 = 0
      · rw [e, Rat.mul_zero] at h; grind
      · grind
theorem amgm {x y r : Rat} (hx : 0 ≤ x) (hy : 0 ≤ y) (h : x + y ≤ r) : 4 * (x * y) ≤ r * r := by
  have h1 : 0 ≤ (x - y) * (x - y) := sq_nn
  have h2 := Rat.mul_le_mul_of_nonneg_left h (show 0 ≤ x + y by grind)
  have h3 := Rat.mul_le_mul_of_nonneg_right h (show 0 ≤ r by grind)
  grind
theorem mid_gain {a b u v r : Rat} (ha : 0 < a) (hb : 0 < b) (hu : 0 < u) (hv : 0 < v) (h : a * u + b * v ≤ r) {U V : Rat} (hU : 2 * a * U = r) (hV : 2 * b * V = r) : u * v ≤ U * V := by
  have h1 := amgm (Rat.le_of_lt (Rat.mul_pos ha hu)) (Rat.le_of_lt (Rat.mul_pos hb hv)) h
  have e1 : r * r = 4 * (a * b) * (U * V) := by
    calc r * r = (2 * a * U) * (2 * b * V) := by rw [hU, hV]
      _ = 4 * (a * b) * (U * V) := by grind
  have e2 : 4 * (a * u * (b * v)) = 4 * (a * b) * (u * v) := by grind
  rw [e1, e2] at h1
  have := Rat.mul_pos ha hb
  exact Rat.le_of_mul_le_mul_left h1 (by grind)
theorem left_gain {a b u v r U V : Rat} (ha : 0 < a) (hb : 0 < b) (hu : 0 < u) (hv : 0 < v) (h : a * u + b * v ≤ r) (hUV : a * U + b * V = r) (h1 : r < 2 * a * U) (h2 : U ≤ u) : 0 < U ∧ 0 < V ∧ u * v ≤ U * V := by
  have p1 := Rat.mul_pos ha hu
  have p2 := Rat.mul_pos hb hv
  have hU : 0 < U := by
    by_cases c : 0 < U
    · exact c
    · have := Rat.mul_le_mul_of_nonneg_left (show U ≤ 0 by grind) (Rat.le_of_lt ha)
      grind
  have m1 := Rat.mul_le_mul_of_nonneg_left h2 (Rat.le_of_lt ha)
  have hVv : b * v ≤ b * V := by grind
  have hV : 0 < V := by
    have := Rat.le_of_mul_le_mul_left hVv hb
    grind
  refine ⟨hU, hV, ?_⟩
  -- u (r - a u) <= U (r - a U)
  have m2 : 0 ≤ (u - U) * (a * U + a * u - r) := Rat.mul_nonneg (by grind) (by grind)
  have m3 := Rat.mul_le_mul_of_nonneg_left (show b * v ≤ r - a * u by grind) (Rat.le_of_lt hu)
  have e : b * (U * V) = U * (r - a * U) := by grind
  refine Rat.le_of_mul_le_mul_left (c := b) ?_ hb
  rw [e]
  grind
theorem right_gain {a b u v r U V : Rat} (ha : 0 < a) (hb : 0 < b) (hu : 0 < u) (hv : 0 < v) (h : a * u + b * v ≤ r) (hUV : a * U + b * V = r) (h1 : 2 * a * U < r) (h2 : u ≤ U) : 0 < U ∧ 0 < V ∧ u * v ≤ U * V := by
  have p1 := Rat.mul_pos ha hu
  have p2 := Rat.mul_pos hb hv
  have hU : 0 < U := by grind
  have p3 := Rat.mul_pos ha hU
  have hV : 0 < V := by
    by_cases c : 0 < V
    · exact c
    · have := Rat.mul_le_mul_of_nonneg_left (show V ≤ 0 by grind) (Rat.le_of_lt hb)
      grind
  refine ⟨hU, hV, ?_⟩
  have m1 := Rat.mul_le_mul_of_nonneg_left h2 (Rat.le_of_lt ha)
  have m2 : 0 ≤ (U - u) * (r - a * U - a * u) := Rat.mul_nonneg (by grind) (by grind)
  have m3 := Rat.mul_le_mul_of_nonneg_left (show b * v ≤ r - a * u by grind) (Rat.le_of_lt hu)
  have e : b * (U * V) = U * (r - a * U) := by grind
  refine Rat.le_of_mul_le_mul_left (c := b) ?_ hb
  rw [e]
  grind
theorem mid_val {r b d : Int} (hb : 0 < b) : 2 * (b : Rat) * (dv (r + 2 * b * d) (2 * b) - d) = (r : Rat) := by
  have h := cast_pos hb
  unfold dv
  rw [cast_sub_mul, Rat.intCast_mul]
  have e2 : ((2 : Int) : Rat) = 2 := rfl
  rw [e2]
  generalize (r : Rat) = r at *
  generalize (b : Rat) = b at *
  generalize (d : Rat) = d at *
  have hne : 2 * b ≠ 0 := by grind
  have := Rat.div_mul_cancel (a := r + 2 * b * d) hne
  grind
section
variable {l e : List Pr} {d : Pr}
theorem seg_up {x : Rat} : ∀ n, 0 < n → n ≤ e.length → x ≤ ((at' e (n - 1)).1 : Rat) → x ≤ ((at' e 0).1 : Rat) ∨ ∃ i, i + 1 < n ∧ ((at' e i).1 : Rat) < x ∧ x ≤ ((at' e (i + 1)).1 : Rat) := by
  intro n
  induction n with
  | zero => intro h; omega
  | succ n ih =>
    intro _ hn hx
    by_cases h0 : n = 0
    · subst h0; left; exact hx
    · by_cases c : x ≤ ((at' e (n - 1)).1 : Rat)
      · rcases ih (by omega) (by omega) c with h | ⟨i, h1, h2⟩
        · exact .inl h
        · exact .inr ⟨i, by omega, h2⟩
      · refine .inr ⟨n - 1, by omega, by grind, ?_⟩
        rw [show n - 1 + 1 = n by omega]
        exact hx
theorem line_eq {u t : Pr} : (lineB u t).1 * u.1 + (lineB u t).2.1 * u.2 = (lineB u t).2.2 ∧ (lineB u t).1 * t.1 + (lineB u t).2.1 * t.2 = (lineB u t).2.2 := by
  unfold lineB
  dsimp only
  constructor <;> grind
theorem line_gain {t : Tr} {x d : Pr} (h : t.1 * x.1 + t.2.1 * x.2 = t.2.2) : (t.1 : Rat) * ((x.1 : Rat) - d.1) + (t.2.1 : Rat) * ((x.2 : Rat) - d.2) = (restF t d : Rat) := by
  unfold restF
  have : ((t.1 * x.1 + t.2.1 * x.2 : Int) : Rat) = (t.2.2 : Rat) := by rw [h]
  rw [Rat.intCast_add, Rat.intCast_mul, Rat.intCast_mul] at this
  rw [Rat.intCast_sub, Rat.intCast_sub, Rat.intCast_mul, Rat.intCast_mul]
  grind
theorem cands_cover (ho : offP l) (hE : EdgeP l e) (hlr : ∀ x y, (∀ t ∈ linesF e, lq t x y) ↔ reg l x y) {x y : Rat} (hr : reg l x y) (hx : (d.1 : Rat) < x) (hy : (d.2 : Rat) < y) : ∃ p ∈ candsP e d e.length, (x - d.1) * (y - d.2) ≤ gainq d p := by
  have hp := hE.pos
  have hL := (hlr x y).2 hr
  have corner_in : ∀ i, i < e.length → cornerQ (at' e i) ∈ candsP e d e.length := fun i hi => by
    unfold candsP
    exact List.mem_flatMap.2 ⟨i, List.mem_range.2 hi, List.mem_cons_self⟩
  obtain ⟨t1, t2⟩ := hE.top
  have hx2 := hL _ t2
  have hy2 := hL _ t1
  unfold lq at hx2 hy2
  dsimp only at hx2 hy2
  have c0 : ((0 : Int) : Rat) = 0 := rfl
  have c1 : ((1 : Int) : Rat) = 1 := rfl
  rw [c0, c1] at hx2 hy2
  rcases seg_up (e := e) (x := x) e.length hp (Nat.le_refl _) (by grind) with h | ⟨i, hi, h1, h2⟩
  · refine ⟨_, corner_in 0 hp, ?_⟩
    have e1 : (cornerQ (at' e 0)).1 = ((at' e 0).1 : Rat) := rfl
    have e2 : (cornerQ (at' e 0)).2 = ((at' e 0).2 : Rat) := rfl
    rw [gainq_pos (by rw [e1]; grind) (by rw [e2]; grind), e1, e2]
    have m1 := Rat.mul_le_mul_of_nonneg_left (show y - d.2 ≤ (at' e 0).2 - (d.2 : Rat) by grind) (show 0 ≤ x - d.1 by grind)
    have m2 := Rat.mul_le_mul_of_nonneg_right (show x - d.1 ≤ (at' e 0).1 - (d.1 : Rat) by grind) (show 0 ≤ (at' e 0).2 - (d.2 : Rat) by grind)
    exact Rat.le_trans m1 m2
  · have hst := hE.step i hi
    have hn0 := ho.2.2.1 _ (hE.mem i (by omega))
    have hn1 := ho.2.2.1 _ (hE.mem (i + 1) hi)
    obtain ⟨hlb, ha, hb⟩ := lineB_lb hn0 hn1 hst.1 hst.2
    have hmem : lineB (at' e i) (at' e (i + 1)) ∈ linesF e := by
      unfold linesF
      exact List.mem_cons_of_mem _ (List.mem_cons_of_mem _ (List.mem_map.2 ⟨i, List.mem_range.2 (by omega), rfl⟩))
    have hl := hL _ hmem
    obtain ⟨le0, le1⟩ := @line_eq (at' e i) (at' e (i + 1))
    have g0 := line_gain (d := d) le0
    have g1 := line_gain (d := d) le1
    have hcs : ∀ (hk : okM (lineB (at' e i) (at' e (i + 1))) d (at' e i) (at' e (i + 1))), midq (lineB (at' e i) (at' e (i + 1))) d ∈ candsP e d e.length := fun hk => by
      unfold candsP
      refine List.mem_flatMap.2 ⟨i + 1, List.mem_range.2 hi, ?_⟩
      unfold candP
      rw [Nat.add_sub_cancel, if_pos ⟨by omega, hk⟩]
      simp
    have q0 : cornerQ (at' e i) = (((at' e i).1 : Rat), ((at' e i).2 : Rat)) := rfl
    have q1 : cornerQ (at' e (i + 1)) = (((at' e (i + 1)).1 : Rat), ((at' e (i + 1)).2 : Rat)) := rfl
    have in0 := corner_in i (by omega)
    have in1 := corner_in (i + 1) hi
    rw [q0] at in0
    rw [q1] at in1
    generalize lineB (at' e i) (at' e (i + 1)) = t at *
    have va := mid_val (r := restF t d) (b := t.1) (d := d.1) ha
    have vb := mid_val (r := restF t d) (b := t.2.1) (d := d.2) hb
    have ha' := cast_pos ha
    have hb' := cast_pos hb
    have hle : (t.1 : Rat) * (x - d.1) + (t.2.1 : Rat) * (y - d.2) ≤ (restF t d : Rat) := by
      unfold lq at hl
      unfold restF
      rw [Rat.intCast_sub, Rat.intCast_sub, Rat.intCast_mul, Rat.intCast_mul]
      grind
    have hu : 0 < x - d.1 := by grind
    have hv : 0 < y - d.2 := by grind
    have em : midq t d = (dv (restF t d + 2 * t.1 * d.1) (2 * t.1), dv (restF t d + 2 * t.2.1 * d.2) (2 * t.2.1)) := rfl
    by_cases hk : okM t d (at' e i) (at' e (i + 1))
    · refine ⟨_, hcs hk, ?_⟩
      have hg := mid_gain ha' hb' hu hv hle va vb
      have hpos : 0 < (restF t d : Rat) := by
        have := Rat.mul_pos ha' hu
        have := Rat.mul_pos hb' hv
        grind
      have pu : 0 ≤ dv (restF t d + 2 * t.1 * d.1) (2 * t.1) - (d.1 : Rat) := by
        by_cases c : 0 ≤ dv (restF t d + 2 * t.1 * d.1) (2 * t.1) - (d.1 : Rat)
        · exact c
        · have := Rat.mul_pos ha' (show 0 < -(dv (restF t d + 2 * t.1 * d.1) (2 * t.1) - (d.1 : Rat)) by grind)
          grind
      have pv : 0 ≤ dv (restF t d + 2 * t.2.1 * d.2) (2 * t.2.1) - (d.2 : Rat) := by
        by_cases c : 0 ≤ dv (restF t d + 2 * t.2.1 * d.2) (2 * t.2.1) - (d.2 : Rat)
        · exact c
        · have := Rat.mul_pos hb' (show 0 < -(dv (restF t d + 2 * t.2.1 * d.2) (2 * t.2.1) - (d.2 : Rat)) by grind)
          grind
      rw [gainq_pos (by rw [em]; exact pu) (by rw [em]; exact pv), em]
      exact hg
    · have hk' : dv (restF t d + 2 * t.1 * d.1) (2 * t.1) < ((at' e i).1 : Rat) ∨ ((at' e (i + 1)).1 : Rat) < dv (restF t d + 2 * t.1 * d.1) (2 * t.1) := by
        unfold okM at hk
        rw [em] at hk
        dsimp only at hk
        grind
      clear hk hcs em vb hl hL t1 t2 hx2 hy2 corner_in
      rcases hk' with c | c
      · have h3 : (restF t d : Rat) < 2 * (t.1 : Rat) * (((at' e i).1 : Rat) - d.1) := by
          rw [← va]
          exact Rat.mul_lt_mul_of_pos_left (by grind) (by grind)
        obtain ⟨k1, k2, k3⟩ := left_gain ha' hb' hu hv hle g0 h3 (by grind)
        refine ⟨_, in0, ?_⟩
        rw [gainq_pos (Rat.le_of_lt k1) (Rat.le_of_lt k2)]
        exact k3
      · have h3 : 2 * (t.1 : Rat) * (((at' e (i + 1)).1 : Rat) - d.1) < (restF t d : Rat) := by
          rw [← va]
          exact Rat.mul_lt_mul_of_pos_left (by grind) (by grind)
        obtain ⟨k1, k2, k3⟩ := right_gain ha' hb' hu hv hle g1 h3 (by grind)
        refine ⟨_, in1, ?_⟩
        rw [gainq_pos (Rat.le_of_lt k1) (Rat.le_of_lt k2)]
        exact k3
theorem cand_reg (ho : offP l) (hE : EdgeP l e) (hd : num d) (hri : ∀ t ∈ linesF e, 0 < restF t d) {p : Rat × Rat} (h : p ∈ candsP e d e.length) : reg l p.1 p.2 ∧ qp p := by
  unfold candsP at h
  obtain ⟨i, hi, h⟩ := List.mem_flatMap.1 h
  rw [List.mem_range] at hi
  have hni := ho.2.2.1 _ (hE.mem i hi)
  unfold candP at h
  rcases List.mem_cons.1 h with rfl | h
  · exact ⟨reg.mem (hE.mem i hi), corner_qp hni⟩
  · split at h
    · rename_i hk
      rw [List.mem_singleton] at h
      subst h
      obtain ⟨h0, hk1, hk2⟩ := hk
      have hst := hE.step (i - 1) (by omega)
      rw [show i - 1 + 1 = i by omega] at hst
      have hnu := ho.2.2.1 _ (hE.mem (i - 1) (by omega))
      obtain ⟨hlb, ha, hb⟩ := lineB_lb hnu hni hst.1 hst.2
      obtain ⟨hil, hie⟩ := lineF_at h0 hi
      have hr := hri _ (List.getElem_mem hil)
      rw [hie] at hr
      refine ⟨?_, (mid_qp hlb ha hb hd hr).2.2⟩
      have r0 := reg.mem (hE.mem (i - 1) (by omega))
      have r1 := reg.mem (hE.mem i hi)
      obtain ⟨le0, le1⟩ := @line_eq (at' e (i - 1)) (at' e i)
      have g0 := line_gain (d := d) le0
      have g1 := line_gain (d := d) le1
      generalize lineB (at' e (i - 1)) (at' e i) = t at *
      have va := mid_val (r := restF t d) (b := t.1) (d := d.1) ha
      have vb := mid_val (r := restF t d) (b := t.2.1) (d := d.2) hb
      have ha' := cast_pos ha
      have hb' := cast_pos hb
      have hx : ((at' e (i - 1)).1 : Rat) < ((at' e i).1 : Rat) := by exact_mod_cast hst.1
      unfold midq at *
      dsimp only at *
      generalize dv (restF t d + 2 * t.1 * d.1) (2 * t.1) = X at *
      generalize dv (restF t d + 2 * t.2.1 * d.2) (2 * t.2.1) = Y at *
      generalize ((at' e (i - 1)).1 : Rat) = x0 at *
      generalize ((at' e (i - 1)).2 : Rat) = y0 at *
      generalize ((at' e i).1 : Rat) = x1 at *
      generalize ((at' e i).2 : Rat) = y1 at *
      generalize (restF t d : Rat) = r at *
      generalize (t.1 : Rat) = a at *
      generalize (t.2.1 : Rat) = b at *
      generalize (d.1 : Rat) = d1 at *
      generalize (d.2 : Rat) = d2 at *
      have hw : 0 < x1 - x0 := by grind
      have hs : (X - x0) / (x1 - x0) * (x1 - x0) = X - x0 := Rat.div_mul_cancel (by grind)
      generalize (X - x0) / (x1 - x0) = s at *
      have s0 : 0 ≤ s := by
        by_cases c : 0 ≤ s
        · exact c
        · have := Rat.mul_pos (show 0 < -s by grind) hw
          grind
      have s1 : s ≤ 1 := by
        by_cases c : s ≤ 1
        · exact c
        · have := Rat.mul_pos (show 0 < s - 1 by grind) hw
          grind
      have hc := r0.conv r1 s0 s1
      have eX : (1 - s) * x0 + s * x1 = X := by grind
      have eY : (1 - s) * y0 + s * y1 = Y := by
        have e3 : b * (((1 - s) * y0 + s * y1) - Y) = 0 := by grind
        rcases Rat.mul_eq_zero.1 e3 with c | c
        · grind
        · grind
      rw [eX, eY] at hc
      exact hc
    · cases h
theorem prod_ok (ho : offP l) (hE : EdgeP l e) (hd : num d) (hlr : ∀ x y, (∀ t ∈ linesF e, lq t x y) ↔ reg l x y) (hrm : roomP l d) : ∃ p, (candsP e d e.length).foldl (seeF d) (none, -1) = (some p, gainq d p) ∧ IsProd l d p ∧ qp p ∧ p ∈ candsP e d e.length ∧ 0 < gainq d p ∧ ∀ p' ∈ candsP e d e.length, gainq d p' ≤ gainq d p := by
  have hri := (room_iff (d := d) hlr (hE.lines ho).2).2 hrm
  obtain ⟨x, y, hxy, hx, hy⟩ := hrm
  obtain ⟨c, hc, hg⟩ := cands_cover ho hE hlr hxy hx hy
  have hpos : 0 < (x - d.1) * (y - d.2) := Rat.mul_pos (by grind) (by grind)
  rcases fold_max d (candsP e d e.length) with ⟨h1, h2⟩ | ⟨p, hp, h1, h2⟩
  · exfalso
    have := h2 c hc
    grind
  · have hgp : 0 < gainq d p := by
      have := h2 c hc
      grind
    obtain ⟨u, v, ew⟩ := of_gainq hgp
    obtain ⟨hr, hq⟩ := cand_reg ho hE hd hri hp
    refine ⟨p, h1, ⟨hr, by grind, by grind, fun x y hxy hx hy => ?_⟩, hq, hp, hgp, h2⟩
    obtain ⟨c, hc, hg⟩ := cands_cover ho hE hlr hxy hx hy
    rw [← ew]
    exact Rat.le_trans hg (h2 c hc)
end
end Go.Lt.P5
