/- PLAIN LAWS OF WHAT IS COMPUTED, for the statement 'DealsIs'. Nothing is asked of the input. -/
import Derived.Test.YtficeemoekikdaaU5VPt
set_option linter.unusedVariables false
set_option linter.unusedSimpArgs false
namespace Go.Lt.P5
open Go Go.Lt Go.Proofs
/-- the line through an offer and another one to the right of it and below -/
def candG (o p : Pr) : List Tr := if o.1 < p.1 ∧ p.2 < o.2 then [(o.2 - p.2, p.1 - o.1, (o.2 - p.2) * o.1 + (p.1 - o.1) * o.2)] else []
def candF (l : List Pr) (o : Pr) : List Tr := (1, 0, o.1) :: (0, 1, o.2) :: l.flatMap (candG o)
def cands (l : List Pr) : List Tr := l.flatMap (candF l)
/-- all offers lie under it -/
def keeps (l : List Pr) (t : Tr) : Prop := ∀ o ∈ l, t.1 * o.1 + t.2.1 * o.2 ≤ t.2.2
instance (l : List Pr) (t : Tr) : Decidable (keeps l t) := by unfold keeps; infer_instance
def limits (l : List Pr) : List Tr := (cands l).filter fun t => decide (keeps l t)
theorem candG_tb {o p : Pr} (ho : num o) (hp : num p) : ∀ t ∈ candG o p, tb t := by
  intro t ht
  unfold candG at ht
  split at ht
  · rw [List.mem_singleton] at ht
    subst ht
    unfold num at ho hp
    have b1 := mul_bd (A := 30) (B := 30) (x := o.2 - p.2) (y := o.1) (by omega) (by omega) (by omega) (by omega)
    have b2 := mul_bd (A := 30) (B := 30) (x := p.1 - o.1) (y := o.2) (by omega) (by omega) (by omega) (by omega)
    unfold tb
    dsimp only
    omega
  · cases ht
theorem cands_tb {l : List Pr} (h : ∀ x ∈ l, num x) : ∀ t ∈ cands l, tb t := by
  intro t ht
  unfold cands at ht
  obtain ⟨o, ho, ht⟩ := List.mem_flatMap.1 ht
  have hn := h o ho
  unfold candF at ht
  rcases List.mem_cons.1 ht with rfl | ht
  · unfold num at hn; unfold tb; dsimp only; omega
  · rcases List.mem_cons.1 ht with rfl | ht
    · unfold num at hn; unfold tb; dsimp only; omega
    · obtain ⟨p, hp, ht⟩ := List.mem_flatMap.1 ht
      exact candG_tb hn (h p hp) t ht
section
variable {Q : Sl → Hp → Prop}
/-- the inner loop over the offers -/
theorem r55_l1_ok {n0 H : Hp} {v w z : Sl} {l : List Pr} {L : List Tr} {pb : Nat} {o : Pr} {iv : Int} {vv : Sl} {ln : Int} (hv : SL n0 v l) (hl8 : l.length ≤ 8) (hn : ∀ x ∈ l, num x) (ho : num o) (hL : L.length ≤ 1000) (g : Gr n0 H) (ha : AccL n0.n H w L) (hp : H.get pb = some (.cells [.int .i64 o.1, .int .i64 o.2] false))
    {kt0 : Sl → Sl → Sl → Sl → Int → Int → Hp → Option (Sl × Hp)} (k : ∀ w' H', AccL n0.n H' w' (L ++ l.flatMap (candG o)) → Gr n0 H' → (L ++ l.flatMap (candG o)).length ≤ L.length + l.length → Ok (kt0 v w' z vv ln (w64 (iv + 1)) H') Q) : Ok (r55_l1 kt0 FUEL v w z pb vv ln iv v l.length 0 H) Q := by
  have hlen := hv.len
  refine Ok.loop (L := fun K (s : Sl × Int) H2 => r55_l1 kt0 K v s.1 z pb vv ln iv v l.length s.2 H2) (fun m s H' => ∃ i : Nat, s.2 = i ∧ i + m = l.length ∧ Gr n0 H' ∧ H'.get pb = some (.cells [.int .i64 o.1, .int .i64 o.2] false) ∧ AccL n0.n H' s.1 (L ++ (l.take i).flatMap (candG o)) ∧ (L ++ (l.take i).flatMap (candG o)).length ≤ L.length + i) ?_ FUEL l.length (w, 0) H (by unfold FUEL; omega) ⟨0, rfl, by omega, g, hp, by simpa using ha, by simp⟩
  rintro K m ⟨u, s⟩ H2 ⟨i, rfl, hm, g2, hp2, ha2, hle⟩ ih
  try dsimp only at *
  rw [r55_l1]
  by_cases h : i < l.length
  · have hg := hv.gr g2
    have hx := hn _ (List.getElem_mem h)
    obtain ⟨E, hE, hE', gE, nE⟩ := sts2 H2 (.int .i64 l[i].1) (.int .i64 l[i].2) (.int .i64 0) (.int .i64 0)
    have hpE : E.get pb = some (.cells [.int .i64 o.1, .int .i64 o.2] false) := by rw [gE.2 _ (Hp.get_lt hp2)]; exact hp2
    have gB := g2.trans gE
    have el : (l.take (i + 1)).flatMap (candG o) = (l.take i).flatMap (candG o) ++ candG o l[i] := by rw [List.take_succ_eq_append_getElem h, List.flatMap_append]; simp
    have off : ¬ (o.1 < l[i].1 ∧ l[i].2 < o.2) → Ok (r55_j3 (fun v1_ v2_ v3_ v4_ v5_ v6_ v7_ v8_ v9_ v10_ H_ => r55_l1 kt0 K v1_ v2_ v3_ v4_ v5_ v6_ v7_ v8_ v9_ v10_ H_) v u z pb H2.n vv ln iv v l.length i false E) Q := fun hno => by
      unfold r55_j3
      refine Ok.neg (by simp) ?_
      rw [w64_succ (by omega)]
      have : candG o l[i] = [] := by unfold candG; rw [if_neg hno]
      exact ih (m - 1) (u, _) E (by omega) ⟨i + 1, rfl, by omega, gB, hpE, by rw [el, this, List.append_nil]; exact ha2.gr gE, by rw [el, this, List.append_nil]; omega⟩
    refine Ok.pos (by omega) (Ok.ck (by omega) (Ok.ld (hg.ldI (i := i) (j := 0) h rfl) (Ok.ld (hg.ldI (i := i) (j := 1) h rfl) (Ok.ld hE (Ok.ld (ldI_get hE' rfl) (Ok.ld (ldI_get hpE rfl) ?_))))))
    refine Ok.ite (fun c1 => Ok.ld (ldI_get hE' rfl) (Ok.ld (ldI_get hpE rfl) ?_)) fun c1 => off (fun c => c1 c.1)
    by_cases c2 : l[i].2 < o.2
    · rw [decide_eq_true c2]
      unfold r55_j3
      refine Ok.pos rfl (Ok.ld (ldI_get hpE rfl) (Ok.ld (ldI_get hE' rfl) (Ok.ld (ldI_get hE' rfl) (Ok.ld (ldI_get hpE rfl) (Ok.ld (ldI_get hpE rfl) (Ok.ld (ldI_get hE' rfl) (Ok.ld (ldI_get hpE rfl) (Ok.ld (ldI_get hE' rfl) (Ok.ld (ldI_get hpE rfl) (Ok.ld (ldI_get hpE rfl) ?_))))))))))
      unfold num at ho hx
      have b1 := mul_bd (A := 30) (B := 30) (x := o.2 - l[i].2) (y := o.1) (by omega) (by omega) (by omega) (by omega)
      have b2 := mul_bd (A := 30) (B := 30) (x := l[i].1 - o.1) (y := o.2) (by omega) (by omega) (by omega) (by omega)
      rw [w64_id (n := o.2 - l[i].2) (by omega) (by omega), w64_id (n := l[i].1 - o.1) (by omega) (by omega), w64_id (n := (o.2 - l[i].2) * o.1) (by omega) (by omega), w64_id (n := (l[i].1 - o.1) * o.2) (by omega) (by omega), w64_id (by omega) (by omega)]
      have : candG o l[i] = [(o.2 - l[i].2, l[i].1 - o.1, (o.2 - l[i].2) * o.1 + (l[i].1 - o.1) * o.2)] := by unfold candG; rw [if_pos ⟨c1, c2⟩]
      refine Ok.bind ((ha2.gr gE).push gB (o.2 - l[i].2, l[i].1 - o.1, (o.2 - l[i].2) * o.1 + (l[i].1 - o.1) * o.2) rfl rfl (by omega)) fun u2 H3 ⟨ha3, g3, bt, _⟩ => ?_
      rw [w64_succ (by omega)]
      refine ih (m - 1) (u2, _) H3 (by omega) ⟨i + 1, rfl, by omega, g3, ?_, by rw [el, this, ← List.append_assoc]; exact ha3, by rw [el, this, ← List.append_assoc, List.length_append]; simp only [List.length_singleton]; omega⟩
      rw [bt.2 _ (Hp.get_lt hpE) ?_]
      · exact hpE
      · intro hnu e
        have h1 := ha2.gr gE
        unfold AccL at h1
        rcases h1 with ⟨rfl, _⟩ | ⟨_, _, _, _, _, h6, _⟩
        · simp [nilS] at hnu
        · rw [← e, hpE] at h6
          injection h6 with h6
          injection h6 with h6
          have q1 := congrArg List.length h6
          rw [encs_len] at q1
          have q2 : El.sz Tr = 3 := rfl
          rw [q2] at q1
          simp only [List.length_cons, List.length_nil] at q1
          omega
    · rw [decide_eq_false c2]
      exact off (fun c => c2 c.2)
  · rw [List.take_of_length_le (by omega)] at ha2 hle
    exact Ok.neg (by omega) (k u H2 ha2 g2 (by omega))
/-- one candidate is looked at -/
theorem r55_l4_ok {n0 H : Hp} {v w vv : Sl} {l : List Pr} {L : List Tr} {pb : Nat} {t : Tr} {ln iv : Int} (hv : SL n0 v l) (hl8 : l.length ≤ 8) (hn : ∀ x ∈ l, num x) (ht : tb t) (hL : L.length ≤ 1000) (g : Gr n0 H) (ha : AccL n0.n H w L) (hp : H.get pb = some (.cells [.int .i64 t.1, .int .i64 t.2.1, .int .i64 t.2.2] false))
    {kt2 : Sl → Sl → Sl → Int → Int → Hp → Option (Sl × Hp)} (k : ∀ w' H', AccL n0.n H' w' (L ++ [t].filter fun t => decide (keeps l t)) → Gr n0 H' → Ok (kt2 v w' vv ln (w64 (iv + 1)) H') Q) : Ok (r55_l4 kt2 FUEL v w pb true vv ln iv v l.length 0 H) Q := by
  have hlen := hv.len
  refine Ok.loop (L := fun K (s : Bool × Int) H2 => r55_l4 kt2 K v w pb s.1 vv ln iv v l.length s.2 H2) (fun m s H' => ∃ i : Nat, s.2 = i ∧ i + m = l.length ∧ Gr n0 H' ∧ AccL n0.n H' w L ∧ H'.get pb = some (.cells [.int .i64 t.1, .int .i64 t.2.1, .int .i64 t.2.2] false) ∧ s.1 = decide (keeps (l.take i) t)) ?_ FUEL l.length (true, 0) H (by unfold FUEL; omega) ⟨0, rfl, by omega, g, ha, hp, by simp [keeps]⟩
  rintro K m ⟨b, s⟩ H2 ⟨i, rfl, hm, g2, ha2, hp2, hb⟩ ih
  try dsimp only at *
  subst hb
  rw [r55_l4]
  by_cases h : i < l.length
  · have hg := hv.gr g2
    have hx := hn _ (List.getElem_mem h)
    obtain ⟨E, hE, hE', gE, nE⟩ := sts2 H2 (.int .i64 l[i].1) (.int .i64 l[i].2) (.int .i64 0) (.int .i64 0)
    have hpE : E.get pb = some (.cells [.int .i64 t.1, .int .i64 t.2.1, .int .i64 t.2.2] false) := by rw [gE.2 _ (Hp.get_lt hp2)]; exact hp2
    have gB := g2.trans gE
    have ek : keeps (l.take (i + 1)) t ↔ keeps (l.take i) t ∧ t.1 * l[i].1 + t.2.1 * l[i].2 ≤ t.2.2 := by
      unfold keeps
      rw [List.take_succ_eq_append_getElem h]
      constructor
      · intro f; exact ⟨fun o ho => f o (List.mem_append_left _ ho), f _ (List.mem_append_right _ (List.mem_singleton.2 rfl))⟩
      · rintro ⟨f1, f2⟩ o ho
        rcases List.mem_append.1 ho with ho | ho
        · exact f1 o ho
        · rw [List.mem_singleton] at ho; subst ho; exact f2
    refine Ok.pos (by omega) (Ok.ck (by omega) (Ok.ld (hg.ldI (i := i) (j := 0) h rfl) (Ok.ld (hg.ldI (i := i) (j := 1) h rfl) (Ok.ld hE ?_))))
    by_cases hk : keeps (l.take i) t
    · rw [decide_eq_true hk]
      refine Ok.pos rfl (Ok.ld (ldI_get hpE rfl) (Ok.ld (ldI_get hE' rfl) (Ok.ld (ldI_get hpE rfl) (Ok.ld (ldI_get hE' rfl) (Ok.ld (ldI_get hpE rfl) ?_)))))
      unfold num at hx
      obtain ⟨a1, a2, a3, a4, a5, a6⟩ := ht
      have b1 := mul_bd (A := 30) (B := 30) (x := t.1) (y := l[i].1) (by omega) (by omega) (by omega) (by omega)
      have b2 := mul_bd (A := 30) (B := 30) (x := t.2.1) (y := l[i].2) (by omega) (by omega) (by omega) (by omega)
      rw [w64_id (n := t.1 * l[i].1) (by omega) (by omega), w64_id (n := t.2.1 * l[i].2) (by omega) (by omega), w64_id (by omega) (by omega), w64_succ (by omega)]
      exact ih (m - 1) (_, _) E (by omega) ⟨i + 1, rfl, by omega, gB, ha2.gr gE, hpE, decide_eq_decide.2 (by rw [ek]; exact ⟨fun c => ⟨hk, c⟩, fun c => c.2⟩)⟩
    · rw [decide_eq_false hk]
      refine Ok.neg (by simp) ?_
      rw [w64_succ (by omega)]
      exact ih (m - 1) (_, _) E (by omega) ⟨i + 1, rfl, by omega, gB, ha2.gr gE, hpE, (decide_eq_false (fun c => hk (ek.1 c).1)).symm⟩
  · rw [List.take_of_length_le (by omega)]
    refine Ok.neg (by omega) ?_
    by_cases hk : keeps l t
    · rw [decide_eq_true hk]
      refine Ok.pos rfl (Ok.ld (ldI_get hp2 rfl) (Ok.ld (ldI_get hp2 rfl) (Ok.ld (ldI_get hp2 rfl) (Ok.bind (ha2.push g2 t rfl rfl (by omega)) fun u2 H3 ⟨ha3, g3, _⟩ => ?_))))
      exact k u2 H3 (by simpa [hk] using ha3) g3
    · rw [decide_eq_false hk]
      exact Ok.neg (by simp) (k w H2 (by simpa [hk] using ha2) g2)
end
/-- Limits of the reference -/
theorem r55_ok {H : Hp} {v : Sl} {l : List Pr} (hv : SL H v l) (ho : offP l) : Ok (r55 v H) fun w H' => Gr H H' ∧ SL H' w (limits l) ∧ (limits l).length ≤ 1000 := by
  unfold r55
  have hlen := hv.len
  have hl8 := ho.2.1
  rw [hlen]
  refine Ok.loop (L := fun K (s : Sl × Int) H2 => r55_l0 K v s.1 ⟨true, 0, 0, 0, 0, 0⟩ v l.length s.2 H2) (fun m s H' => ∃ i : Nat, s.2 = i ∧ i + m = l.length ∧ Gr H H' ∧ AccL H.n H' s.1 ((l.take i).flatMap (candF l)) ∧ ((l.take i).flatMap (candF l)).length ≤ 10 * i) ?_ FUEL l.length (⟨true, 0, 0, 0, 0, 0⟩, 0) H (by unfold FUEL; omega) ⟨0, rfl, by omega, .refl _, by simpa using AccL.nilS, by simp⟩
  rintro K m ⟨u, s⟩ H1 ⟨i, rfl, hm, g1, ha, hle⟩ ih
  try dsimp only at *
  rw [r55_l0]
  by_cases h : i < l.length
  · have hg := hv.gr g1
    have hx := ho.2.2.1 _ (List.getElem_mem h)
    obtain ⟨E, hE, hE', gE, nE⟩ := sts2 H1 (.int .i64 l[i].1) (.int .i64 l[i].2) (.int .i64 0) (.int .i64 0)
    have gB := g1.trans gE
    refine Ok.pos (by omega) (Ok.ck (by omega) (Ok.ld (hg.ldI (i := i) (j := 0) h rfl) (Ok.ld (hg.ldI (i := i) (j := 1) h rfl) (Ok.ld hE (Ok.ld (ldI_get hE' rfl) (Ok.ld (ldI_get hE' rfl) ?_))))))
    refine Ok.bind ((ha.gr gE).app gB [((1 : Int), (0 : Int), l[i].1), ((0 : Int), (1 : Int), l[i].2)] rfl rfl rfl (by simp only [List.length_cons, List.length_nil]; omega)) fun u2 H2 ⟨ha2, g2, bt, _⟩ => ?_
    have hp2 : H2.get H1.n = some (.cells [.int .i64 l[i].1, .int .i64 l[i].2] false) := by
      rw [bt.2 _ (Hp.get_lt hE') ?_]
      · exact hE'
      · intro hnu e
        unfold AccL at ha
        rcases ha with ⟨rfl, _⟩ | ⟨_, _, _, _, _, h6, _⟩
        · simp [nilS] at hnu
        · have := Hp.get_lt h6
          omega
    dsimp only
    rw [hlen]
    refine r55_l1_ok (n0 := H) hv hl8 ho.2.2.1 hx (by simp only [List.length_append, List.length_cons, List.length_nil]; omega) g2 ha2 hp2 fun w' H3 ha3 g3 hle3 => ?_
    rw [w64_succ (by omega)]
    have el : (l.take (i + 1)).flatMap (candF l) = (l.take i).flatMap (candF l) ++ [((1 : Int), (0 : Int), l[i].1), ((0 : Int), (1 : Int), l[i].2)] ++ l.flatMap (candG l[i]) := by
      rw [List.take_succ_eq_append_getElem h, List.flatMap_append]
      simp [candF]
    refine ih (m - 1) (w', _) H3 (by omega) ⟨i + 1, rfl, by omega, g3, by rw [el]; exact ha3, ?_⟩
    rw [el]
    simp only [List.length_append, List.length_cons, List.length_nil] at hle3 ⊢
    omega
  · rw [List.take_of_length_le (by omega)] at ha hle
    refine Ok.neg (by omega) ?_
    have hc : SL H1 u (cands l) := ha.sl
    have hcl := hc.len
    have hcb : (cands l).length ≤ 80 := by unfold cands; omega
    rw [hcl]
    have htb := cands_tb ho.2.2.1
    have hv1 := hv.gr g1
    unfold limits
    generalize cands l = C at *
    refine Ok.loop (L := fun K (s : Sl × Int) H2 => r55_l2 K v s.1 u C.length s.2 H2) (fun m s H' => ∃ i : Nat, s.2 = i ∧ i + m = C.length ∧ Gr H1 H' ∧ AccL H1.n H' s.1 ((C.take i).filter fun t => decide (keeps l t))) ?_ FUEL C.length (⟨true, 0, 0, 0, 0, 0⟩, 0) H1 (by unfold FUEL; omega) ⟨0, rfl, by omega, .refl _, by simpa using AccL.nilS⟩
    rintro K2 m2 ⟨w, s⟩ H2 ⟨j, rfl, hm2, g2, ha2⟩ ih2
    try dsimp only at *
    rw [r55_l2]
    by_cases hj : j < C.length
    · have hg := hc.gr g2
      obtain ⟨E, hE, hE', gE, nE⟩ := sts3 H2 (.int .i64 C[j].1) (.int .i64 C[j].2.1) (.int .i64 C[j].2.2) (.int .i64 0) (.int .i64 0) (.int .i64 0)
      have hfl := List.length_filter_le (fun t => decide (keeps l t)) (C.take j)
      rw [List.length_take] at hfl
      refine Ok.pos (by omega) (Ok.ck (by omega) (Ok.ld (hg.ldI (i := j) (j := 0) hj rfl) (Ok.ld (hg.ldI (i := j) (j := 1) hj rfl) (Ok.ld (hg.ldI (i := j) (j := 2) hj rfl) (Ok.ld hE ?_)))))
      rw [hlen]
      refine r55_l4_ok (n0 := H1) hv1 hl8 ho.2.2.1 (htb _ (List.getElem_mem hj)) (by omega) (g2.trans gE) (ha2.gr gE) hE' fun w' H3 ha3 g3 => ?_
      rw [w64_succ (by omega)]
      refine ih2 (m2 - 1) (w', _) H3 (by omega) ⟨j + 1, rfl, by omega, g3, ?_⟩
      rw [List.take_succ_eq_append_getElem hj, List.filter_append]
      exact ha3
    · rw [List.take_of_length_le (by omega)] at ha2
      exact Ok.neg (by omega) (Ok.ret ⟨g1.trans g2, ha2.sl, Nat.le_trans (List.length_filter_le _ _) (by omega)⟩)
/-- Is of the reference -/
theorem r28_ok {H : Hp} {v : Sl} {l : List Pr} (hv : SL H v l) (ho : offP l) {a b c d : Int} (hx : fr (a, b)) (hy : fr (c, d)) : Ok (r28 v a b c d H) fun r H' => Gr H H' ∧ r = decide (∀ t ∈ limits l, sat t (a, b) (c, d)) := by
  unfold r28
  have gp := Gr.push H (.cells [.int .i64 a, .int .i64 b, .int .i64 c, .int .i64 d] false)
  have g0 : (H.push (.cells [.int .i64 a, .int .i64 b, .int .i64 c, .int .i64 d] false)).get H.n = some (.cells [.int .i64 a, .int .i64 b, .int .i64 c, .int .i64 d] false) := Hp.get_push_new _ _
  generalize H.push (.cells [.int .i64 a, .int .i64 b, .int .i64 c, .int .i64 d] false) = A at *
  refine Ok.lt (Ok.bind (r55_ok (hv.gr gp) ho) fun w H1 ⟨g1, hw, hcb⟩ => ?_)
  have hwl := hw.len
  dsimp only
  rw [hwl]
  refine Ok.mono (r28_l0_ok (x := (a, b)) (y := (c, d)) hw hcb (fun t ht => cands_tb ho.2.2.1 t (List.mem_filter.1 ht).1) hx hy (by rw [g1.2 _ (Hp.get_lt g0)]; exact g0)) fun r H' h => ⟨gp.trans (g1.trans h.1), h.2⟩
end Go.Lt.P5
