/- PLAIN LAWS OF WHAT IS COMPUTED, for the statement 'CutsMoved'. Nothing is asked of the input. -/
import Derived.Test.YteefkljbmjjncaaU16XBy
set_option linter.unusedVariables false
set_option linter.unusedSimpArgs false
namespace Go.Lt.P2
open Go Go.Lt Go.Proofs
def onP (l : List Sd) (s : Sd) (g : Int) : Prop := ∀ t ∈ l, g * (t.2.1 * s.1 - t.1 * s.2.1) ≤ 0
instance (l : List Sd) (s : Sd) (g : Int) : Decidable (onP l s g) := by unfold onP; infer_instance
theorem onP_one {l : List Sd} {s : Sd} : ¬ onP l s 1 ↔ dirP l (-s.2.1, s.1) := by
  unfold onP dirP
  simp only [Classical.not_forall]
  constructor
  · rintro ⟨t, ht, h⟩
    refine ⟨t, ht, ?_⟩
    try dsimp only
    rw [Int.mul_neg]
    omega
  · rintro ⟨t, ht, h⟩
    refine ⟨t, ht, ?_⟩
    try dsimp only at h
    rw [Int.mul_neg] at h
    omega
theorem onP_neg {l : List Sd} {s : Sd} : ¬ onP l s (-1) ↔ dirP l (s.2.1, -s.1) := by
  unfold onP dirP
  simp only [Classical.not_forall]
  constructor
  · rintro ⟨t, ht, h⟩
    refine ⟨t, ht, ?_⟩
    try dsimp only
    rw [Int.mul_neg]
    omega
  · rintro ⟨t, ht, h⟩
    refine ⟨t, ht, ?_⟩
    try dsimp only at h
    rw [Int.mul_neg] at h
    omega
section
variable {Q : Bool → Hp → Prop}
theorem r19_l5_ok {H : Hp} {v vv : Sl} {l : List Sd} {sb : Nat} {s : Sd} {g ln iv : Int} (hv : SL H v l) (hb : l.length ≤ 6) (hs : ∀ s ∈ l, sideP s) (hss : sideP s) (hg : g = 1 ∨ g = -1) (hsb : H.get sb = some (.cells [.int .i64 s.1, .int .i64 s.2.1, .int .i64 s.2.2] false))
    {kt4 : Sl → Nat → Int → Sl → Int → Int → Hp → Option (Bool × Hp)} (kf : ∀ H', Gr H H' → onP l s g → Q false H') (k : ∀ H', Gr H H' → ¬ onP l s g → Ok (kt4 v sb (w64 (g + 2)) vv ln iv H') Q) : Ok (r19_l5 kt4 FUEL v sb g true vv ln iv v l.length 0 H) Q := by
  have hlen := hv.len
  refine Ok.loop (L := fun K (t : Bool × Int) H2 => r19_l5 kt4 K v sb g t.1 vv ln iv v l.length t.2 H2) (fun m t H' => ∃ i : Nat, t.2 = i ∧ i + m = l.length ∧ Gr H H' ∧ t.1 = decide (onP (l.take i) s g)) ?_ FUEL l.length (true, 0) H (by unfold FUEL; omega) ⟨0, rfl, by omega, .refl _, by simp [onP]⟩
  rintro K m ⟨b, t⟩ H1 ⟨i, rfl, hm, g1, hbb⟩ ih
  try dsimp only at *
  subst hbb
  rw [r19_l5]
  by_cases h : i < l.length
  · have hgl := hv.gr g1
    have hx := hs _ (List.getElem_mem h)
    obtain ⟨E, hE, hE', gE, nE⟩ := sts3 H1 (.int .i64 l[i].1) (.int .i64 l[i].2.1) (.int .i64 l[i].2.2) (.int .i64 0) (.int .i64 0) (.int .i64 0)
    have gB := g1.trans gE
    have hsE : E.get sb = some (.cells [.int .i64 s.1, .int .i64 s.2.1, .int .i64 s.2.2] false) := by rw [gB.2 _ (Hp.get_lt hsb)]; exact hsb
    have ek : onP (l.take (i + 1)) s g ↔ onP (l.take i) s g ∧ g * (l[i].2.1 * s.1 - l[i].1 * s.2.1) ≤ 0 := by
      unfold onP
      constructor
      · intro q
        rw [List.take_succ_eq_append_getElem h] at q
        exact ⟨fun t ht => q t (List.mem_append_left _ ht), q _ (List.mem_append_right _ (List.mem_singleton.2 rfl))⟩
      · rintro ⟨q1, q2⟩
        exact forall_take h q1 q2
    refine Ok.pos (by omega) (Ok.ck (by omega) (Ok.ld (hgl.ldI (i := i) (j := 0) h rfl) (Ok.ld (hgl.ldI (i := i) (j := 1) h rfl) (Ok.ld (hgl.ldI (i := i) (j := 2) h rfl) (Ok.ld hE ?_)))))
    by_cases c : onP (l.take i) s g
    · rw [decide_eq_true c]
      refine Ok.pos rfl (Ok.ld (ldI_get hE' rfl) (Ok.ld (ldI_get hsE rfl) (Ok.ld (ldI_get hE' rfl) (Ok.ld (ldI_get hsE rfl) ?_))))
      unfold sideP at hss hx
      have b1 := mul_bd (A := 4) (B := 4) (x := l[i].2.1) (y := s.1) (by omega) (by omega) (by omega) (by omega)
      have b2 := mul_bd (A := 4) (B := 4) (x := l[i].1) (y := s.2.1) (by omega) (by omega) (by omega) (by omega)
      rw [w64_id (n := l[i].2.1 * s.1) (by omega) (by omega), w64_id (n := l[i].1 * s.2.1) (by omega) (by omega), w64_id (n := l[i].2.1 * s.1 - l[i].1 * s.2.1) (by omega) (by omega), w64_id (n := g * (l[i].2.1 * s.1 - l[i].1 * s.2.1)) (by rcases hg with rfl | rfl <;> omega) (by rcases hg with rfl | rfl <;> omega), w64_succ (by omega)]
      exact ih (m - 1) (_, _) E (by omega) ⟨i + 1, rfl, by omega, gB, decide_eq_decide.2 (by rw [ek]; exact ⟨fun q => ⟨c, q⟩, fun q => q.2⟩)⟩
    · rw [decide_eq_false c]
      refine Ok.neg (by simp) ?_
      rw [w64_succ (by omega)]
      exact ih (m - 1) (_, _) E (by omega) ⟨i + 1, rfl, by omega, gB, (decide_eq_false (fun q => c (ek.1 q).1)).symm⟩
  · rw [List.take_of_length_le (by omega)]
    refine Ok.neg (by omega) ?_
    by_cases c : onP l s g
    · rw [decide_eq_true c]; exact Ok.pos rfl (Ok.ret (kf H1 g1 c))
    · rw [decide_eq_false c]; exact Ok.neg (by simp) (k H1 g1 c)
end
/-- the directions -/
theorem r19_l3_ok {H0' H : Hp} {v : Sl} {l : List Sd} (hv : SL H v l) (hb : l.length ≤ 6) (hs : ∀ s ∈ l, sideP s) (g : Gr H0' H) : Ok (r19_l3 FUEL v v l.length 0 H) fun r H' => Gr H0' H' ∧ r = decide (∀ s ∈ l, dirP l (-s.2.1, s.1) ∧ dirP l (s.2.1, -s.1)) := by
  have hlen := hv.len
  refine Ok.loop (L := fun K (s : Int) H2 => r19_l3 K v v l.length s H2) (fun m s H' => Gr H H' ∧ ∃ i : Nat, s = i ∧ i + m = l.length ∧ ∀ s ∈ l.take i, dirP l (-s.2.1, s.1) ∧ dirP l (s.2.1, -s.1)) ?_ FUEL l.length 0 H (by unfold FUEL; omega) ⟨.refl _, 0, rfl, by omega, by simp⟩
  rintro K m s H1 ⟨g1, i, rfl, hm, ht⟩ ih
  try dsimp only at *
  rw [r19_l3]
  by_cases h : i < l.length
  · have hg := hv.gr g1
    have hmem : l[i] ∈ l := List.getElem_mem h
    have hsd := hs _ hmem
    obtain ⟨E, hE, hE', gE, nE⟩ := sts3 H1 (.int .i64 l[i].1) (.int .i64 l[i].2.1) (.int .i64 l[i].2.2) (.int .i64 0) (.int .i64 0) (.int .i64 0)
    refine Ok.pos (by omega) (Ok.ck (by omega) (Ok.ld (hg.ldI (i := i) (j := 0) h rfl) (Ok.ld (hg.ldI (i := i) (j := 1) h rfl) (Ok.ld (hg.ldI (i := i) (j := 2) h rfl) (Ok.ld hE ?_)))))
    have gB := g1.trans gE
    have bad : ∀ H', Gr E H' → ¬ (dirP l (-l[i].2.1, l[i].1) ∧ dirP l (l[i].2.1, -l[i].1)) → Gr H0' H' ∧ false = decide (∀ s ∈ l, dirP l (-s.2.1, s.1) ∧ dirP l (s.2.1, -s.1)) := fun H' gH hno => ⟨g.trans (gB.trans gH), by rw [decide_eq_false (fun q => hno (q _ hmem))]⟩
    rw [show FUEL = 18446744073709551613 + 1 + 1 + 1 from rfl, r19_l4]
    refine Ok.pos (by decide) ?_
    rw [hlen]
    refine r19_l5_ok (hv.gr gB) hb hs hsd (.inr rfl) hE' (fun H' gH hon => bad H' gH fun q => (onP_neg.2 q.2) hon) fun H2 g2 hn1 => ?_
    rw [show w64 (-1 + 2) = 1 by decide +kernel, r19_l4]
    refine Ok.pos (by decide) ?_
    rw [hlen]
    refine r19_l5_ok (hv.gr (gB.trans g2)) hb hs hsd (.inl rfl) (by rw [g2.2 _ (Hp.get_lt hE')]; exact hE') (fun H' gH hon => bad H' (g2.trans gH) fun q => (onP_one.2 q.1) hon) fun H3 g3 hn2 => ?_
    rw [show w64 (1 + 2) = 3 by decide +kernel, r19_l4]
    refine Ok.neg (by decide) ?_
    rw [w64_succ (by omega)]
    exact ih (m - 1) _ H3 (by omega) ⟨gB.trans (g2.trans g3), i + 1, rfl, by omega, forall_take h ht ⟨onP_one.1 hn2, onP_neg.1 hn1⟩⟩
  · rw [List.take_of_length_le (by omega)] at ht
    exact Ok.neg (by omega) (Ok.ret ⟨g.trans g1, by rw [decide_eq_true ht]⟩)
/-- Plate of the reference -/
theorem r19_ok {H : Hp} {v : Sl} {l : List Sd} (hv : SL H v l) : Ok (r19 v H) fun r H' => Gr H H' ∧ r = decide (plateP l) := by
  unfold r19
  have hlen := hv.len
  by_cases h3 : l.length < 3
  · refine Ok.pos (by omega) ?_
    unfold r19_j0
    exact Ok.pos rfl (Ok.ret ⟨.refl _, by rw [decide_eq_false (fun h => by have := h.1.1; omega)]⟩)
  · refine Ok.neg (by omega) ?_
    unfold r19_j0
    by_cases h6 : 6 < l.length
    · exact Ok.pos (by rw [decide_eq_true_iff]; omega) (Ok.ret ⟨.refl _, by rw [decide_eq_false (fun h => by have := h.1.2; omega)]⟩)
    · refine Ok.neg (by rw [decide_eq_true_iff]; omega) ?_
      rw [hlen]
      refine Ok.loop (L := fun K (s : Int) H2 => r19_l1 K v v l.length s H2) (fun m s H' => Gr H H' ∧ ∃ i : Nat, s = i ∧ i + m = l.length ∧ ∀ s ∈ l.take i, sideP s) ?_ FUEL l.length 0 H (by unfold FUEL; omega) ⟨.refl _, 0, rfl, by omega, by simp⟩
      rintro K m s H1 ⟨g1, i, rfl, hm, ht⟩ ih
      try dsimp only at *
      rw [r19_l1]
      by_cases h : i < l.length
      · have hg := hv.gr g1
        have hmem : l[i] ∈ l := List.getElem_mem h
        obtain ⟨E, hE, hE', gE, nE⟩ := sts3 H1 (.int .i64 l[i].1) (.int .i64 l[i].2.1) (.int .i64 l[i].2.2) (.int .i64 0) (.int .i64 0) (.int .i64 0)
        have gB := g1.trans gE
        have j2 : ∀ b, b = !decide (sideP l[i]) → Ok (r19_j2 (fun v1_ v2_ v3_ v4_ H_ => r19_l1 K v1_ v2_ v3_ v4_ H_) v v l.length i b E) fun r H' => Gr H H' ∧ r = decide (plateP l) := fun b hbb => by
          subst hbb
          unfold r19_j2
          by_cases c : sideP l[i]
          · rw [decide_eq_true c]
            refine Ok.neg (by simp) ?_
            rw [w64_succ (by omega)]
            exact ih (m - 1) _ E (by omega) ⟨gB, i + 1, rfl, by omega, forall_take h ht c⟩
          · rw [decide_eq_false c]
            exact Ok.pos rfl (Ok.ret ⟨gB, by rw [decide_eq_false (fun q => c (q.2.1 _ hmem))]⟩)
        have no : ¬ sideP l[i] → true = !decide (sideP l[i]) := fun q => by rw [decide_eq_false q]; rfl
        refine Ok.pos (by omega) (Ok.ck (by omega) (Ok.ld (hg.ldI (i := i) (j := 0) h rfl) (Ok.ld (hg.ldI (i := i) (j := 1) h rfl) (Ok.ld (hg.ldI (i := i) (j := 2) h rfl) (Ok.ld hE (Ok.ld (ldI_get hE' rfl) ?_))))))
        refine Ok.ite (fun c => j2 _ (no fun q => by unfold sideP at q; omega)) fun c1 => Ok.ld (ldI_get hE' rfl) ?_
        refine Ok.ite (fun c => j2 _ (no fun q => by unfold sideP at q; omega)) fun c2 => Ok.ld (ldI_get hE' rfl) ?_
        refine Ok.ite (fun c => j2 _ (no fun q => by unfold sideP at q; omega)) fun c3 => Ok.ld (ldI_get hE' rfl) ?_
        refine Ok.ite (fun c => j2 _ (no fun q => by unfold sideP at q; omega)) fun c4 => Ok.ld (ldI_get hE' rfl) ?_
        have last : ¬ (l[i].1 = 0 ∧ l[i].2.1 = 0) → Ok (if l[i].2.2 < -40 then r19_j2 (fun v1_ v2_ v3_ v4_ H_ => r19_l1 K v1_ v2_ v3_ v4_ H_) v v l.length i true E else (E.ldI .i64 H1.n (0 + 2)).bind fun x => r19_j2 (fun v1_ v2_ v3_ v4_ H_ => r19_l1 K v1_ v2_ v3_ v4_ H_) v v l.length i (decide (40 < x)) E) fun r H' => Gr H H' ∧ r = decide (plateP l) := fun hne => by
          refine Ok.ite (fun c => j2 _ (no fun q => by unfold sideP at q; omega)) fun c5 => Ok.ld (ldI_get hE' rfl) (j2 _ ?_)
          refine Bool.eq_iff_iff.2 ?_
          rw [Bool.not_eq_true', decide_eq_false_iff_not, decide_eq_true_iff]
          unfold sideP
          constructor
          · intro q w; omega
          · intro q
            by_cases w : 40 < l[i].2.2
            · exact w
            · exact absurd ⟨⟨by omega, by omega⟩, ⟨by omega, by omega⟩, hne, by omega, by omega⟩ q
        refine Ok.ite (fun c0 => Ok.ld (ldI_get hE' rfl) (Ok.ite (fun c5 => j2 _ (no fun q => q.2.2.1 ⟨c0, c5⟩)) fun c5 => Ok.ld (ldI_get hE' rfl) (last fun q => c5 q.2))) fun c0 => Ok.ld (ldI_get hE' rfl) (last fun q => c0 q.1)
      · rw [List.take_of_length_le (by omega)] at ht
        refine Ok.neg (by omega) ?_
        rw [hlen]
        refine (r19_l3_ok (hv.gr g1) (by omega) ht g1).mono fun r H' hh => ⟨hh.1, ?_⟩
        rw [hh.2]
        exact decide_eq_decide.2 ⟨fun q => ⟨⟨by omega, by omega⟩, ht, q⟩, fun q => q.2.2⟩
end Go.Lt.P2

namespace Go.Lt.P2
open Go Go.Lt Go.Proofs
/-- own -/
theorem r36_ok {H : Hp} {v : Sl} {l : List Sd} (hv : SL H v l) (hb : l.length ≤ 1000) : Ok (r36 v H) fun w H' => Gr H H' ∧ SL H' w l := by
  unfold r36
  have hlen := hv.len
  rw [hlen]
  refine Ok.loop (L := fun K (s : Sl × Int) H2 => r36_l0 K s.1 v l.length s.2 H2) (fun m s H' => Gr H H' ∧ ∃ i : Nat, s.2 = i ∧ i + m = l.length ∧ AccL H.n H' s.1 (l.take i)) ?_ FUEL l.length (⟨true, 0, 0, 0, 0, 0⟩, 0) H (by unfold FUEL; omega) ⟨.refl _, 0, rfl, by omega, by simpa using AccL.nilS⟩
  rintro K m ⟨w, s⟩ H1 ⟨g1, i, rfl, hm, ha⟩ ih
  try dsimp only at *
  rw [r36_l0]
  by_cases h : i < l.length
  · have hg := hv.gr g1
    obtain ⟨E, hE, hE', gE, nE⟩ := sts3 H1 (.int .i64 l[i].1) (.int .i64 l[i].2.1) (.int .i64 l[i].2.2) (.int .i64 0) (.int .i64 0) (.int .i64 0)
    have gB := g1.trans gE
    refine Ok.pos (by omega) (Ok.ck (by omega) (Ok.ld (hg.ldI (i := i) (j := 0) h rfl) (Ok.ld (hg.ldI (i := i) (j := 1) h rfl) (Ok.ld (hg.ldI (i := i) (j := 2) h rfl) (Ok.ld hE (Ok.ld (ldI_get hE' rfl) (Ok.ld (ldI_get hE' rfl) (Ok.ld (ldI_get hE' rfl) ?_))))))))
    refine Ok.bind ((ha.gr gE).push gB l[i] rfl rfl (by rw [List.length_take]; omega)) fun w2 H3 ⟨ha3, g3, _⟩ => ?_
    rw [w64_succ (by omega)]
    refine ih (m - 1) (w2, _) H3 (by omega) ⟨g3, i + 1, rfl, by omega, ?_⟩
    rw [List.take_succ_eq_append_getElem h]
    exact ha3
  · rw [List.take_of_length_le (by omega)] at ha
    exact Ok.neg (by omega) (Ok.ret ⟨g1, ha.sl⟩)
end Go.Lt.P2

namespace Go.Lt.P2
open Go Go.Lt Go.Proofs
theorem plate_take {p : List Sd} : plateP (p.take 9) ↔ plateP p := by
  by_cases h : p.length ≤ 9
  · rw [List.take_of_length_le h]
  · constructor
    · intro c; have b := c.1.2; rw [List.length_take] at b; omega
    · intro c; have b := c.1.2; omega
theorem plate_eq {p : List Sd} (h : plateP p) : p.take 9 = p := List.take_of_length_le (by have := h.1.2; omega)
theorem awk (k : Nat) (H : Hp) : appA k 21 [] H = some (.bool true, H) := rfl
end Go.Lt.P2
