/- PLAIN LAWS OF WHAT IS COMPUTED, for the statement 'DealsScales'. Nothing is asked of the input. -/
import Derived.Test.YtficeemoekikdaaU8VOff
import Derived.Test.YtficeemoekikdaaLB
import Derived.Test.YtficeemoekikdaaU8VAwk
set_option linter.unusedVariables false
set_option linter.unusedSimpArgs false
namespace Go.Lt.P5
open Go Go.Lt Go.Proofs
/-- a function value that makes a pair of a pair, from a heap on -/
def Makes (a : App) (fv : AV) (B : Hp) (f : Pr → Pr) (D : Pr → Prop) : Prop := ∀ H x, Gr B H → D x → Ok (callv a fv [.agg [.int .i64 x.1, .int .i64 x.2]] H) fun r H' => Gr H H' ∧ r = .agg [.int .i64 (f x).1, .int .i64 (f x).2]
theorem r59_ok {a : App} {fv : AV} {B : Hp} {f : Pr → Pr} {D : Pr → Prop} (hf : Makes a fv B f D) {v : Sl} {l : List Pr} (hv : SL B v l) (hb : l.length ≤ 1000) (hD : ∀ x ∈ l, D x) : Ok (r59 a v fv B) fun r H' => Gr B H' ∧ if offP (l.map f) then SL H' r.1 (l.map f) ∧ r.2 = 0 else r = (⟨true, 0, 0, 0, 0, 0⟩, 4) := by
  unfold r59
  have hlen := hv.len
  rw [hlen]
  refine Ok.loop (L := fun K (s : Sl × Int) H2 => r59_l0 a K fv s.1 v l.length s.2 H2) (fun m s H' => Gr B H' ∧ ∃ i : Nat, s.2 = i ∧ i + m = l.length ∧ AccL B.n H' s.1 ((l.take i).map f)) ?_ FUEL l.length (⟨true, 0, 0, 0, 0, 0⟩, 0) B (by unfold FUEL; omega) ⟨.refl _, 0, rfl, by omega, by simpa using AccL.nilS⟩
  rintro K m ⟨w, s⟩ H1 ⟨g1, i, rfl, hm, ha⟩ ih
  try dsimp only at *
  rw [r59_l0]
  by_cases h : i < l.length
  · have hg := hv.gr g1
    obtain ⟨E, hE, hE', gE, nE⟩ := sts2 H1 (.int .i64 l[i].1) (.int .i64 l[i].2) (.int .i64 0) (.int .i64 0)
    have gB := g1.trans gE
    refine Ok.pos (by omega) (Ok.ck (by omega) (Ok.ld (hg.ldI (i := i) (j := 0) h rfl) (Ok.ld (hg.ldI (i := i) (j := 1) h rfl) (Ok.ld hE (Ok.ld (ldI_get hE' rfl) (Ok.ld (ldI_get hE' rfl) ?_))))))
    refine Ok.bind (hf E l[i] gB (hD _ (List.getElem_mem h))) fun r H2 ⟨g2, hr⟩ => ?_
    subst hr
    refine Ok.ld rfl (Ok.ck rfl (Ok.ld rfl (Ok.ld rfl (Ok.ld rfl (Ok.ld rfl ?_)))))
    have gC := gB.trans g2
    refine Ok.bind ((ha.gr (gE.trans g2)).push gC (f l[i]) rfl rfl (by simp; omega)) fun w2 H3 ⟨ha3, g3, _⟩ => ?_
    rw [w64_succ (by omega)]
    refine ih (m - 1) (w2, _) H3 (by omega) ⟨g3, i + 1, rfl, by omega, ?_⟩
    rw [List.take_succ_eq_append_getElem h, List.map_append]
    exact ha3
  · rw [List.take_of_length_le (by omega)] at ha
    refine Ok.neg (by omega) (Ok.bind (r52_ok ha.sl (by simp; omega)) fun b H2 ⟨g2, hb2⟩ => ?_)
    subst hb2
    by_cases ho : offP (l.map f)
    · rw [decide_eq_true ho]
      simp only [if_pos ho]
      exact Ok.pos (by simp) (Ok.ret ⟨g1.trans g2, ha.sl.gr g2, rfl⟩)
    · rw [decide_eq_false ho]
      simp only [if_neg ho]
      exact Ok.neg (by simp) (Ok.ret ⟨g1.trans g2, rfl⟩)
def swp (x : Pr) : Pr := (x.2, x.1)
theorem makes_swap (k : Nat) (B : Hp) : Makes (appA (k + 1)) (.fn 61 [] []) B swp fun _ => True := by
  intro H x g _
  show Ok ((r61 x.1 x.2 H).map fun p => (AV.agg [.int .i64 p.1.1, .int .i64 p.1.2], p.2)) _
  have gp := Gr.push H (.cells [.int .i64 x.1, .int .i64 x.2] false)
  have n1 : (H.push (.cells [.int .i64 x.1, .int .i64 x.2] false)).n = H.n + 1 := by simp
  have h1 : Ok (r61 x.1 x.2 H) fun r H' => Gr H H' ∧ r = (x.2, x.1) := by
    unfold r61
    refine Ok.lt ?_
    have hg : ((H.push (.cells [.int .i64 x.1, .int .i64 x.2] false)).push (.cells [.int .i64 0, .int .i64 0] false)).get H.n = some (.cells [.int .i64 x.1, .int .i64 x.2] false) := by
      rw [Hp.get_push_old _ _ (by simp)]; simp
    refine Ok.ld (ldI_get hg rfl) (Ok.ld (ldI_get hg rfl) ?_)
    obtain ⟨E, hE, hE', gE, nE⟩ := sts2 (H.push (.cells [.int .i64 x.1, .int .i64 x.2] false)) (.int .i64 x.2) (.int .i64 x.1) (.int .i64 0) (.int .i64 0)
    exact Ok.ld hE (Ok.ld (ldI_get hE' rfl) (Ok.ld (ldI_get hE' rfl) (Ok.ret ⟨gp.trans gE, rfl⟩)))
  obtain ⟨r, H', e, g2, rfl⟩ := h1
  rw [e]
  exact Ok.ret ⟨g2, rfl⟩
theorem makes_id (k : Nat) (B : Hp) : Makes (appA (k + 1)) (.fn 62 [] []) B id fun _ => True := by
  intro H x g _
  show Ok ((r62 x.1 x.2 H).map fun p => (AV.agg [.int .i64 p.1.1, .int .i64 p.1.2], p.2)) _
  have gp := Gr.push H (.cells [.int .i64 x.1, .int .i64 x.2] false)
  have h1 : Ok (r62 x.1 x.2 H) fun r H' => Gr H H' ∧ r = (x.1, x.2) := by
    unfold r62
    refine Ok.lt ?_
    have hg : ((H.push (.cells [.int .i64 x.1, .int .i64 x.2] false)).push (.cells [.int .i64 0, .int .i64 0] false)).get H.n = some (.cells [.int .i64 x.1, .int .i64 x.2] false) := by
      rw [Hp.get_push_old _ _ (by simp)]; simp
    refine Ok.ld (ldI_get hg rfl) (Ok.ld (ldI_get hg rfl) ?_)
    obtain ⟨E, hE, hE', gE, nE⟩ := sts2 (H.push (.cells [.int .i64 x.1, .int .i64 x.2] false)) (.int .i64 x.1) (.int .i64 x.2) (.int .i64 0) (.int .i64 0)
    exact Ok.ld hE (Ok.ld (ldI_get hE' rfl) (Ok.ld (ldI_get hE' rfl) (Ok.ret ⟨gp.trans gE, rfl⟩)))
  obtain ⟨r, H', e, g2, rfl⟩ := h1
  rw [e]
  exact Ok.ret ⟨g2, rfl⟩
def scl (a b : Int) (x : Pr) : Pr := (x.1 * a, x.2 * b)
theorem makes_scale (k : Nat) {B : Hp} {c0 c1 : Nat} {a b : Int} (h0 : B.get c0 = some (.cells [.int .i64 a] false)) (h1 : B.get c1 = some (.cells [.int .i64 b] false)) (ha : 0 ≤ a ∧ a ≤ 30) (hb : 0 ≤ b ∧ b ≤ 30) :
    Makes (appA (k + 1)) (.fn 60 [] [.ptr c0 0, .ptr c1 0]) B (scl a b) num := by
  intro H x g hx
  show Ok ((r60 x.1 x.2 c0 c1 H).map fun p => (AV.agg [.int .i64 p.1.1, .int .i64 p.1.2], p.2)) _
  have gp := Gr.push H (.cells [.int .i64 x.1, .int .i64 x.2] false)
  have e0 : H.get c0 = some (.cells [.int .i64 a] false) := by rw [g.2 _ (Hp.get_lt h0)]; exact h0
  have e1 : H.get c1 = some (.cells [.int .i64 b] false) := by rw [g.2 _ (Hp.get_lt h1)]; exact h1
  have l0 := Hp.get_lt e0
  have l1 := Hp.get_lt e1
  unfold num at hx
  have m1 : 0 ≤ x.1 * a ∧ x.1 * a ≤ 30 * 30 := ⟨Int.mul_nonneg (by omega) (by omega), Int.mul_le_mul (by omega) (by omega) (by omega) (by omega)⟩
  have m2 : 0 ≤ x.2 * b ∧ x.2 * b ≤ 30 * 30 := ⟨Int.mul_nonneg (by omega) (by omega), Int.mul_le_mul (by omega) (by omega) (by omega) (by omega)⟩
  have h1 : Ok (r60 x.1 x.2 c0 c1 H) fun r H' => Gr H H' ∧ r = (x.1 * a, x.2 * b) := by
    unfold r60
    refine Ok.lt ?_
    have hg : ((H.push (.cells [.int .i64 x.1, .int .i64 x.2] false)).push (.cells [.int .i64 0, .int .i64 0] false)).get H.n = some (.cells [.int .i64 x.1, .int .i64 x.2] false) := by
      rw [Hp.get_push_old _ _ (by simp)]; simp
    have f0 : ((H.push (.cells [.int .i64 x.1, .int .i64 x.2] false)).push (.cells [.int .i64 0, .int .i64 0] false)).get c0 = some (.cells [.int .i64 a] false) := by
      rw [Hp.get_push_old _ _ (by simp; omega), Hp.get_push_old _ _ l0]; exact e0
    have f1 : ((H.push (.cells [.int .i64 x.1, .int .i64 x.2] false)).push (.cells [.int .i64 0, .int .i64 0] false)).get c1 = some (.cells [.int .i64 b] false) := by
      rw [Hp.get_push_old _ _ (by simp; omega), Hp.get_push_old _ _ l1]; exact e1
    refine Ok.ld (ldI_get hg rfl) (Ok.ld (ldI_get f0 rfl) (Ok.ld (ldI_get hg rfl) (Ok.ld (ldI_get f1 rfl) ?_)))
    rw [w64_id (by omega) (by omega), w64_id (by omega) (by omega)]
    obtain ⟨E, hE, hE', gE, nE⟩ := sts2 (H.push (.cells [.int .i64 x.1, .int .i64 x.2] false)) (.int .i64 (x.1 * a)) (.int .i64 (x.2 * b)) (.int .i64 0) (.int .i64 0)
    exact Ok.ld hE (Ok.ld (ldI_get hE' rfl) (Ok.ld (ldI_get hE' rfl) (Ok.ret ⟨gp.trans gE, rfl⟩)))
  obtain ⟨r, H', e, g2, rfl⟩ := h1
  rw [e]
  exact Ok.ret ⟨g2, rfl⟩
/-- Swap -/
theorem r34_ok (k : Nat) {H : Hp} {v : Sl} {l : List Pr} (hv : SL H v l) (hb : l.length ≤ 1000) : Ok (r34 (appA (k + 1)) v H) fun r H' => Gr H H' ∧ if offP l then (if offP (l.map swp) then SL H' r.1 (l.map swp) ∧ r.2 = 0 else r = (⟨true, 0, 0, 0, 0, 0⟩, 4)) else r = (⟨true, 0, 0, 0, 0, 0⟩, 2) := by
  unfold r34
  refine Ok.bind (r52_ok hv hb) fun b H1 ⟨g1, hb1⟩ => ?_
  subst hb1
  by_cases ho : offP l
  · rw [decide_eq_true ho]
    simp only [if_pos ho]
    refine Ok.pos (by simp) (Ok.bind (r59_ok (makes_swap k _) (hv.gr g1) hb fun _ _ => trivial) fun r H2 ⟨g2, h2⟩ => Ok.ret ⟨g1.trans g2, h2⟩)
  · rw [decide_eq_false ho]
    simp only [if_neg ho]
    exact Ok.neg (by simp) (Ok.ret ⟨g1, rfl⟩)
/-- Less -/
theorem r35_ok (k : Nat) {H : Hp} {v : Sl} {l : List Pr} (hv : SL H v l) (hb : l.length ≤ 1000) (d : Int) : Ok (r35 (appA (k + 1)) v d H) fun r H' => Gr H H' ∧ if offP l ∧ 0 ≤ d ∧ d < l.length then (if offP (l.eraseIdx d.toNat) then SL H' r.1 (l.eraseIdx d.toNat) ∧ r.2 = 0 else r = (⟨true, 0, 0, 0, 0, 0⟩, 4)) else r = (⟨true, 0, 0, 0, 0, 0⟩, 2) := by
  unfold r35
  have hlen := hv.len
  refine Ok.bind (r52_ok hv hb) fun b H1 ⟨g1, hb1⟩ => ?_
  subst hb1
  have out : ∀ H2, Gr H H2 → ¬ (offP l ∧ 0 ≤ d ∧ d < l.length) → Ok (r35_j0 (appA (k + 1)) v d true H2) fun r H' => Gr H H' ∧ if offP l ∧ 0 ≤ d ∧ d < l.length then (if offP (l.eraseIdx d.toNat) then SL H' r.1 (l.eraseIdx d.toNat) ∧ r.2 = 0 else r = (⟨true, 0, 0, 0, 0, 0⟩, 4)) else r = (⟨true, 0, 0, 0, 0, 0⟩, 2) := fun H2 g2 hno => by
    unfold r35_j0
    simp only [if_neg hno]
    exact Ok.pos (by simp) (Ok.ret ⟨g2, rfl⟩)
  by_cases ho : offP l
  · rw [decide_eq_true ho]
    refine Ok.pos rfl (Ok.ite (fun h => out _ g1 (fun c => by omega)) fun h0 => ?_)
    by_cases hd : d < l.length
    · obtain ⟨i, rfl⟩ : ∃ i : Nat, d = i := ⟨d.toNat, by omega⟩
      rw [decide_eq_false (by omega)]
      simp only [if_pos (show offP l ∧ (0 : Int) ≤ (i : Int) ∧ (i : Int) < l.length from ⟨ho, by omega, hd⟩), Int.toNat_natCast]
      unfold r35_j0
      have hnil : v.nil = false := hv.nonnil (by intro c; rw [c] at hd; simp at hd; omega)
      refine Ok.neg (by simp) ?_
      show Ok ((cloneR 2 v H1).bind _) _
      refine Ok.bind (clone_ok (hv.gr g1) (by omega) rfl) fun w H2 ⟨g2, _, _, hw⟩ => ?_
      refine Ok.bind (P := fun u H' => SL H' u (l.eraseIdx i) ∧ Gr H1 H') ?_ fun u H3 ⟨hu, g3⟩ => ?_
      · show Ok (delR 2 [.int .i64 0, .int .i64 0] w _ _ H2) _
        have hw' := hw hnil
        refine (del_ok hw'.1 (i := i) (by omega) (by omega) rfl _ rfl ?_).mono fun _ _ h => ⟨h.1, ?_⟩
        · rw [w64_succ (by omega)]
        · exact h.2.gr g2 hw'.2
      · refine Ok.bind (r59_ok (makes_id k _) hu (by rw [List.length_eraseIdx]; split <;> omega) fun _ _ => trivial) fun r H4 ⟨g4, h4⟩ => Ok.ret ⟨g1.trans (g3.trans g4), ?_⟩
        rw [List.map_id] at h4
        exact h4
    · rw [decide_eq_true (by omega)]
      exact out _ g1 (fun c => by omega)
  · rw [decide_eq_false ho]
    exact Ok.neg (by simp) (out _ g1 (fun c => ho c.1))
/-- Scale -/
theorem r33_ok (k : Nat) {H : Hp} {v : Sl} {l : List Pr} (hv : SL H v l) (hb : l.length ≤ 1000) (a b : Int) : Ok (r33 (appA (k + 1)) v a b H) fun r H' => Gr H H' ∧ if offP l ∧ (1 ≤ a ∧ a ≤ 30) ∧ 1 ≤ b ∧ b ≤ 30 then (if offP (l.map (scl a b)) then SL H' r.1 (l.map (scl a b)) ∧ r.2 = 0 else r = (⟨true, 0, 0, 0, 0, 0⟩, 4)) else r = (⟨true, 0, 0, 0, 0, 0⟩, 2) := by
  unfold r33
  refine Ok.lt ?_
  have n1 : (H.push (.cells [.int .i64 a] false)).n = H.n + 1 := by simp
  rw [n1]
  have gA : Gr H ((H.push (.cells [.int .i64 a] false)).push (.cells [.int .i64 b] false)) := (Gr.push _ _).trans (.push _ _)
  have a0 : ((H.push (.cells [.int .i64 a] false)).push (.cells [.int .i64 b] false)).get H.n = some (.cells [.int .i64 a] false) := by rw [Hp.get_push_old _ _ (by simp)]; simp
  have a1 : ((H.push (.cells [.int .i64 a] false)).push (.cells [.int .i64 b] false)).get (H.n + 1) = some (.cells [.int .i64 b] false) := by rw [← n1, Hp.get_push_new]
  generalize (H.push (.cells [.int .i64 a] false)).push (.cells [.int .i64 b] false) = A at *
  refine Ok.bind (r52_ok (hv.gr gA) hb) fun c H1 ⟨g1, hb1⟩ => ?_
  subst hb1
  have b0 : H1.get H.n = some (.cells [.int .i64 a] false) := by rw [g1.2 _ (Hp.get_lt a0)]; exact a0
  have b1 : H1.get (H.n + 1) = some (.cells [.int .i64 b] false) := by rw [g1.2 _ (Hp.get_lt a1)]; exact a1
  have gg := gA.trans g1
  have out : ¬ (offP l ∧ (1 ≤ a ∧ a ≤ 30) ∧ 1 ≤ b ∧ b ≤ 30) → Ok (r33_j0 (appA (k + 1)) v H.n (H.n + 1) true H1) fun r H' => Gr H H' ∧ if offP l ∧ (1 ≤ a ∧ a ≤ 30) ∧ 1 ≤ b ∧ b ≤ 30 then (if offP (l.map (scl a b)) then SL H' r.1 (l.map (scl a b)) ∧ r.2 = 0 else r = (⟨true, 0, 0, 0, 0, 0⟩, 4)) else r = (⟨true, 0, 0, 0, 0, 0⟩, 2) := fun hno => by
    unfold r33_j0
    simp only [if_neg hno]
    exact Ok.pos (by simp) (Ok.ret ⟨gg, rfl⟩)
  by_cases ho : offP l
  · rw [decide_eq_true ho]
    refine Ok.pos rfl (Ok.ld (ldI_get b0 rfl) (Ok.ld (ldI_get b1 rfl) (Ok.ite (fun h => out (fun c => ?_)) fun h => Ok.ld (ldI_get b0 rfl) (Ok.ld (ldI_get b1 rfl) ?_))))
    · split at h <;> omega
    · by_cases hm : (1 ≤ a ∧ a ≤ 30) ∧ 1 ≤ b ∧ b ≤ 30
      · rw [decide_eq_false (by split <;> omega)]
        simp only [if_pos (show offP l ∧ (1 ≤ a ∧ a ≤ 30) ∧ 1 ≤ b ∧ b ≤ 30 from ⟨ho, hm⟩)]
        unfold r33_j0
        refine Ok.neg (by simp) (Ok.bind (r59_ok (makes_scale k b0 b1 (by omega) (by omega)) (hv.gr gg) hb ho.2.2.1) fun r H2 ⟨g2, h2⟩ => Ok.ret ⟨gg.trans g2, h2⟩)
      · have : decide (30 < (if a < b then b else a)) = true := by
          rw [decide_eq_true_iff]
          split at h <;> split <;> omega
        rw [this]
        exact out (fun c => hm c.2)
  · rw [decide_eq_false ho]
    exact Ok.neg (by simp) (out (fun c => ho c.1))
end Go.Lt.P5
