/- PLAIN LAWS OF WHAT IS COMPUTED, for the statement 'CutsCuts'. Nothing is asked of the input. -/
import Derived.Test.YteefkljbmjjncaaU5WVb
set_option linter.unusedVariables false
set_option linter.unusedSimpArgs false
namespace Go.Lt.P2
open Go Go.Lt Go.Proofs
def mulP (m : List Pr) : Prop := ∀ f ∈ m, frP f
instance (m : List Pr) : Decidable (mulP m) := by unfold mulP; infer_instance
/-- isFrac from 0 to 100 -/
theorem r64_ok {f : Pr} (H : Hp) : ∃ H', r64 f.1 f.2 0 100 H = some (decide (frP f), H') := by
  have g0 : (H.push (.cells [.int .i64 f.1, .int .i64 f.2] false)).get H.n = some (.cells [.int .i64 f.1, .int .i64 f.2] false) := Hp.get_push_new _ _
  have h1 : Ok (r64 f.1 f.2 0 100 H) fun r H' => r = decide (frP f) := by
    unfold r64
    have no : ¬ frP f → Ok (some (false, H.push (.cells [.int .i64 f.1, .int .i64 f.2] false))) fun r H' => r = decide (frP f) := fun q => Ok.ret (by rw [decide_eq_false q])
    refine Ok.lt (Ok.ld (ldI_get g0 rfl) (Ok.ite (fun c1 => Ok.ld (ldI_get g0 rfl) (Ok.ite (fun c2 => Ok.ld (ldI_get g0 rfl) (Ok.ld (ldI_get g0 rfl) ?_)) fun c2 => no fun q => c2 q.2.1)) fun c1 => no fun q => c1 q.1))
    rw [w64_id (n := 0 * f.2) (by omega) (by omega)]
    refine Ok.ite (fun c3 => Ok.ld (ldI_get g0 rfl) (Ok.ld (ldI_get g0 rfl) ?_)) fun c3 => no fun q => by have := q.2.2.1; omega
    rw [w64_id (n := 100 * f.2) (by omega) (by omega)]
    refine Ok.ite (fun c4 => Ok.ld (ldI_get g0 rfl) (Ok.ld (ldI_get g0 rfl) (Ok.ld (r94_ok (by omega) (by omega) H0) (Ok.ret (decide_eq_decide.2 ?_))))) fun c4 => no fun q => c4 q.2.2.2.1
    unfold frP
    constructor
    · intro q; exact ⟨c1, c2, by omega, c4, by omega⟩
    · intro q; have := q.2.2.2.2; omega
  obtain ⟨r, H', e, rfl⟩ := h1
  exact ⟨H', e⟩
theorem says104 (k : Nat) (B : Hp) : Says (appA (k + 1)) (.fn 104 [] []) B argP (fun f => ¬ frP f) fun _ => True := fun H x g _ => by
  show Ok ((r104 x.1 x.2 H).map fun p => (AV.bool p.1, p.2)) _
  have h1 : Ok (r104 x.1 x.2 H) fun r H' => Gr H H' ∧ r = decide (¬ frP x) := by
    unfold r104
    have g0 : (H.push (.cells [.int .i64 x.1, .int .i64 x.2] false)).get H.n = some (.cells [.int .i64 x.1, .int .i64 x.2] false) := Hp.get_push_new _ _
    obtain ⟨X, e⟩ := r64_ok (f := x) H0
    refine Ok.lt (Ok.ld (ldI_get g0 rfl) (Ok.ld (ldI_get g0 rfl) (Ok.ld e (Ok.ret ⟨Gr.push _ _, ?_⟩))))
    dsimp only
    rw [decide_not]
  obtain ⟨r, H', e, g2, rfl⟩ := h1
  rw [e]
  exact Ok.ret ⟨g2, rfl⟩
theorem r103_ok {a : App} {fv : AV} {B : Hp} {P : Pr → Prop} [DecidablePred P] {D : Pr → Prop} (hf : Says a fv B argP P D) {v : Sl} {l : List Pr} (hv : SL B v l) (hb : l.length ≤ 1000000) (hD : ∀ x ∈ l, D x) : Ok (r103 a v fv B) fun r H' => Gr B H' ∧ r = decide (∃ x ∈ l, P x) := by
  unfold r103
  refine Ok.bind (P := fun r H' => Gr B H' ∧ (0 ≤ r ↔ ∃ x ∈ l, P x)) ?_ fun r H' h => Ok.ret ⟨h.1, decide_eq_decide.2 h.2⟩
  unfold r112
  have hlen := hv.len
  rw [hlen]
  refine Ok.loop (L := fun K (s : Int) H2 => r112_l0 a K v fv l.length s H2) (fun m s H' => Gr B H' ∧ ∃ i : Nat, s = i ∧ i + m = l.length ∧ ∀ x ∈ l.take i, ¬ P x) ?_ FUEL l.length 0 B (by unfold FUEL; omega) ⟨.refl _, 0, rfl, by omega, by simp⟩
  rintro K m s H1 ⟨g1, i, rfl, hm, ht⟩ ih
  try dsimp only at *
  rw [r112_l0]
  by_cases h : i < l.length
  · have hg := hv.gr g1
    refine Ok.pos (by omega) (Ok.ck (by omega) (Ok.ld (hg.ldI (i := i) (j := 0) h rfl) (Ok.ld (hg.ldI (i := i) (j := 1) h rfl) (Ok.bind (hf H1 l[i] g1 (hD _ (List.getElem_mem h))) fun r H2 ⟨g2, hr⟩ => ?_))))
    subst hr
    refine Ok.ld rfl (Ok.ite (fun c => Ok.ret ⟨g1.trans g2, ⟨fun _ => ⟨l[i], List.getElem_mem h, of_decide_eq_true c⟩, fun _ => by omega⟩⟩) fun c => ?_)
    rw [w64_succ (by omega)]
    exact ih (m - 1) _ H2 (by omega) ⟨g1.trans g2, i + 1, rfl, by omega, forall_take h ht (fun p => c (decide_eq_true p))⟩
  · rw [List.take_of_length_le (by omega)] at ht
    exact Ok.neg (by omega) (Ok.ret ⟨g1, ⟨fun q => by omega, fun ⟨x, hx, hp⟩ => absurd hp (ht x hx)⟩⟩)
/-- isMultipliers -/
theorem r76_ok {k : Nat} {H : Hp} {vp vm : Sl} {p : List Sd} {m : List Pr} (hp : SL H vp p) (hm : SL H vm m) (hb : p.length ≤ 1000) (hb2 : m.length ≤ 1000) : Ok (r76 (appA (k + 1)) vp vm H) fun r H' => Gr H H' ∧ r = decide (plateP p ∧ m.length = p.length ∧ mulP m) := by
  unfold r76
  have hpl := hp.len
  have hml := hm.len
  refine Ok.bind (r63_ok hp hb) fun r H1 ⟨g1, hr⟩ => ?_
  subst hr
  by_cases h1 : plateP p
  · rw [decide_eq_true h1]
    refine Ok.pos rfl ?_
    by_cases h2 : m.length = p.length
    · refine Ok.pos (by omega) (Ok.bind (r103_ok (says104 k H1) (hm.gr g1) (by omega) fun _ _ => trivial) fun r H2 ⟨g2, hr⟩ => Ok.ret ⟨g1.trans g2, ?_⟩)
      subst hr
      dsimp only
      rw [← decide_not]
      refine decide_eq_decide.2 ⟨fun q => ⟨h1, h2, fun f hf => Classical.not_not.1 fun c => q ⟨f, hf, c⟩⟩, fun q ⟨f, hf, c⟩ => c (q.2.2 f hf)⟩
    · exact Ok.neg (by omega) (Ok.ret ⟨g1, by rw [decide_eq_false (fun q => h2 q.2.1)]⟩)
  · rw [decide_eq_false h1]
    exact Ok.neg (by simp) (Ok.ret ⟨g1, by rw [decide_eq_false (fun q => h1 q.1)]⟩)
/-- Multipliers of the reference -/
theorem r30_ok {H : Hp} {v : Sl} {m : List Pr} (hv : SL H v m) (hb : m.length < 9223372036854775808) (n : Nat) : Ok (r30 v n H) fun r H' => Gr H H' ∧ r = decide (m.length = n ∧ mulP m) := by
  unfold r30
  have hlen := hv.len
  rw [hlen]
  refine Ok.loop (L := fun K (s : Int) H2 => r30_l0 K v n v m.length s H2) (fun mm s H' => Gr H H' ∧ ∃ i : Nat, s = i ∧ i + mm = m.length ∧ ∀ x ∈ m.take i, frP x) ?_ FUEL m.length 0 H (by unfold FUEL; omega) ⟨.refl _, 0, rfl, by omega, by simp⟩
  rintro K mm s H1 ⟨g1, i, rfl, hm, ht⟩ ih
  try dsimp only at *
  rw [r30_l0]
  by_cases h : i < m.length
  · have hg := hv.gr g1
    have hmem : m[i] ∈ m := List.getElem_mem h
    obtain ⟨E, hE, hE', gE, nE⟩ := sts2 H1 (.int .i64 m[i].1) (.int .i64 m[i].2) (.int .i64 0) (.int .i64 0)
    have gB := g1.trans gE
    have j1 : ∀ b, b = !decide (frP m[i]) → Ok (r30_j1 (fun v1_ v2_ v3_ v4_ v5_ H_ => r30_l0 K v1_ v2_ v3_ v4_ v5_ H_) v n v m.length i b E) fun r H' => Gr H H' ∧ r = decide (m.length = n ∧ mulP m) := fun b hbb => by
      subst hbb
      unfold r30_j1
      by_cases c : frP m[i]
      · rw [decide_eq_true c]
        refine Ok.neg (by simp) ?_
        rw [w64_succ (by omega)]
        exact ih (mm - 1) _ E (by omega) ⟨gB, i + 1, rfl, by omega, forall_take h ht c⟩
      · rw [decide_eq_false c]
        exact Ok.pos rfl (Ok.ret ⟨gB, by rw [decide_eq_false (fun q => c (q.2 _ hmem))]⟩)
    have no : ¬ frP m[i] → true = !decide (frP m[i]) := fun q => by rw [decide_eq_false q]; rfl
    refine Ok.pos (by omega) (Ok.ck (by omega) (Ok.ld (hg.ldI (i := i) (j := 0) h rfl) (Ok.ld (hg.ldI (i := i) (j := 1) h rfl) (Ok.ld hE (Ok.ld (ldI_get hE' rfl) ?_)))))
    refine Ok.ite (fun c => j1 _ (no fun q => by have := q.1; omega)) fun c1 => Ok.ld (ldI_get hE' rfl) ?_
    refine Ok.ite (fun c => j1 _ (no fun q => by have := q.2.1; omega)) fun c2 => Ok.ld (ldI_get hE' rfl) ?_
    refine Ok.ite (fun c => j1 _ (no fun q => by have := q.2.2.1; omega)) fun c3 => Ok.ld (ldI_get hE' rfl) (Ok.ld (ldI_get hE' rfl) ?_)
    rw [w64_id (n := 100 * m[i].2) (by omega) (by omega)]
    refine Ok.ite (fun c => j1 _ (no fun q => by have := q.2.2.2.1; omega)) fun c4 => Ok.ld (ldI_get hE' rfl) (Ok.ld (ldI_get hE' rfl) ?_)
    obtain ⟨a, d, X, e56, hr⟩ := r56_ok (a := m[i].1) (b := m[i].2) (by omega) (by omega) (by omega) H0
    refine Ok.ld e56 (Ok.ld (ldI_get hE' rfl) (Ok.ld (ldI_get hE' rfl) (j1 _ ?_)))
    congr 1
    obtain ⟨r1, r2, r3, r4, r5⟩ := hr
    refine Bool.eq_iff_iff.2 ?_
    rw [decide_eq_true_iff]
    simp only [Bool.and_eq_true, beq_iff_eq]
    constructor
    · rintro ⟨q1, q2⟩
      rw [q1, q2] at r3
      exact ⟨by omega, by omega, by omega, by omega, r3⟩
    · intro q
      exact red_uniq r1 (by omega) r3 q.2.2.2.2 r4
  · rw [List.take_of_length_le (by omega)] at ht
    refine Ok.neg (by omega) (Ok.ret ⟨g1, decide_eq_decide.2 ⟨fun q => ⟨by omega, ht⟩, fun q => by have := q.1; omega⟩⟩)
end Go.Lt.P2
