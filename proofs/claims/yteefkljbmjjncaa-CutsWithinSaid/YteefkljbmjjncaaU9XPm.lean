/- PLAIN LAWS OF WHAT IS COMPUTED, for the statement 'CutsWithin'. Nothing is asked of the input. -/
import Derived.Test.YteefkljbmjjncaaU9XBy
import Derived.Test.YteefkljbmjjncaaU9XTk
set_option linter.unusedVariables false
set_option linter.unusedSimpArgs false
namespace Go.Lt.P2
open Go Go.Lt Go.Proofs
/-! ### linear programs in the plane -/
/-- a side's direction times an arrow -/
def dt (t : Sd) (d : Pq) : Rat := (t.1 : Rat) * d.1 + (t.2.1 : Rat) * d.2
theorem ex_min {α : Type} (r : α → Rat) : ∀ (l : List α), l ≠ [] → ∃ t ∈ l, ∀ u ∈ l, r t ≤ r u
  | [], h => absurd rfl h
  | [t], _ => ⟨t, .head _, fun u hu => by rw [List.mem_singleton] at hu; subst hu; exact Rat.le_refl⟩
  | t :: t' :: l, _ => by
    obtain ⟨m, hm, h⟩ := ex_min r (t' :: l) (by simp)
    by_cases c : r t ≤ r m
    · refine ⟨t, .head _, fun u hu => ?_⟩
      rcases List.mem_cons.1 hu with rfl | hu
      · exact Rat.le_refl
      · have := h u hu; grind
    · refine ⟨m, .tail _ hm, fun u hu => ?_⟩
      rcases List.mem_cons.1 hu with rfl | hu
      · grind
      · exact h u hu
/-- a ray from within meets a side -/
theorem shoot_of {l : List Sd} (f : Sd → Rat) (g : Sd → Rat) (hf : ∀ t ∈ l, 0 ≤ f t) (hg : ∃ t ∈ l, 0 < g t) : ∃ s : Rat, 0 ≤ s ∧ (∀ t ∈ l, s * g t ≤ f t) ∧ ∃ t ∈ l, 0 < g t ∧ s * g t = f t := by
  have hne : l.filter (fun t => decide (0 < g t)) ≠ [] := by
    obtain ⟨t, ht, h⟩ := hg
    exact List.ne_nil_of_mem (List.mem_filter.2 ⟨ht, decide_eq_true h⟩)
  obtain ⟨t, ht, hmin⟩ := ex_min (fun t => f t / g t) _ hne
  obtain ⟨htl, htg⟩ := List.mem_filter.1 ht
  have htg := of_decide_eq_true htg
  have e : f t / g t * g t = f t := by grind
  have hs : 0 ≤ f t / g t := by
    refine Classical.byContradiction fun hc => ?_
    have : 0 < -(f t / g t) := by grind
    have := Rat.mul_pos this htg
    have := hf t htl
    grind
  refine ⟨f t / g t, hs, fun u hu => ?_, t, htl, htg, e⟩
  by_cases hu2 : 0 < g u
  · have h1 := hmin u (List.mem_filter.2 ⟨hu, decide_eq_true hu2⟩)
    have e2 : f u / g u * g u = f u := by grind
    have := Rat.mul_nonneg (show 0 ≤ f u / g u - f t / g t by grind) (show 0 ≤ g u by grind)
    grind
  · have := Rat.mul_nonneg hs (show 0 ≤ -(g u) by grind)
    have := hf u hu
    grind
theorem dirP_dt {l : List Sd} {x y : Int} (h : dirP l (x, y)) : ∃ t ∈ l, 0 < dt t ((x : Rat), (y : Rat)) := by
  obtain ⟨t, ht, h⟩ := h
  refine ⟨t, ht, ?_⟩
  have := castLt.2 h
  rw [Rat.intCast_add, Rat.intCast_mul, Rat.intCast_mul] at this
  exact this
/-- along a side, both ways, there is an end -/
theorem along {l : List Sd} (hp : plateP l) {t : Sd} (ht : t ∈ l) {k : Rat} (hk : k ≠ 0) : ∃ u ∈ l, 0 < dt u (k * -(t.2.1 : Rat), k * (t.1 : Rat)) := by
  obtain ⟨h1, h2⟩ := hp.2.2 t ht
  by_cases c : 0 < k
  · obtain ⟨u, hu, h⟩ := dirP_dt h1
    refine ⟨u, hu, ?_⟩
    have := Rat.mul_pos c h
    unfold dt at *
    rw [Rat.intCast_neg] at this
    grind
  · obtain ⟨u, hu, h⟩ := dirP_dt h2
    refine ⟨u, hu, ?_⟩
    have := Rat.mul_pos (show 0 < -k by grind) h
    unfold dt at *
    rw [Rat.intCast_neg] at this
    grind
/-- no direction without an end -/
theorem no_rec {l : List Sd} (hp : plateP l) {d : Pq} (hd : ¬ (d.1 = 0 ∧ d.2 = 0)) : ∃ t ∈ l, 0 < dt t d := by
  refine Classical.byContradiction fun hc => ?_
  have hle : ∀ t ∈ l, dt t d ≤ 0 := fun t ht => Classical.byContradiction fun q => hc ⟨t, ht, by grind⟩
  -- an arrow along a side that leads out nowhere cannot be
  have key : ∀ e : Pq, ¬ (e.1 = 0 ∧ e.2 = 0) → (∀ t ∈ l, dt t e ≤ 0) → (∃ t ∈ l, dt t e = 0) → False := fun e he hle ⟨t, ht, h0⟩ => by
    have hs := (hp.2.1 t ht).2.2.1
    have hn : (t.1 : Rat) * t.1 + (t.2.1 : Rat) * t.2.1 ≠ 0 := by
      have h3 : t.1 * t.1 + t.2.1 * t.2.1 ≠ 0 := by
        have sq : ∀ x : Int, 0 ≤ x * x := fun x => by
          rcases Int.le_total 0 x with h | h
          · exact Int.mul_nonneg h h
          · have := Int.mul_nonneg (show 0 ≤ -x by omega) (show 0 ≤ -x by omega)
            rw [Int.neg_mul_neg] at this; exact this
        have a := sq t.1
        have b := sq t.2.1
        intro hz
        have z1 : t.1 * t.1 = 0 := by omega
        have z2 : t.2.1 * t.2.1 = 0 := by omega
        exact hs ⟨by rcases Int.mul_eq_zero.1 z1 with h | h <;> exact h, by rcases Int.mul_eq_zero.1 z2 with h | h <;> exact h⟩
      have := cast_ne h3
      rw [Rat.intCast_add, Rat.intCast_mul, Rat.intCast_mul] at this
      exact this
    -- e is k times the arrow along t
    have hk : ∃ k : Rat, k ≠ 0 ∧ e.1 = k * -(t.2.1 : Rat) ∧ e.2 = k * (t.1 : Rat) := by
      unfold dt at h0
      refine ⟨((t.1 : Rat) * e.2 - (t.2.1 : Rat) * e.1) / ((t.1 : Rat) * t.1 + (t.2.1 : Rat) * t.2.1), ?_, ?_, ?_⟩
      · intro hz
        have hz' : (t.1 : Rat) * e.2 - (t.2.1 : Rat) * e.1 = 0 := by
          have : ((t.1 : Rat) * e.2 - (t.2.1 : Rat) * e.1) = ((t.1 : Rat) * e.2 - (t.2.1 : Rat) * e.1) / ((t.1 : Rat) * t.1 + (t.2.1 : Rat) * t.2.1) * ((t.1 : Rat) * t.1 + (t.2.1 : Rat) * t.2.1) := by grind
          rw [this, hz]; grind
        have a1 : ((t.1 : Rat) * t.1 + (t.2.1 : Rat) * t.2.1) * e.1 = 0 := by grind
        have a2 : ((t.1 : Rat) * t.1 + (t.2.1 : Rat) * t.2.1) * e.2 = 0 := by grind
        refine he ⟨?_, ?_⟩
        · rcases Rat.mul_eq_zero.1 a1 with h | h
          · exact absurd h hn
          · exact h
        · rcases Rat.mul_eq_zero.1 a2 with h | h
          · exact absurd h hn
          · exact h
      · grind
      · grind
    obtain ⟨k, hk0, e1, e2⟩ := hk
    obtain ⟨u, hu, h⟩ := along hp ht hk0
    have := hle u hu
    unfold dt at h this
    dsimp only at h
    rw [← e1, ← e2] at h
    grind
  by_cases hz : ∃ t ∈ l, dt t d = 0
  · exact key d hd hle hz
  · have hlt : ∀ t ∈ l, dt t d < 0 := fun t ht => by
      have := hle t ht
      have : dt t d ≠ 0 := fun q => hz ⟨t, ht, q⟩
      grind
    have hpos : 0 < l.length := by have := hp.1.1; omega
    have ht0 := List.getElem_mem hpos
    generalize l[0] = t0 at *
    obtain ⟨u0, hu0, h0⟩ := along hp ht0 (k := 1) (by decide)
    obtain ⟨s, hs, hall, u, hu, hgu, heq⟩ := shoot_of (l := l) (fun t => -(dt t d)) (fun t => dt t (1 * -(t0.2.1 : Rat), 1 * (t0.1 : Rat))) (fun t ht => by have := hlt t ht; grind) ⟨u0, hu0, h0⟩
    have hsum : ∀ t, dt t (d.1 + s * (1 * -(t0.2.1 : Rat)), d.2 + s * (1 * (t0.1 : Rat))) = dt t d + s * dt t (1 * -(t0.2.1 : Rat), 1 * (t0.1 : Rat)) := fun t => by unfold dt; grind
    refine key (d.1 + s * (1 * -(t0.2.1 : Rat)), d.2 + s * (1 * (t0.1 : Rat))) ?_ (fun t ht => ?_) ⟨u, hu, ?_⟩
    · rintro ⟨z1, z2⟩
      dsimp only at z1 z2
      have h1 := hlt t0 ht0
      have h2 : dt t0 d + s * dt t0 (1 * -(t0.2.1 : Rat), 1 * (t0.1 : Rat)) = 0 := by
        rw [← hsum]; unfold dt; dsimp only; rw [z1, z2]; grind
      have h3 : dt t0 (1 * -(t0.2.1 : Rat), 1 * (t0.1 : Rat)) = 0 := by unfold dt; grind
      rw [h3] at h2
      grind
    · rw [hsum]
      have := hall t ht
      grind
    · rw [hsum]
      grind
/-- a ray from a point of the plate -/
theorem shoot {l : List Sd} (hp : plateP l) {p d : Pq} (hin : inP l p) (hd : ¬ (d.1 = 0 ∧ d.2 = 0)) : ∃ s : Rat, 0 ≤ s ∧ inP l (p.1 + s * d.1, p.2 + s * d.2) ∧ ∃ t ∈ l, 0 < dt t d ∧ dt t (p.1 + s * d.1, p.2 + s * d.2) = (t.2.2 : Rat) := by
  obtain ⟨s, hs, hall, t, ht, hg, he⟩ := shoot_of (l := l) (fun t => (t.2.2 : Rat) - dt t p) (fun t => dt t d) (fun t ht => by have := hin t ht; unfold lqs atq at this; unfold dt; grind) (no_rec hp hd)
  have hsum : ∀ t, dt t (p.1 + s * d.1, p.2 + s * d.2) = dt t p + s * dt t d := fun t => by unfold dt; grind
  refine ⟨s, hs, fun u hu => ?_, t, ht, hg, ?_⟩
  · have := hall u hu
    have h2 := hsum u
    unfold lqs
    show dt u (p.1 + s * d.1, p.2 + s * d.2) ≤ _
    grind
  · rw [hsum]; grind
/-- a corner says at least as much as any point -/
theorem lp {l : List Sd} (hp : plateP l) {p : Pq} (hin : inP l p) (a b : Int) : ∃ c ∈ cs l, atq a b p ≤ atq a b c.1 := by
  -- to a side
  have h1 : ∃ q : Pq, inP l q ∧ atq a b p ≤ atq a b q ∧ ∃ t ∈ l, dt t q = (t.2.2 : Rat) := by
    by_cases hw : a = 0 ∧ b = 0
    · obtain ⟨s, _, hq, t, ht, _, he⟩ := shoot hp hin (d := (1, 0)) (by intro h; exact absurd h.1 (by decide))
      refine ⟨_, hq, ?_, t, ht, he⟩
      obtain ⟨rfl, rfl⟩ := hw
      unfold atq
      grind
    · have hd : ¬ (((a : Rat), (b : Rat)).1 = 0 ∧ ((a : Rat), (b : Rat)).2 = 0) := by
        rintro ⟨h1, h2⟩
        have h1 : (a : Rat) = 0 := h1
        have h2 : (b : Rat) = 0 := h2
        exact hw ⟨by exact_mod_cast h1, by exact_mod_cast h2⟩
      obtain ⟨s, hs, hq, t, ht, _, he⟩ := shoot hp hin hd
      refine ⟨_, hq, ?_, t, ht, he⟩
      have sq : ∀ x : Rat, 0 ≤ x * x := fun x => by
        by_cases h : 0 ≤ x
        · exact Rat.mul_nonneg h h
        · have := Rat.mul_nonneg (show 0 ≤ -x by grind) (show 0 ≤ -x by grind); grind
      have k1 := Rat.mul_nonneg hs (sq (a : Rat))
      have k2 := Rat.mul_nonneg hs (sq (b : Rat))
      unfold atq
      dsimp only
      grind
  obtain ⟨q, hq, hpq, t, ht, he⟩ := h1
  have hs := (hp.2.1 t ht).2.2.1
  -- along it
  have h2 : ∃ k : Rat, k ≠ 0 ∧ 0 ≤ k * (-(t.2.1 : Rat) * a + (t.1 : Rat) * b) := by
    by_cases h : 0 ≤ -(t.2.1 : Rat) * a + (t.1 : Rat) * b
    · exact ⟨1, by decide, by grind⟩
    · exact ⟨-1, by decide, by grind⟩
  obtain ⟨k, hk, hk2⟩ := h2
  have hd : ¬ ((k * -(t.2.1 : Rat), k * (t.1 : Rat)).1 = 0 ∧ (k * -(t.2.1 : Rat), k * (t.1 : Rat)).2 = 0) := by
    rintro ⟨h1, h2⟩
    dsimp only at h1 h2
    refine hs ⟨?_, ?_⟩
    · rcases Rat.mul_eq_zero.1 h2 with h | h
      · exact absurd h hk
      · exact_mod_cast h
    · rcases Rat.mul_eq_zero.1 h1 with h | h
      · exact absurd h hk
      · have : (t.2.1 : Rat) = 0 := by grind
        exact_mod_cast this
  obtain ⟨s, hs0, hr, u, hu, hgu, heu⟩ := shoot hp hq hd
  have hcr : crI t u ≠ 0 := fun h => by
    have e : ((crI t u : Int) : Rat) = (t.1 : Rat) * u.2.1 - (t.2.1 : Rat) * u.1 := by unfold crI; push_cast; rfl
    rw [h] at e
    unfold dt at hgu
    dsimp only at hgu
    have : (t.1 : Rat) * u.2.1 - (t.2.1 : Rat) * u.1 = 0 := by rw [← e]; rfl
    have : (u.1 : Rat) * (k * -(t.2.1 : Rat)) + (u.2.1 : Rat) * (k * (t.1 : Rat)) = k * ((t.1 : Rat) * u.2.1 - (t.2.1 : Rat) * u.1) := by grind
    grind
  have hte : dt t (q.1 + s * (k * -(t.2.1 : Rat), k * (t.1 : Rat)).1, q.2 + s * (k * -(t.2.1 : Rat), k * (t.1 : Rat)).2) = (t.2.2 : Rat) := by
    rw [← he]; unfold dt; dsimp only; grind
  have hval : atq a b q ≤ atq a b (q.1 + s * (k * -(t.2.1 : Rat), k * (t.1 : Rat)).1, q.2 + s * (k * -(t.2.1 : Rat), k * (t.1 : Rat)).2) := by
    have := Rat.mul_nonneg hs0 hk2
    unfold atq
    dsimp only
    grind
  generalize (q.1 + s * (k * -(t.2.1 : Rat), k * (t.1 : Rat)).1, q.2 + s * (k * -(t.2.1 : Rat), k * (t.1 : Rat)).2) = r at *
  have hm : r = meetq t u := by
    have m := meet_on hcr
    have h0 := cast_ne hcr
    have e : ((crI t u : Int) : Rat) = (t.1 : Rat) * u.2.1 - (t.2.1 : Rat) * u.1 := by unfold crI; push_cast; rfl
    rw [e] at h0
    unfold dt at hte heu
    unfold atq at m
    refine Prod.ext ?_ ?_
    · have : ((t.1 : Rat) * u.2.1 - (t.2.1 : Rat) * u.1) * (r.1 - (meetq t u).1) = 0 := by grind
      rcases Rat.mul_eq_zero.1 this with h | h
      · exact absurd h h0
      · grind
    · have : ((t.1 : Rat) * u.2.1 - (t.2.1 : Rat) * u.1) * (r.2 - (meetq t u).2) = 0 := by grind
      rcases Rat.mul_eq_zero.1 this with h | h
      · exact absurd h h0
      · grind
  rcases mem_cs ht hu hcr (by rw [← hm]; exact hr) with h | h
  · exact ⟨_, h, by dsimp only; rw [← hm]; grind⟩
  · exact ⟨_, h, by dsimp only; rw [← hm]; grind⟩
end Go.Lt.P2

namespace Go.Lt.P2
open Go Go.Lt Go.Proofs
/-! ### points in order -/
instance elPq : El Pq := ⟨4, pc4, fun _ => rfl, fun _ => rfl, by decide⟩
def ptlt (p q : Pq) : Prop := p.1 < q.1 ∨ (p.1 = q.1 ∧ p.2 < q.2)
instance (p q : Pq) : Decidable (ptlt p q) := by unfold ptlt; infer_instance
theorem ptlt_irr (p : Pq) : ¬ ptlt p p := by unfold ptlt; grind
theorem ptlt_trans {p q r : Pq} (h : ptlt p q) (k : ptlt q r) : ptlt p r := by unfold ptlt at *; grind
theorem ptlt_tri {p q : Pq} (h : ¬ ptlt p q) (k : p ≠ q) : ptlt q p := by
  unfold ptlt at *
  have : ¬ (p.1 = q.1 ∧ p.2 = q.2) := fun h => k (Prod.ext h.1 h.2)
  grind
def wth (p : Pq) : List Pq → List Pq
  | [] => [p]
  | q :: l => if ptlt q p then q :: wth p l else if q = p then q :: l else p :: q :: l
theorem mem_wth {p x : Pq} : ∀ {l : List Pq}, x ∈ wth p l ↔ x = p ∨ x ∈ l
  | [] => by simp [wth]
  | q :: l => by
    rw [wth]
    split
    · rw [List.mem_cons, mem_wth, List.mem_cons]; grind
    · split
      · rename_i h; subst h; simp only [List.mem_cons]; grind
      · simp only [List.mem_cons]
theorem wth_srt {p : Pq} : ∀ {l : List Pq}, l.Pairwise ptlt → (wth p l).Pairwise ptlt
  | [], _ => List.pairwise_singleton _ _
  | q :: l, h => by
    have h0 := h
    rw [List.pairwise_cons] at h
    rw [wth]
    split
    · rename_i h1
      refine List.pairwise_cons.2 ⟨fun x hx => ?_, wth_srt h.2⟩
      rcases mem_wth.1 hx with rfl | hx
      · exact h1
      · exact h.1 x hx
    · rename_i h1
      split
      · exact h0
      · rename_i h2
        have h3 := ptlt_tri h1 h2
        refine List.pairwise_cons.2 ⟨fun x hx => ?_, h0⟩
        rcases List.mem_cons.1 hx with rfl | hx
        · exact h3
        · exact ptlt_trans h3 (h.1 x hx)
theorem srt_uniq : ∀ {l l' : List Pq}, l.Pairwise ptlt → l'.Pairwise ptlt → (∀ x, x ∈ l ↔ x ∈ l') → l = l'
  | [], [], _, _, _ => rfl
  | [], y :: l', _, _, h => absurd ((h y).2 (.head _)) (by simp)
  | x :: l, [], _, _, h => absurd ((h x).1 (.head _)) (by simp)
  | x :: l, y :: l', h1, h2, h => by
    rw [List.pairwise_cons] at h1 h2
    have e : x = y := by
      rcases List.mem_cons.1 ((h x).1 (.head _)) with e | hx
      · exact e
      · rcases List.mem_cons.1 ((h y).2 (.head _)) with e | hy
        · exact e.symm
        · exact absurd (ptlt_trans (h1.1 y hy) (h2.1 x hx)) (ptlt_irr x)
    subst e
    congr 1
    refine srt_uniq h1.2 h2.2 fun z => ?_
    constructor <;> intro hz
    · rcases List.mem_cons.1 ((h z).1 (.tail _ hz)) with rfl | k
      · exact absurd (h1.1 z hz) (ptlt_irr z)
      · exact k
    · rcases List.mem_cons.1 ((h z).2 (.tail _ hz)) with rfl | k
      · exact absurd (h2.1 z hz) (ptlt_irr z)
      · exact k
end Go.Lt.P2

namespace Go.Lt.P2
open Go Go.Lt Go.Proofs
/-- the corners as the reference makes them -/
def rcs (q : List Cn) : List Pq := q.foldl (fun acc c => wth c.1 acc) []
theorem rcs_srt (q : List Cn) : (rcs q).Pairwise ptlt := by
  unfold rcs
  have key : ∀ (q : List Cn) (acc : List Pq), acc.Pairwise ptlt → (q.foldl (fun acc c => wth c.1 acc) acc).Pairwise ptlt := by
    intro q
    induction q with
    | nil => intro acc h; exact h
    | cons c q ih => intro acc h; exact ih _ (wth_srt h)
  exact key q [] .nil
theorem mem_rcs {q : List Cn} {p : Pq} : p ∈ rcs q ↔ ∃ c ∈ q, c.1 = p := by
  unfold rcs
  have key : ∀ (q : List Cn) (acc : List Pq), p ∈ q.foldl (fun acc c => wth c.1 acc) acc ↔ p ∈ acc ∨ ∃ c ∈ q, c.1 = p := by
    intro q
    induction q with
    | nil => intro acc; simp
    | cons c q ih =>
      intro acc
      rw [List.foldl_cons, ih, mem_wth]
      constructor
      · rintro ((rfl | h) | ⟨d, hd, h⟩)
        · exact .inr ⟨c, .head _, rfl⟩
        · exact .inl h
        · exact .inr ⟨d, .tail _ hd, h⟩
      · rintro (h | ⟨d, hd, h⟩)
        · exact .inl (.inr h)
        · rcases List.mem_cons.1 hd with rfl | hd
          · exact .inl (.inl h.symm)
          · exact .inr ⟨d, hd, h⟩
  rw [key]
  simp
theorem wth_len {p : Pq} : ∀ {l : List Pq}, (wth p l).length ≤ l.length + 1
  | [] => by simp [wth]
  | q :: l => by
    rw [wth]
    have := wth_len (p := p) (l := l)
    split
    · simp only [List.length_cons]; omega
    · split
      · simp
      · simp
theorem rcs_len (q : List Cn) : (rcs q).length ≤ q.length := by
  unfold rcs
  have key : ∀ (q : List Cn) (acc : List Pq), (q.foldl (fun acc c => wth c.1 acc) acc).length ≤ acc.length + q.length := by
    intro q
    induction q with
    | nil => intro acc; simp
    | cons c q ih =>
      intro acc
      rw [List.foldl_cons, List.length_cons]
      have := ih (wth c.1 acc)
      have := wth_len (p := c.1) (l := acc)
      omega
  have := key q []
  simpa using this
theorem rcs_snoc (q : List Cn) (c : Cn) : rcs (q ++ [c]) = wth c.1 (rcs q) := by unfold rcs; rw [List.foldl_append]; rfl
theorem cno_len (l : List Sd) (i : Nat) : (cno l i).length ≤ i := by
  unfold cno
  exact Nat.le_trans (List.length_filterMap_le _ _) (by rw [List.length_take]; omega)
theorem flatm_len {β : Type} {f : Nat → List β} {k : Nat} : ∀ {l : List Nat}, (∀ x ∈ l, (f x).length ≤ k) → (l.flatMap f).length ≤ l.length * k
  | [], _ => by simp
  | x :: l, h => by
    rw [List.flatMap_cons, List.length_append, List.length_cons, Nat.add_mul, Nat.one_mul]
    have a := h x (.head _)
    have b := flatm_len (l := l) fun y hy => h y (.tail _ hy)
    omega
theorem lqs_dv {u : Sd} {x y d : Int} (hd : 0 < d) : lqs u (dv x d, dv y d) ↔ u.1 * x + u.2.1 * y ≤ u.2.2 * d := by
  have h0 := cast_pos hd
  have e : atq u.1 u.2.1 (dv x d, dv y d) = dv (u.1 * x + u.2.1 * y) d := by
    unfold atq dv
    push_cast
    grind
  unfold lqs
  rw [e, ← dv_int, dv_le_iff hd (by decide), Int.mul_one]
theorem rcs_qp {l : List Sd} {q : List Cn} (hs : ∀ s ∈ l, sideP s) (h : ∀ c ∈ q, c ∈ cs l) : ∀ p ∈ rcs q, qp p := fun p hp => by
  obtain ⟨c, hc, rfl⟩ := mem_rcs.1 hp
  have k := cs_mem (h c hc)
  rw [k.2.2.2.1]
  exact meet_qp (hs _ k.1) (hs _ k.2.1) k.2.2.1
theorem cs_len {l : List Sd} (hb : l.length ≤ 1000) : (cs l).length ≤ 1000000 := by
  unfold cs
  have := flatm_len (f := cno l) (l := List.range l.length) (k := l.length) fun i hi => Nat.le_trans (cno_len l i) (by rw [List.mem_range] at hi; omega)
  rw [List.length_range] at this
  have h2 := Nat.mul_le_mul hb hb
  omega
theorem pre_cs {l : List Sd} {i : Nat} (h : i < l.length) : (List.range i).flatMap (cno l) ++ cno l i <+: cs l := by
  rw [← range_succ_flatMap]
  unfold cs
  have : l.length = (i + 1) + (l.length - (i + 1)) := by omega
  rw [this, List.range_add (n := i + 1), List.flatMap_append]
  exact List.prefix_append _ _
end Go.Lt.P2

namespace Go.Lt.P2
open Go Go.Lt Go.Proofs
/-! ### the box of some points -/
def isMin (f : Pq → Int) (S : Pq → Prop) (a : Int) : Prop := (∃ p, S p ∧ f p = a) ∧ ∀ p, S p → a ≤ f p
def isMax (f : Pq → Int) (S : Pq → Prop) (a : Int) : Prop := (∃ p, S p ∧ f p = a) ∧ ∀ p, S p → f p ≤ a
def fx (p : Pq) : Int := p.1.floor
def fy (p : Pq) : Int := p.2.floor
theorem isMin.uniq {f : Pq → Int} {S : Pq → Prop} {a b : Int} (h : isMin f S a) (k : isMin f S b) : a = b := by
  obtain ⟨⟨p, hp, e⟩, h2⟩ := h
  obtain ⟨⟨q, hq, e'⟩, k2⟩ := k
  have := h2 q hq; have := k2 p hp; omega
theorem isMax.uniq {f : Pq → Int} {S : Pq → Prop} {a b : Int} (h : isMax f S a) (k : isMax f S b) : a = b := by
  obtain ⟨⟨p, hp, e⟩, h2⟩ := h
  obtain ⟨⟨q, hq, e'⟩, k2⟩ := k
  have := h2 q hq; have := k2 p hp; omega
def IsBx (S : Pq → Prop) (lo hi : Pr) : Prop := (isMin fx S lo.1 ∧ isMin fy S lo.2) ∧ isMax fx S hi.1 ∧ isMax fy S hi.2
theorem IsBx.uniq {S : Pq → Prop} {lo hi lo' hi' : Pr} (h : IsBx S lo hi) (k : IsBx S lo' hi') : lo = lo' ∧ hi = hi' :=
  ⟨Prod.ext (h.1.1.uniq k.1.1) (h.1.2.uniq k.1.2), Prod.ext (h.2.1.uniq k.2.1) (h.2.2.uniq k.2.2)⟩
def isC (q : List Cn) (p : Pq) : Prop := ∃ c ∈ q, c.1 = p
theorem isC_snoc {q : List Cn} {c : Cn} {p : Pq} : isC (q ++ [c]) p ↔ isC q p ∨ c.1 = p := by
  unfold isC
  constructor
  · rintro ⟨d, hd, h⟩
    rcases List.mem_append.1 hd with hd | hd
    · exact .inl ⟨d, hd, h⟩
    · rw [List.mem_singleton] at hd; subst hd; exact .inr h
  · rintro (⟨d, hd, h⟩ | h)
    · exact ⟨d, List.mem_append_left _ hd, h⟩
    · exact ⟨c, by simp, h⟩
theorem isMin_up {f : Pq → Int} {q : List Cn} {c : Cn} {a : Int} (h : isMin f (isC q) a) : isMin f (isC (q ++ [c])) (nlo true (f c.1) a) := by
  obtain ⟨⟨p, hp, e⟩, h2⟩ := h
  unfold nlo
  split
  · rename_i hc
    refine ⟨⟨p, isC_snoc.2 (.inl hp), e⟩, fun r hr => ?_⟩
    rcases isC_snoc.1 hr with hr | rfl
    · exact h2 r hr
    · omega
  · rename_i hc
    have hc : f c.1 < a := Classical.byContradiction fun q => hc ⟨rfl, q⟩
    refine ⟨⟨c.1, isC_snoc.2 (.inr rfl), rfl⟩, fun r hr => ?_⟩
    rcases isC_snoc.1 hr with hr | rfl
    · have := h2 r hr; omega
    · omega
theorem isMax_up {f : Pq → Int} {q : List Cn} {c : Cn} {a : Int} (h : isMax f (isC q) a) : isMax f (isC (q ++ [c])) (nhi true (f c.1) a) := by
  obtain ⟨⟨p, hp, e⟩, h2⟩ := h
  unfold nhi
  split
  · rename_i hc
    refine ⟨⟨p, isC_snoc.2 (.inl hp), e⟩, fun r hr => ?_⟩
    rcases isC_snoc.1 hr with hr | rfl
    · exact h2 r hr
    · omega
  · rename_i hc
    have hc : a < f c.1 := Classical.byContradiction fun q => hc ⟨rfl, q⟩
    refine ⟨⟨c.1, isC_snoc.2 (.inr rfl), rfl⟩, fun r hr => ?_⟩
    rcases isC_snoc.1 hr with hr | rfl
    · have := h2 r hr; omega
    · omega
theorem bxs_is (q : List Cn) : (bxs q).2.2 = decide (q ≠ []) ∧ (q ≠ [] → IsBx (isC q) (bxs q).1 (bxs q).2.1) := by
  have step : ∀ (q : List Cn) (c : Cn), ((bxs q).2.2 = decide (q ≠ []) ∧ (q ≠ [] → IsBx (isC q) (bxs q).1 (bxs q).2.1)) → (bxs (q ++ [c])).2.2 = decide (q ++ [c] ≠ []) ∧ (q ++ [c] ≠ [] → IsBx (isC (q ++ [c])) (bxs (q ++ [c])).1 (bxs (q ++ [c])).2.1) := fun q c ⟨h1, h2⟩ => by
    have e : bxs (q ++ [c]) = bup (bxs q) c := by unfold bxs; rw [List.foldl_append]; rfl
    rw [e]
    refine ⟨by simp [bup], fun _ => ?_⟩
    by_cases hq : q = []
    · subst hq
      have one : ∀ p, isC ([] ++ [c]) p ↔ c.1 = p := fun p => by unfold isC; simp
      unfold IsBx isMin isMax bup up1 up0 nlo nhi bxs
      simp only [List.foldl_nil, Bool.false_eq_true, false_and, if_false]
      refine ⟨⟨⟨⟨c.1, (one _).2 rfl, rfl⟩, fun p hp => ?_⟩, ⟨c.1, (one _).2 rfl, rfl⟩, fun p hp => ?_⟩, ⟨⟨c.1, (one _).2 rfl, rfl⟩, fun p hp => ?_⟩, ⟨c.1, (one _).2 rfl, rfl⟩, fun p hp => ?_⟩ <;>
      · have := (one p).1 hp
        subst this
        exact Int.le_refl _
    · rw [decide_eq_true hq] at h1
      obtain ⟨⟨a1, a2⟩, a3, a4⟩ := h2 hq
      unfold bup up1 up0
      dsimp only
      rw [h1]
      exact ⟨⟨isMin_up (f := fx) a1, isMin_up (f := fy) a2⟩, isMax_up (f := fx) a3, isMax_up (f := fy) a4⟩
  have key : ∀ n (q : List Cn), q.length = n → ((bxs q).2.2 = decide (q ≠ []) ∧ (q ≠ [] → IsBx (isC q) (bxs q).1 (bxs q).2.1)) := by
    intro n
    induction n with
    | zero =>
      intro q hq
      have : q = [] := List.length_eq_zero_iff.1 hq
      subst this
      exact ⟨rfl, fun h => absurd rfl h⟩
    | succ n ih =>
      intro q hq
      have hne : q ≠ [] := by rintro rfl; simp at hq
      rw [← List.dropLast_concat_getLast hne]
      exact step _ _ (ih _ (by simp [hq]))
  exact key _ q rfl
theorem pts_is {l : List Sd} {lo hi : Pr} (h : IsBx (isC (cs l)) lo hi) : pts l = grid l lo hi := by
  have hne : cs l ≠ [] := by
    rintro hc
    obtain ⟨⟨p, ⟨c, hc', _⟩, _⟩, _⟩ := h.1.1
    rw [hc] at hc'
    cases hc'
  have b := bxs_is (cs l)
  obtain ⟨e1, e2⟩ := (b.2 hne).uniq h
  unfold pts
  rw [b.1, decide_eq_true hne, if_pos rfl, e1, e2]
theorem pts_nil {l : List Sd} (h : cs l = []) : pts l = [] := by
  have b := bxs_is (cs l)
  unfold pts
  rw [b.1, h]
  rfl
end Go.Lt.P2

namespace Go.Lt.P2
open Go Go.Lt Go.Proofs
/-- the whole points of a plate are all in the box -/
theorem mem_pts {l : List Sd} (hp : plateP l) {x : Pr} : x ∈ pts l ↔ ∀ s ∈ l, kp x s := by
  constructor
  · intro h
    unfold pts at h
    split at h
    · exact (mem_grid.1 h).2
    · cases h
  · intro h
    have hin : inP l ((x.1 : Rat), (x.2 : Rat)) := keep_in.2 h
    have hne : cs l ≠ [] := by
      obtain ⟨c, hc, _⟩ := lp hp hin 0 0
      exact List.ne_nil_of_mem hc
    have b := bxs_is (cs l)
    have bx := b.2 hne
    unfold pts
    rw [b.1, decide_eq_true hne, if_pos rfl]
    refine mem_grid.2 ⟨?_, h⟩
    generalize (bxs (cs l)).1 = lo at *
    generalize (bxs (cs l)).2.1 = hi at *
    have at10 : ∀ z : Pq, atq 1 0 z = z.1 := fun z => by unfold atq; grind
    have at01 : ∀ z : Pq, atq 0 1 z = z.2 := fun z => by unfold atq; grind
    have atm0 : ∀ z : Pq, atq (-1) 0 z = -z.1 := fun z => by unfold atq; grind
    have at0m : ∀ z : Pq, atq 0 (-1) z = -z.2 := fun z => by unfold atq; grind
    obtain ⟨c1, m1, k1⟩ := lp hp hin (-1) 0
    obtain ⟨c2, m2, k2⟩ := lp hp hin 1 0
    obtain ⟨c3, m3, k3⟩ := lp hp hin 0 (-1)
    obtain ⟨c4, m4, k4⟩ := lp hp hin 0 1
    rw [atm0, atm0] at k1
    rw [at10, at10] at k2
    rw [at0m, at0m] at k3
    rw [at01, at01] at k4
    have fl : ∀ {q : Rat} {n : Int}, q ≤ (n : Rat) → q.floor ≤ n := fun {q n} h => by
      have := Rat.floor_monotone h
      rwa [Rat.floor_intCast] at this
    have g1 := fl (show c1.1.1 ≤ ((x.1 : Int) : Rat) by dsimp only at k1; grind)
    have g2 := Rat.le_floor_iff.2 (show ((x.1 : Int) : Rat) ≤ c2.1.1 by exact k2)
    have g3 := fl (show c3.1.2 ≤ ((x.2 : Int) : Rat) by dsimp only at k3; grind)
    have g4 := Rat.le_floor_iff.2 (show ((x.2 : Int) : Rat) ≤ c4.1.2 by exact k4)
    have h1 := bx.1.1.2 c1.1 ⟨c1, m1, rfl⟩
    have h2 := bx.2.1.2 c2.1 ⟨c2, m2, rfl⟩
    have h3 := bx.1.2.2 c3.1 ⟨c3, m3, rfl⟩
    have h4 := bx.2.2.2 c4.1 ⟨c4, m4, rfl⟩
    unfold fx at h1 h2
    unfold fy at h3 h4
    omega
theorem pts_plt (l : List Sd) : (pts l).Pairwise plt := by
  unfold pts
  split
  · exact grid_plt _ _ _
  · exact .nil
theorem pts_nodup (l : List Sd) : (pts l).Nodup := (pts_plt l).imp fun {a b} h e => by
  subst e
  unfold plt at h
  omega
/-- two lists in order with the same points are one -/
theorem plt_uniq : ∀ {l l' : List Pr}, l.Pairwise plt → l'.Pairwise plt → (∀ x, x ∈ l ↔ x ∈ l') → l = l'
  | [], [], _, _, _ => rfl
  | [], y :: l', _, _, h => absurd ((h y).2 (.head _)) (by simp)
  | x :: l, [], _, _, h => absurd ((h x).1 (.head _)) (by simp)
  | x :: l, y :: l', h1, h2, h => by
    have irr : ∀ z : Pr, ¬ plt z z := fun z hz => by unfold plt at hz; omega
    have tr : ∀ {a b c : Pr}, plt a b → plt b c → plt a c := fun {a b c} p q => by unfold plt at *; omega
    rw [List.pairwise_cons] at h1 h2
    have e : x = y := by
      rcases List.mem_cons.1 ((h x).1 (.head _)) with e | hx
      · exact e
      · rcases List.mem_cons.1 ((h y).2 (.head _)) with e | hy
        · exact e.symm
        · exact absurd (tr (h1.1 y hy) (h2.1 x hx)) (irr x)
    subst e
    congr 1
    refine plt_uniq h1.2 h2.2 fun z => ?_
    constructor <;> intro hz
    · rcases List.mem_cons.1 ((h z).1 (.tail _ hz)) with rfl | k
      · exact absurd (h1.1 z hz) (irr z)
      · exact k
    · rcases List.mem_cons.1 ((h z).2 (.tail _ hz)) with rfl | k
      · exact absurd (h2.1 z hz) (irr z)
      · exact k
end Go.Lt.P2
