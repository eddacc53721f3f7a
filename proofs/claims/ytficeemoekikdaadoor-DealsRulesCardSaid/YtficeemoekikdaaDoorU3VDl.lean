/- PLAIN LAWS OF WHAT IS COMPUTED, for the statement 'DealsRules'. Nothing is asked of the input. -/
import Derived.Test.YtficeemoekikdaaDoorG3A
import Derived.Test.YtficeemoekikdaaDoorLB
set_option linter.unusedVariables false
set_option linter.unusedSimpArgs false
namespace Go.Lt.P5
open Go Go.Lt Go.Proofs
theorem awakeH0 : ((r11 (app 20) H0).map (·.1)) = some true := by decide +kernel
noncomputable def appA (k : Nat) : App := ⟨fun f xs H => match f, xs with
  | 11, [] => some (.bool true, H)
  | f, xs => app k f xs H, (app k).yld⟩
theorem appASim (k : Nat) : AppSim Tryd.prog (appA k) := by
  refine ⟨fun f xs H v H1 h => ?_, (appSim k).2⟩
  unfold appA at h
  simp only at h
  split at h
  · injection h with h
    injection h with h1 h2
    subst h1; subst h2
    obtain ⟨p, hp, he⟩ := Option.map_eq_some_iff.1 awakeH0
    have := sim11 (happ := appSim 20) hp
    rw [he] at this
    exact ⟨ok11, this.own rfl rfl H⟩
  · exact (appSim k).1 _ _ _ _ _ h
end Go.Lt.P5

namespace Go.Lt.P5
open Go Go.Lt Go.Proofs
abbrev Pr := Int × Int
theorem w64_succ {i : Nat} (h : i < 9223372036854775807) : w64 ((i : Int) + 1) = ((i + 1 : Nat) : Int) := by
  rw [w64_id (by omega) (by omega)]; push_cast; rfl
theorem keqs_two (a b c d : Int) : AV.keqs [.int .i64 a, .int .i64 b] [.int .i64 c, .int .i64 d] = decide ((a, b) = (c, d)) := by
  simp only [AV.keqs, AV.keq1, Bool.and_true, Prod.mk.injEq]
  by_cases h1 : a = c <;> by_cases h2 : b = d <;> simp [h1, h2]
def num (x : Pr) : Prop := 0 ≤ x.1 ∧ x.1 ≤ 30 ∧ 0 ≤ x.2 ∧ x.2 ≤ 30
instance (x : Pr) : Decidable (num x) := by unfold num; infer_instance
theorem mul_bd {x y A B : Int} (h1 : -A ≤ x) (h2 : x ≤ A) (h3 : -B ≤ y) (h4 : y ≤ B) : -(A * B) ≤ x * y ∧ x * y ≤ A * B := by
  have p1 : 0 ≤ (A - x) * (B - y) := Int.mul_nonneg (by omega) (by omega)
  have p2 : 0 ≤ (A + x) * (B + y) := Int.mul_nonneg (by omega) (by omega)
  have p3 : 0 ≤ (A - x) * (B + y) := Int.mul_nonneg (by omega) (by omega)
  have p4 : 0 ≤ (A + x) * (B - y) := Int.mul_nonneg (by omega) (by omega)
  constructor <;> grind
def offP (l : List Pr) : Prop := 1 ≤ l.length ∧ l.length ≤ 8 ∧ (∀ x ∈ l, num x) ∧ l.Nodup
instance (l : List Pr) : Decidable (offP l) := by unfold offP; infer_instance
theorem r38_spec (x : Int) (H : Hp) : r38 x H = some (decide (0 ≤ x ∧ x ≤ 30), H) := by
  unfold r38
  by_cases h1 : 0 ≤ x <;> simp [h1]
theorem r55_ok {H : Hp} {v : Sl} {l : List Pr} (hv : SL H v l) (hb : l.length ≤ 1000) (a b : Int) : Ok (r55 v a b H) fun r H' => Gr H H' ∧ (0 ≤ r ↔ (a, b) ∈ l) := by
  unfold r55
  refine Ok.lt ?_
  have gp := Gr.push H (.cells [.int .i64 a, .int .i64 b] false)
  have hg : (H.push (.cells [.int .i64 a, .int .i64 b] false)).get H.n = some (.cells [.int .i64 a, .int .i64 b] false) := by simp
  have hv1 := hv.gr gp
  have hlen := hv.len
  generalize H.push (.cells [.int .i64 a, .int .i64 b] false) = A at *
  rw [hlen]
  refine Ok.loop (L := fun K (s : Int) H2 => r55_l0 K v H.n l.length s H2) (fun m s H' => H' = A ∧ ∃ i : Nat, s = i ∧ i + m = l.length ∧ (a, b) ∉ l.take i) ?_ FUEL l.length 0 A (by unfold FUEL; omega) ⟨rfl, 0, rfl, by omega, by simp⟩
  rintro K m s H1 ⟨rfl, i, rfl, hm, ht⟩ ih
  try dsimp only at *
  rw [r55_l0]
  by_cases h : i < l.length
  · refine Ok.pos (by omega) (Ok.ld (ldI_get hg rfl) (Ok.ld (ldI_get hg rfl) (Ok.ck (by omega) (Ok.ld (hv1.ldI (i := i) (j := 0) h rfl) (Ok.ld (hv1.ldI (i := i) (j := 1) h rfl) ?_)))))
    rw [keqs_two]
    refine Ok.ite (fun hc => ?_) fun hc => ?_
    · have := of_decide_eq_true hc
      exact Ok.ret ⟨gp, ⟨fun _ => by rw [this]; exact List.getElem_mem h, fun _ => by omega⟩⟩
    · rw [w64_succ (by omega)]
      refine ih (m - 1) _ _ (by omega) ⟨rfl, i + 1, rfl, by omega, ?_⟩
      rw [List.take_succ_eq_append_getElem h, List.mem_append]
      rintro (c | c)
      · exact ht c
      · rw [List.mem_singleton] at c
        exact hc (decide_eq_true c)
  · rw [List.take_of_length_le (by omega)] at ht
    exact Ok.neg (by omega) (Ok.ret ⟨gp, by simp [ht]⟩)
theorem r50_ok {H : Hp} {v : Sl} {l : List Pr} (hv : SL H v l) (hb : l.length ≤ 1000) (a b : Int) : Ok (r50 v a b H) fun r H' => Gr H H' ∧ r = decide ((a, b) ∈ l) := by
  unfold r50
  refine Ok.lt ?_
  have gp := Gr.push H (.cells [.int .i64 a, .int .i64 b] false)
  have hg : (H.push (.cells [.int .i64 a, .int .i64 b] false)).get H.n = some (.cells [.int .i64 a, .int .i64 b] false) := by simp
  refine Ok.ld (ldI_get hg rfl) (Ok.ld (ldI_get hg rfl) (Ok.bind (r55_ok (hv.gr gp) hb a b) fun r H1 ⟨g1, h1⟩ => Ok.ret ⟨gp.trans g1, decide_eq_decide.2 h1⟩))
theorem r37_ok {H : Hp} {v : Sl} {l : List Pr} (hv : SL H v l) (hb : l.length ≤ 1000) : Ok (r37 v H) fun r H' => Gr H H' ∧ r = decide (offP l) := by
  unfold r37
  have hlen := hv.len
  have hcap := hv.cap
  have hopn := hv.opn
  by_cases h1 : l.length < 1
  · refine Ok.pos (by omega) ?_
    unfold r37_j0
    refine Ok.pos rfl (Ok.ret ⟨.refl _, ?_⟩)
    rw [decide_eq_false (fun h => by have := h.1; omega)]
  · refine Ok.neg (by omega) ?_
    unfold r37_j0
    by_cases h8 : 8 < l.length
    · refine Ok.pos (by rw [decide_eq_true_iff]; omega) (Ok.ret ⟨.refl _, ?_⟩)
      rw [decide_eq_false (fun h => by have := h.2.1; omega)]
    · refine Ok.neg (by rw [decide_eq_true_iff]; omega) ?_
      rw [hlen]
      refine Ok.loop (L := fun K (s : Int) H2 => r37_l1 K v v l.length s H2) (fun m s H' => Gr H H' ∧ ∃ i : Nat, s = i ∧ i + m = l.length ∧ (∀ x ∈ l.take i, num x) ∧ (l.take i).Nodup) ?_ FUEL l.length 0 H (by unfold FUEL; omega) ⟨.refl _, 0, rfl, by omega, by simp, by simp⟩
      rintro K m s H1 ⟨g1, i, rfl, hm, hn, hd⟩ ih
      try dsimp only at *
      rw [r37_l1]
      by_cases h : i < l.length
      · have hg := hv.gr g1
        obtain ⟨D, hD, hD', gD, nD⟩ := sts2 H1 (.int .i64 l[i].1) (.int .i64 l[i].2) (.int .i64 0) (.int .i64 0)
        have gB := g1.trans gD
        have hgD := hv.gr gB
        refine Ok.pos (by omega) (Ok.ck (by omega) (Ok.ld (hg.ldI (i := i) (j := 0) h rfl) (Ok.ld (hg.ldI (i := i) (j := 1) h rfl) (Ok.ld hD (Ok.ld (ldI_get hD' rfl) (Ok.ld (r38_spec _ _) ?_))))))
        have bad : ∀ H2, Gr H H2 → ¬ offP l → Ok (r37_j2 (fun v1_ v2_ v3_ v4_ H_ => r37_l1 K v1_ v2_ v3_ v4_ H_) v v l.length i true H2) fun r H' => Gr H H' ∧ r = decide (offP l) := fun H2 g2 hno => by
          unfold r37_j2
          exact Ok.pos rfl (Ok.ret ⟨g2, by rw [decide_eq_false hno]⟩)
        have hmem : l[i] ∈ l := List.getElem_mem h
        refine Ok.ite (fun hc => ?_) fun hc => bad _ gB fun ho => by
          have := ho.2.2.1 _ hmem
          unfold num at this
          simp at hc
          omega
        refine Ok.ld (ldI_get hD' rfl) (Ok.ld (r38_spec _ _) (Ok.ite (fun hc2 => ?_) fun hc2 => bad _ gB fun ho => by
          have := ho.2.2.1 _ hmem
          unfold num at this
          simp at hc2
          omega))
        refine Ok.ck ⟨by omega, hopn⟩ (Ok.ld (ldI_get hD' rfl) (Ok.ld (ldI_get hD' rfl) ?_))
        rw [Int.toNat_natCast, Int.toNat_zero]
        have hs := hgD.cut (lo := 0) (hi := i) (by omega) (by omega)
        rw [List.drop_zero, Nat.sub_zero] at hs
        refine Ok.bind (r50_ok hs (by rw [List.length_take]; omega) _ _) fun r H2 ⟨g2, hr⟩ => ?_
        subst hr
        have gC := gB.trans g2
        by_cases hin : l[i] ∈ l.take i
        · have : decide ((l[i].1, l[i].2) ∈ l.take i) = true := decide_eq_true hin
          rw [this]
          refine bad _ gC fun ho => ?_
          have hnd := ho.2.2.2
          rw [← List.take_append_drop i l] at hnd
          exact (List.nodup_append.1 hnd).2.2 _ hin _ (by rw [List.drop_eq_getElem_cons h]; exact List.mem_cons_self) rfl
        · have : decide ((l[i].1, l[i].2) ∈ l.take i) = false := decide_eq_false hin
          rw [this]
          unfold r37_j2
          refine Ok.neg (by simp) ?_
          rw [w64_succ (by omega)]
          refine ih (m - 1) _ _ (by omega) ⟨gC, i + 1, rfl, by omega, ?_, ?_⟩
          · rw [List.take_succ_eq_append_getElem h]
            intro x hx
            rcases List.mem_append.1 hx with hx | hx
            · exact hn x hx
            · rw [List.mem_singleton] at hx
              subst hx
              unfold num
              simp at hc hc2
              omega
          · rw [List.take_succ_eq_append_getElem h]
            refine List.nodup_append.2 ⟨hd, by simp, fun x hx y hy e => ?_⟩
            rw [List.mem_singleton] at hy
            subst hy; subst e
            exact hin hx
      · rw [List.take_of_length_le (by omega)] at hn hd
        exact Ok.neg (by omega) (Ok.ret ⟨g1, by rw [decide_eq_true ⟨by omega, by omega, hn, hd⟩]⟩)
theorem r5_ok {H : Hp} {v : Sl} {l : List Pr} (hv : SL H v l) (hb : l.length < 9223372036854775808) : Ok (r5 v H) fun w H' => Gr H H' ∧ SL H' w (l.take 11) ∧ w.nil = v.nil ∧ (v.nil = false → Own H' w (l.take 11) ∧ H.n ≤ w.b) := by
  unfold r5
  have h1 := hv.len
  have hc := hv.cap
  have ho := hv.opn
  have e : (if 11 < (v.len : Int) then (11 : Int) else (v.len : Int)) = ((min 11 l.length : Nat) : Int) := by
    by_cases h : 11 < (v.len : Int)
    · rw [if_pos h]; omega
    · rw [if_neg h]; omega
  rw [e]
  refine Ok.ck ⟨by omega, ho⟩ ?_
  rw [Int.toNat_natCast]
  have hs := hv.cut (lo := 0) (hi := min 11 l.length) (by omega) (by omega)
  have hl : (l.drop 0).take (min 11 l.length - 0) = l.take 11 := by
    rw [List.drop_zero, Nat.sub_zero]
    by_cases h : 11 ≤ l.length
    · rw [Nat.min_eq_left h]
    · rw [Nat.min_eq_right (by omega), List.take_of_length_le (by omega), List.take_of_length_le (by omega)]
  rw [hl] at hs
  have hcn : (v.cut 2 0 (min 11 l.length)).nil = v.nil := by
    cases hn : v.nil <;> simp [Sl.cut, hn]
  show Ok ((cloneR 2 _ H).bind fun p2 => some (p2.1, p2.2)) _
  exact Ok.bind (clone_ok hs (by simp; omega) rfl) fun w H2 ⟨g2, a, b, hw⟩ => Ok.ret ⟨g2, a, b.trans hcn, fun hn => hw (hcn.trans hn)⟩
theorem off11 (l : List Pr) : offP (l.take 11) ↔ offP l := by
  by_cases h : l.length ≤ 11
  · rw [List.take_of_length_le h]
  · constructor
    · intro c
      have := c.2.1
      rw [List.length_take] at this
      omega
    · intro c
      have := c.2.1
      omega
end Go.Lt.P5

namespace Go.Lt.P5
open Go.Lt
def under (u t q : Pr) : Prop := (t.1 - u.1) * (q.2 - u.2) ≤ (t.2 - u.2) * (q.1 - u.1)
def turn (a b c : Pr) : Int := (b.1 - a.1) * (c.2 - b.2) - (b.2 - a.2) * (c.1 - b.1)
theorem cancel {k x y : Int} (hk : 0 < k) (h : k * x ≤ k * y) : x ≤ y := Int.le_of_mul_le_mul_left h hk
theorem under_right {u t p q : Pr} (h1 : u.1 < t.1) (h2 : u.1 < p.1) (hq : u.1 ≤ q.1) (hqt : under u t q) (ht : under u p t) : under u p q := by
  unfold under at *
  refine cancel (k := t.1 - u.1) (by omega) ?_
  have a1 : (p.1 - u.1) * ((t.1 - u.1) * (q.2 - u.2)) ≤ (p.1 - u.1) * ((t.2 - u.2) * (q.1 - u.1)) := Int.mul_le_mul_of_nonneg_left hqt (by omega)
  have a2 : (q.1 - u.1) * ((p.1 - u.1) * (t.2 - u.2)) ≤ (q.1 - u.1) * ((p.2 - u.2) * (t.1 - u.1)) := Int.mul_le_mul_of_nonneg_left ht (by omega)
  grind
theorem turn_under {u t p : Pr} : 0 ≤ turn u t p ↔ under u p t := by
  unfold turn under
  constructor <;> intro h <;> grind
theorem turn_over {u t p : Pr} (h : turn u t p < 0) : under u t p := by
  unfold turn at h
  unfold under
  grind
theorem under_mid {u t p q : Pr} (h1 : u.1 < t.1) (h2 : t.1 ≤ p.1) (hq1 : t.1 ≤ q.1) (hq2 : q.1 ≤ p.1) (hqp : q.1 = p.1 → q.2 ≤ p.2) (hut : under u p t) (hq : under t p q) : under u p q := by
  by_cases he : t.1 = p.1
  · have e1 : q.1 = p.1 := by omega
    have := hqp e1
    unfold under
    rw [e1]
    have := Int.mul_le_mul_of_nonneg_left (a := q.2 - u.2) (b := p.2 - u.2) (c := p.1 - u.1) (by omega) (by omega)
    grind
  · unfold under at *
    refine cancel (k := p.1 - t.1) (by omega) ?_
    have a1 : (t.1 - u.1) * ((p.1 - t.1) * (q.2 - t.2)) ≤ (t.1 - u.1) * ((p.2 - t.2) * (q.1 - t.1)) := Int.mul_le_mul_of_nonneg_left hq (by omega)
    have a2 : (p.1 - t.1) * ((p.1 - t.1) * (q.2 - t.2)) ≤ (p.1 - t.1) * ((p.2 - t.2) * (q.1 - t.1)) := Int.mul_le_mul_of_nonneg_left hq (by omega)
    have a3 : (p.1 - q.1) * ((p.1 - u.1) * (t.2 - u.2)) ≤ (p.1 - q.1) * ((p.2 - u.2) * (t.1 - u.1)) := Int.mul_le_mul_of_nonneg_left hut (by omega)
    grind
theorem under_left {u t p q : Pr} (h1 : u.1 < t.1) (h2 : t.1 < p.1) (hq : q.1 ≤ t.1) (hqt : under u t q) (ht : turn u t p < 0) : under t p q := by
  unfold under turn at *
  refine cancel (k := t.1 - u.1) (by omega) ?_
  have a1 : (p.1 - t.1) * ((t.1 - u.1) * (q.2 - u.2)) ≤ (p.1 - t.1) * ((t.2 - u.2) * (q.1 - u.1)) := Int.mul_le_mul_of_nonneg_left hqt (by omega)
  have a2 : (t.1 - q.1) * ((t.1 - u.1) * (p.2 - t.2)) ≤ (t.1 - q.1) * ((t.2 - u.2) * (p.1 - t.1)) := Int.mul_le_mul_of_nonneg_left (by omega) (by omega)
  grind
theorem under_ahead {w u t p : Pr} (h1 : w.1 < u.1) (h2 : u.1 < t.1) (h3 : t.1 ≤ p.1) (hp : under u t p) (ht : turn w u t < 0) : under w u p := by
  unfold under turn at *
  refine cancel (k := t.1 - u.1) (by omega) ?_
  have a1 : (u.1 - w.1) * ((t.1 - u.1) * (p.2 - u.2)) ≤ (u.1 - w.1) * ((t.2 - u.2) * (p.1 - u.1)) := Int.mul_le_mul_of_nonneg_left hp (by omega)
  have a2 : (p.1 - u.1) * ((u.1 - w.1) * (t.2 - u.2)) ≤ (p.1 - u.1) * ((u.2 - w.2) * (t.1 - u.1)) := Int.mul_le_mul_of_nonneg_left (by omega) (by omega)
  grind
end Go.Lt.P5

namespace Go.Lt.P5
open Go.Lt
def lexP (p q : Pr) : Prop := p.1 < q.1 ∨ (p.1 = q.1 ∧ p.2 < q.2)
def popY : List Pr → Pr → List Pr
  | t :: r, p => if t.2 ≤ p.2 then popY r p else t :: r
  | [], _ => []
def popT : List Pr → Pr → List Pr
  | t :: u :: r, p => if 0 ≤ turn u t p then popT (u :: r) p else t :: u :: r
  | s, _ => s
def addC (s : List Pr) (p : Pr) : List Pr := p :: popT (popY s p) p
def conv : List Pr → Prop
  | t :: u :: r => u.1 < t.1 ∧ t.2 < u.2 ∧ (∀ w r', r = w :: r' → turn w u t < 0) ∧ conv (u :: r)
  | _ => True
def und : List Pr → Pr → Prop
  | t :: u :: r, q => under u t q ∧ und (u :: r) q
  | [b], q => q.2 ≤ b.2
  | [], _ => True
structure CI (s D : List Pr) : Prop where
  cv : conv s
  ud : ∀ q ∈ D, und s q
  top : ∀ t r, s = t :: r → ∀ q ∈ D, q.1 ≤ t.1 ∧ (q.1 = t.1 → q.2 ≤ t.2)
  sub : ∀ q ∈ s, q ∈ D
  ne : D ≠ [] → s ≠ []
structure PI (s D : List Pr) (p : Pr) : Prop where
  cv : conv s
  ud : ∀ q ∈ D, und s q
  sub : ∀ q ∈ s, q ∈ D
  rr : ∀ t r, s = t :: r → ∀ q ∈ D, t.1 ≤ q.1 → under t p q
theorem PI.pop {t u : Pr} {r D : List Pr} {p : Pr} (h : PI (t :: u :: r) D p) (hp : ∀ q ∈ D, q.1 ≤ p.1 ∧ (q.1 = p.1 → q.2 < p.2)) (ht : 0 ≤ turn u t p) : PI (u :: r) D p := by
  obtain ⟨c1, c2, c3, c4⟩ := h.cv
  have htD := h.sub t (by simp)
  have htp := hp t htD
  refine ⟨c4, fun q hq => (h.ud q hq).2, fun q hq => h.sub q (by simp [List.mem_cons.1 hq]), fun t' r' e q hq huq => ?_⟩
  injection e with e1 e2
  subst e1
  have hut := turn_under.1 ht
  by_cases hc : t.1 ≤ q.1
  · exact under_mid c1 htp.1 hc (hp q hq).1 (fun e => by have := (hp q hq).2 e; omega) hut (h.rr t _ rfl q hq hc)
  · exact under_right c1 (by omega) huq (h.ud q hq).1 hut
theorem popT_ok {D : List Pr} {p : Pr} (hp : ∀ q ∈ D, q.1 ≤ p.1 ∧ (q.1 = p.1 → q.2 < p.2)) : ∀ (s : List Pr), PI s D p → (∀ t r, s = t :: r → p.2 < t.2) →
    PI (popT s p) D p ∧ (∀ t r, popT s p = t :: r → p.2 < t.2) ∧ (∀ t u r, popT s p = t :: u :: r → turn u t p < 0) ∧ (s ≠ [] → popT s p ≠ []) := by
  intro s
  induction s with
  | nil => intro h _; exact ⟨h, fun t r e => by simp [popT] at e, fun t u r e => by simp [popT] at e, fun h => absurd rfl h⟩
  | cons t s ih =>
    intro h hy
    cases s with
    | nil => exact ⟨h, hy, fun t' u r e => by simp [popT] at e, fun _ => by simp [popT]⟩
    | cons u r =>
      rw [popT]
      by_cases ht : 0 ≤ turn u t p
      · rw [if_pos ht]
        have h2 := ih (h.pop hp ht) (fun t' r' e => by
          injection e with e1 e2
          subst e1
          have := hy t _ rfl
          have := h.cv.2.1
          omega)
        exact ⟨h2.1, h2.2.1, h2.2.2.1, fun _ => h2.2.2.2 (by simp)⟩
      · rw [if_neg ht]
        refine ⟨h, hy, fun t' u' r' e => ?_, fun _ => by simp⟩
        injection e with e1 e2
        injection e2 with e2 e3
        subst e1; subst e2
        omega
theorem popY_ok {D : List Pr} {p : Pr} (hp : ∀ q ∈ D, q.1 ≤ p.1 ∧ (q.1 = p.1 → q.2 < p.2)) : ∀ (s : List Pr), PI s D p → s ≠ [] →
    PI (popY s p) D p ∧ (∀ t r, popY s p = t :: r → p.2 < t.2) ∧ (popY s p = [] → ∀ q ∈ D, q.2 ≤ p.2) := by
  intro s
  induction s with
  | nil => intro _ h; exact absurd rfl h
  | cons t s ih =>
    intro h _
    rw [popY]
    by_cases ht : t.2 ≤ p.2
    · rw [if_pos ht]
      cases s with
      | nil =>
        refine ⟨⟨trivial, fun _ _ => trivial, fun q hq => by simp [popY] at hq, fun t' r e => by simp [popY] at e⟩, fun t' r e => by simp [popY] at e, fun _ q hq => ?_⟩
        have : q.2 ≤ t.2 := h.ud q hq
        omega
      | cons u r =>
        refine ih (h.pop hp ?_) (by simp)
        obtain ⟨c1, c2, _⟩ := h.cv
        have htp := (hp t (h.sub t (by simp))).1
        unfold turn
        have a1 : 0 ≤ (t.1 - u.1) * (p.2 - t.2) := Int.mul_nonneg (by omega) (by omega)
        have a2 : 0 ≤ (u.2 - t.2) * (p.1 - t.1) := Int.mul_nonneg (by omega) (by omega)
        grind
    · rw [if_neg ht]
      refine ⟨h, fun t' r e => ?_, fun e => by simp at e⟩
      injection e with e1 e2
      subst e1
      omega
theorem und_self : ∀ (s : List Pr) (t : Pr) (r : List Pr) (p : Pr), s = t :: r → conv s → t.1 ≤ p.1 → p.2 ≤ t.2 → (∀ u r', r = u :: r' → under u t p) → und s p := by
  intro s
  induction s with
  | nil => intro t r p e; cases e
  | cons x s ih =>
    intro t r p e hc h1 h2 h3
    injection e with e1 e2
    subst e1; subst e2
    cases s with
    | nil => exact h2
    | cons u r =>
      obtain ⟨c1, c2, c3, c4⟩ := hc
      refine ⟨h3 u r rfl, ih u r p rfl c4 (by omega) (by omega) fun w r' e => ?_⟩
      subst e
      cases r' <;> exact under_ahead c4.1 c1 h1 (h3 u _ rfl) (c3 w _ rfl)
theorem CI.add {s D : List Pr} {p : Pr} (h : CI s D) (hp : ∀ q ∈ D, lexP q p) : CI (addC s p) (D ++ [p]) := by
  have hp' : ∀ q ∈ D, q.1 ≤ p.1 ∧ (q.1 = p.1 → q.2 < p.2) := fun q hq => by
    have := hp q hq
    unfold lexP at this
    omega
  have htop : ∀ t r, addC s p = t :: r → ∀ q ∈ D ++ [p], q.1 ≤ t.1 ∧ (q.1 = t.1 → q.2 ≤ t.2) := by
    intro t r e q hq
    unfold addC at e
    injection e with e1 e2
    subst e1
    rcases List.mem_append.1 hq with hq | hq
    · have := hp' q hq; omega
    · rw [List.mem_singleton] at hq; subst hq; omega
  by_cases hs : s = []
  · subst hs
    have hD : D = [] := by
      cases D with
      | nil => rfl
      | cons a D => exact absurd rfl (h.ne (by simp))
    subst hD
    refine ⟨trivial, fun q hq => ?_, htop, fun q hq => by simpa [addC, popY, popT] using hq, fun _ => by simp [addC]⟩
    rw [List.nil_append, List.mem_singleton] at hq
    subst hq
    exact Int.le_refl _
  · have hPI : PI s D p := ⟨h.cv, h.ud, h.sub, fun t r e q hq hc => by
      have := h.top t r e q hq
      have e1 : q.1 = t.1 := by omega
      have h2 := this.2 e1
      unfold under
      rw [e1]
      have htp := (hp' t (h.sub t (by rw [e]; simp))).1
      have := Int.mul_le_mul_of_nonneg_left (a := q.2 - t.2) (b := 0) (c := p.1 - t.1) (by omega) (by omega)
      grind⟩
    obtain ⟨y1, y2, y3⟩ := popY_ok hp' s hPI hs
    obtain ⟨t1, t2, t3, t4⟩ := popT_ok hp' _ y1 y2
    unfold addC at *
    cases hq : popT (popY s p) p with
    | nil =>
      have hy : popY s p = [] := by
        cases hh : popY s p with
        | nil => rfl
        | cons a b => exact absurd hq (t4 (by rw [hh]; simp))
      refine ⟨trivial, fun q hqm => ?_, by rw [hq] at htop; exact htop, fun q hqm => by simp at hqm; simp [hqm], fun _ => by simp⟩
      rcases List.mem_append.1 hqm with hqm | hqm
      · exact y3 hy q hqm
      · rw [List.mem_singleton] at hqm; subst hqm; exact Int.le_refl _
    | cons t r =>
      rw [hq] at t1 t2 t3 htop
      have hpy := t2 t r rfl
      have htD := t1.sub t (by simp)
      have htp := hp' t htD
      have hlt : t.1 < p.1 := by
        rcases Int.lt_or_eq_of_le htp.1 with h | h
        · exact h
        · have := htp.2 h; omega
      refine ⟨⟨hlt, hpy, fun w r' e => by subst e; exact t3 t w r' rfl, t1.cv⟩, fun q hqm => ?_, htop, fun q hqm => ?_, fun _ => by simp⟩
      · rcases List.mem_append.1 hqm with hqm | hqm
        · refine ⟨?_, t1.ud q hqm⟩
          by_cases hc : t.1 ≤ q.1
          · exact t1.rr t r rfl q hqm hc
          · cases r with
            | nil =>
              have : q.2 ≤ t.2 := t1.ud q hqm
              unfold under
              have a1 : 0 ≤ (p.1 - t.1) * (t.2 - q.2) := Int.mul_nonneg (by omega) (by omega)
              have a2 : 0 ≤ (t.2 - p.2) * (t.1 - q.1) := Int.mul_nonneg (by omega) (by omega)
              grind
            | cons u r => exact under_left t1.cv.1 hlt (by omega) (t1.ud q hqm).1 (t3 t u r rfl)
        · rw [List.mem_singleton] at hqm
          subst hqm
          refine ⟨?_, und_self (t :: r) t r q rfl t1.cv (by omega) (by omega) fun u r' e => ?_⟩
          · unfold under; grind
          · subst e; exact turn_over (t3 t u r' rfl)
      · rcases List.mem_cons.1 hqm with rfl | hqm
        · simp
        · exact List.mem_append_left _ (t1.sub q hqm)
def chainF (l : List Pr) : List Pr := l.foldl addC []
theorem chain_ok {l : List Pr} (h : l.Pairwise lexP) : CI (chainF l) l := by
  have key : ∀ (rest D s : List Pr), CI s D → (D ++ rest).Pairwise lexP → CI (rest.foldl addC s) (D ++ rest) := by
    intro rest
    induction rest with
    | nil => intro D s h _; simpa using h
    | cons p rest ih =>
      intro D s h hp
      have h2 := ih (D ++ [p]) (addC s p) (h.add fun q hq => (List.pairwise_append.1 hp).2.2 q hq p (by simp)) (by simpa using hp)
      simpa using h2
  have := key l [] [] ⟨trivial, by simp, by simp, by simp, by simp⟩ (by simpa using h)
  unfold chainF
  simpa using this
end Go.Lt.P5

namespace Go.Lt.P5
open Go Go.Lt Go.Proofs
def ltP (p q : Pr) : Bool := decide (p.1 < q.1 ∨ (p.1 = q.1 ∧ p.2 < q.2))
def cmpI (x y : Int) : Int := if x < y then -1 else if y < x then 1 else 0
def cmpP (p q : Pr) : Int := if cmpI p.1 q.1 ≠ 0 then cmpI p.1 q.1 else cmpI p.2 q.2
theorem cmpP_lt (p q : Pr) : cmpP p q < 0 ↔ ltP p q = true := by
  unfold cmpP cmpI ltP
  rw [decide_eq_true_iff]
  by_cases a : p.1 < q.1
  · rw [if_pos a, if_pos (by decide)]; omega
  · rw [if_neg a]
    by_cases b : q.1 < p.1
    · rw [if_pos b, if_pos (by decide)]; omega
    · rw [if_neg b, if_neg (by decide)]
      by_cases c : p.2 < q.2
      · rw [if_pos c]; omega
      · rw [if_neg c]
        by_cases d : q.2 < p.2
        · rw [if_pos d]; omega
        · rw [if_neg d]; omega
def CmpSays (a : App) (fv : AV) : Prop := ∀ H (p q : Pr), Ok (callv a fv [.agg [.int .i64 p.1, .int .i64 p.2], .agg [.int .i64 q.1, .int .i64 q.2]] H) fun r H' => Gr H H' ∧ r = .int .i64 (cmpP p q)
def at' (q : List Pr) (t : Nat) : Pr := q.getD t (0, 0)
theorem at_eq {q : List Pr} {t : Nat} (h : t < q.length) : q[t] = at' q t := by
  unfold at'
  rw [List.getD_eq_getElem?_getD, List.getElem?_eq_getElem h]; rfl
theorem at_set {q : List Pr} {j : Nat} (h : j < q.length) (x : Pr) (t : Nat) : at' (q.set j x) t = if t = j then x else at' q t := by
  unfold at'
  rw [List.getD_eq_getElem?_getD, List.getD_eq_getElem?_getD, List.getElem?_set]
  by_cases e : j = t
  · subst e; simp [h]
  · rw [if_neg e, if_neg (fun c => e c.symm)]
theorem ltP_asym {p q : Pr} (h : ltP p q = true) : ltP q p = false := by
  simp only [ltP, decide_eq_true_eq, decide_eq_false_iff_not] at *
  omega
theorem ltP_ntr {p q r : Pr} (h : ltP q p = false) (k : ltP r q = false) : ltP r p = false := by
  simp only [ltP, decide_eq_false_iff_not] at *
  omega
def so (q : List Pr) : Prop := ∀ t t', t < t' → t' < q.length → ltP (at' q t') (at' q t) = false
def sb (q : List Pr) (i j : Nat) : Prop := ∀ t t', t < t' → t' ≤ i → t' ≠ j → ltP (at' q t') (at' q t) = false
theorem sb_swap {q : List Pr} {i j : Nat} (hi : i < q.length) (hj : j + 1 ≤ i) (h : sb q i (j + 1)) (hl : ltP (at' q (j + 1)) (at' q j) = true) : sb ((q.set (j + 1) (at' q j)).set j (at' q (j + 1))) i j := by
  have e : ∀ t, at' ((q.set (j + 1) (at' q j)).set j (at' q (j + 1))) t = if t = j then at' q (j + 1) else if t = j + 1 then at' q j else at' q t := fun t => by
    rw [at_set (by simp; omega), at_set (by omega)]
  intro t t' h1 h2 h3
  rw [e, e, if_neg h3]
  by_cases c1 : t' = j + 1
  · subst c1
    rw [if_pos rfl]
    by_cases c2 : t = j
    · subst c2; rw [if_pos rfl]; exact ltP_asym hl
    · rw [if_neg c2, if_neg (by omega)]
      exact h t j (by omega) (by omega) (by omega)
  · rw [if_neg c1]
    by_cases c2 : t = j
    · subst c2; rw [if_pos rfl]; exact h (t + 1) t' (by omega) h2 c1
    · rw [if_neg c2]
      by_cases c3 : t = j + 1
      · subst c3; rw [if_pos rfl]; exact h j t' (by omega) h2 c1
      · rw [if_neg c3]; exact h t t' h1 h2 c1
theorem sb_stop {q : List Pr} {i j : Nat} (hj : j ≤ i) (h : sb q i j) (hs : 0 < j → ltP (at' q j) (at' q (j - 1)) = false) : ∀ t t', t < t' → t' ≤ i → ltP (at' q t') (at' q t) = false := by
  intro t t' h1 h2
  by_cases e : t' = j
  · subst e
    have := hs (by omega)
    by_cases e2 : t = t' - 1
    · subst e2; exact this
    · exact ltP_ntr (h t (t' - 1) (by omega) (by omega) (by omega)) this
  · exact h t t' h1 h2 e
section
variable {a : App} {fv : AV} {v : Sl} {Q : Unit → Hp → Prop}
theorem r59_l1_ok (hc : CmpSays a fv) {kt : Sl → Int → Int → AV → Int → Hp → Option (Unit × Hp)} {q : List Pr} (hb : q.length ≤ 1000000) {i : Nat} {n : Int} {H : Hp} (ho : Own H v q) (hi : i < q.length) (hs : sb q i i)
    (k : ∀ q' H', Own H' v q' → Only v.b H H' → q'.Perm q → (∀ t t', t < t' → t' ≤ i → ltP (at' q' t') (at' q' t) = false) → Ok (kt v 0 n fv ((i + 1 : Nat) : Int) H') Q) :
    Ok (r59_l1 a kt FUEL v 0 n fv i i H) Q := by
  refine Ok.loop (L := fun K (s : Int) H' => r59_l1 a kt K v 0 n fv i s H') (fun m s H' => ∃ j : Nat, s = j ∧ j ≤ i ∧ m = j ∧ ∃ q', Own H' v q' ∧ Only v.b H H' ∧ q'.Perm q ∧ sb q' i j) ?_ FUEL i i H (by unfold FUEL; omega) ⟨i, rfl, Nat.le_refl _, rfl, q, ho, .refl _ _, .refl _, hs⟩
  rintro K m s H1 ⟨j, rfl, hj, rfl, q', h1, g1, hp, hsb⟩ ih
  try dsimp only at *
  have hql := hp.length_eq
  have hvl := h1.len
  rw [r59_l1]
  have stop : (0 < m → ltP (at' q' m) (at' q' (m - 1)) = false) → ∀ kt1 H2, Own H2 v q' → Only v.b H H2 → Ok (r59_j2 a kt kt1 v 0 n fv i m false H2) Q := by
    intro h kt1 H2 o2 g2
    unfold r59_j2
    refine Ok.neg (by simp) ?_
    rw [w64_succ (by omega)]
    exact k q' H2 o2 g2 hp (sb_stop hj hsb h)
  by_cases h : 0 < m
  · obtain ⟨j, rfl⟩ : ∃ j, m = j + 1 := ⟨m - 1, by omega⟩
    have ej : w64 (((j + 1 : Nat) : Int) - 1) = (j : Int) := by rw [w64_id (by omega) (by omega)]; omega
    rw [ej]
    have hg := h1.sl
    refine Ok.pos (by omega) (Ok.ck (by omega) (Ok.ld (hg.ldI (i := j + 1) (j := 0) (by omega) rfl) (Ok.ld (hg.ldI (i := j + 1) (j := 1) (by omega) rfl) (Ok.ck (by omega) (Ok.ld (hg.ldI (i := j) (j := 0) (by omega) rfl) (Ok.ld (hg.ldI (i := j) (j := 1) (by omega) rfl) ?_))))))
    refine Ok.bind (hc H1 q'[j + 1] q'[j]) fun r H2 ⟨g2, hr⟩ => ?_
    subst hr
    refine Ok.ld rfl ?_
    have o2 := h1.gr g2
    have gg := g1.trans (Gr.only (b := v.b) g2)
    by_cases hl : cmpP q'[j + 1] q'[j] < 0
    · rw [decide_eq_true hl]
      unfold r59_j2
      rw [ej]
      have hg2 := o2.sl
      refine Ok.pos rfl (Ok.ck (by omega) (Ok.ld (hg2.ldI (i := j) (j := 0) (by omega) rfl) (Ok.ld (hg2.ldI (i := j) (j := 1) (by omega) rfl) (Ok.ck (by omega) (Ok.ld (hg2.ldI (i := j + 1) (j := 0) (by omega) rfl) (Ok.ld (hg2.ldI (i := j + 1) (j := 1) (by omega) rfl) (Ok.ck (by omega) ?_)))))))
      refine o2.put (j := j + 1) (by omega) q'[j] rfl rfl fun H3 o3 g3 n3 => Ok.ck (by omega) (o3.put (j := j) (by simp; omega) q'[j + 1] rfl rfl fun H4 o4 g4 n4 => ?_)
      dsimp only
      refine ih j _ H4 (by omega) ⟨j, rfl, by omega, rfl, _, o4, gg.trans (g3.trans g4), (swap_perm (by omega)).trans hp, ?_⟩
      rw [at_eq (show j < q'.length by omega), at_eq (show j + 1 < q'.length by omega)]
      refine sb_swap (by omega) (by omega) hsb ?_
      rw [← at_eq (show j < q'.length by omega), ← at_eq (show j + 1 < q'.length by omega)]
      exact (cmpP_lt _ _).1 hl
    · rw [decide_eq_false hl]
      refine stop (fun _ => ?_) _ H2 o2 gg
      rw [Nat.add_sub_cancel, ← at_eq (show j < q'.length by omega), ← at_eq (show j + 1 < q'.length by omega)]
      cases hb2 : ltP q'[j + 1] q'[j] with
      | false => rfl
      | true => exact absurd ((cmpP_lt _ _).2 hb2) hl
  · exact Ok.neg (by omega) (stop (fun h' => absurd h' h) _ H1 h1 g1)
theorem r59_ok (hc : CmpSays a fv) {q : List Pr} (hb : q.length ≤ 1000000) {H : Hp} (ho : Own H v q) :
    Ok (r59 a v 0 q.length fv H) fun _ H' => ∃ q', Own H' v q' ∧ Only v.b H H' ∧ q'.Perm q ∧ so q' := by
  unfold r59
  rw [show w64 (0 + 1) = ((1 : Nat) : Int) by decide]
  refine Ok.loop (L := fun K (s : Int) H' => r59_l0 a K v 0 q.length fv s H') (fun m s H' => ∃ i : Nat, s = i ∧ 1 ≤ i ∧ q.length ≤ i + m ∧ ∃ q', Own H' v q' ∧ Only v.b H H' ∧ q'.Perm q ∧ ∀ t t', t < t' → t' < i → ltP (at' q' t') (at' q' t) = false) ?_ FUEL q.length _ H (by unfold FUEL; omega) ⟨1, rfl, Nat.le_refl _, by omega, q, ho, .refl _ _, .refl _, fun t t' h1 h2 => by omega⟩
  rintro K m s H1 ⟨i, rfl, hi1, hm, q', h1, g1, hp, hs⟩ ih
  try dsimp only at *
  have hql := hp.length_eq
  rw [r59_l0]
  by_cases h : i < q.length
  · refine Ok.pos (by omega) (r59_l1_ok hc (by omega) h1 (by omega) (fun t t' a1 a2 a3 => hs t t' a1 (by omega)) fun q2 H2 o2 g2 p2 s2 => ?_)
    exact ih (m - 1) _ H2 (by omega) ⟨i + 1, rfl, by omega, by omega, q2, o2, g1.trans g2, p2.trans hp, fun t t' a1 a2 => s2 t t' a1 (by omega)⟩
  · exact Ok.neg (by omega) (Ok.ret ⟨q', h1, g1, hp, fun t t' a1 a2 => hs t t' a1 (by omega)⟩)
end
theorem r58_at {n : Nat} (hn : n ∈ [0, 1, 2, 3, 4, 5, 6, 7, 8, 9, 10, 11, 12]) (H : Hp) : r58 (n : Int) H = some (([0, 1, 2, 2, 3, 3, 3, 3, 4, 4, 4, 4, 4] : List Int).getD n 0, H) := by
  simp only [List.mem_cons, List.not_mem_nil, or_false] at hn
  rcases hn with rfl | rfl | rfl | rfl | rfl | rfl | rfl | rfl | rfl | rfl | rfl | rfl | rfl <;> kernel_rfl
theorem r58_small {n : Nat} (hn : n ≤ 12) (H : Hp) : ∃ x, r58 (IntKind.wrap .u64 (n : Int)) H = some (x, H) := by
  have e : IntKind.wrap .u64 (n : Int) = n := by
    simp only [IntKind.wrap, IntKind.signed, IntKind.bits]
    simp
    omega
  rw [e]
  exact ⟨_, r58_at (by simp; omega) H⟩
theorem r52_ok {k : Nat} {fv : AV} (hc : CmpSays (appA (k + 1)) fv) {v : Sl} {q : List Pr} (hb : q.length ≤ 12) {H : Hp} (ho : Own H v q) :
    Ok (r52 (appA (k + 1)) v fv H) fun _ H' => ∃ q', Own H' v q' ∧ Only v.b H H' ∧ q'.Perm q ∧ so q' := by
  unfold r52
  have hl := ho.len
  rw [hl]
  obtain ⟨x, e⟩ := r58_small hb H
  refine Ok.ld e ?_
  unfold r57
  rw [show FUEL = 18446744073709551615 + 1 from rfl, r57_l0]
  refine Ok.bind (P := fun _ H' => ∃ q', Own H' v q' ∧ Only v.b H H' ∧ q'.Perm q ∧ so q') ?_ fun _ H' h => Ok.ret h
  rw [w64_id (by omega) (by omega)]
  exact Ok.pos (by omega) (Ok.bind (r59_ok hc (by omega) ho) fun _ H' h => Ok.ret h)
theorem so_lex {q : List Pr} (h : so q) (hd : q.Nodup) : q.Pairwise lexP := by
  rw [List.pairwise_iff_getElem]
  intro i j hi hj hij
  have h1 := h i j hij hj
  rw [← at_eq hi, ← at_eq hj] at h1
  have h2 := List.pairwise_iff_getElem.1 hd i j hi hj hij
  simp only [ltP, decide_eq_false_iff_not] at h1
  unfold lexP
  have : ¬ (q[i].1 = q[j].1 ∧ q[i].2 = q[j].2) := fun c => h2 (Prod.ext c.1 c.2)
  omega
theorem r46_spec (x y : Int) (H : Hp) : r46 x y H = some (cmpI x y, H) := by
  unfold r46 r54 cmpI
  by_cases a : x < y
  · simp [a]
  · by_cases b : y < x <;> simp [a, b]
theorem r43_two {H : Hp} {b c : Nat} {x y u w : Int} (hb : H.get b = some (.cells [.int .i64 x, .int .i64 y] false)) (hc : H.get c = some (.cells [.int .i64 u, .int .i64 w] false)) :
    r43 ⟨false, b, 0, 2, 2, 0⟩ ⟨false, c, 0, 2, 2, 0⟩ H = some (cmpP (x, y) (u, w), H) := by
  have e0 : H.ldI .i64 b (0 + (0 : Int).toNat * 1) = some x := ldI_get hb rfl
  have e1 : H.ldI .i64 b (0 + (1 : Int).toNat * 1) = some y := ldI_get hb rfl
  have f0 : H.ldI .i64 c (0 + (0 : Int).toNat * 1) = some u := ldI_get hc rfl
  have f1 : H.ldI .i64 c (0 + (1 : Int).toNat * 1) = some w := ldI_get hc rfl
  have s1 : w64 ((0 : Int) + 1) = 1 := by decide +kernel
  have s2 : w64 ((1 : Int) + 1) = 2 := by decide +kernel
  unfold r43
  rw [show FUEL = 18446744073709551613 + 1 + 1 + 1 from rfl, r43_l0]
  simp only [e0, f0, Option.bind_some, r46_spec, s1]
  rw [if_pos (by simp), ck, if_pos (by simp), if_neg (by simp), ck, if_pos (by simp)]
  unfold cmpP
  by_cases h : cmpI x u ≠ 0
  · rw [if_pos h, if_pos h]
  · rw [if_neg h, if_neg h, r43_l0]
    simp only [e1, f1, Option.bind_some, r46_spec, s2]
    rw [if_pos (by simp), ck, if_pos (by simp), if_neg (by simp), ck, if_pos (by simp)]
    by_cases h2 : cmpI y w ≠ 0
    · rw [if_pos h2]
    · rw [if_neg h2, r43_l0, if_neg (by simp), if_neg (by simp)]
      simp only [ne_eq, Classical.not_not] at h2
      rw [h2]
theorem says42 (k : Nat) : CmpSays (appA (k + 1)) (.fn 42 [] []) := by
  intro H p q
  show Ok ((r42 p.1 p.2 q.1 q.2 H).map fun p => (AV.int .i64 p.1, p.2)) _
  have h1 : Ok (r42 p.1 p.2 q.1 q.2 H) fun r H' => Gr H H' ∧ r = cmpP p q := by
    unfold r42
    have n1 : (H.push (.cells [.int .i64 p.1, .int .i64 p.2] false)).n = H.n + 1 := by simp
    rw [n1]
    have gA : Gr H ((H.push (.cells [.int .i64 p.1, .int .i64 p.2] false)).push (.cells [.int .i64 q.1, .int .i64 q.2] false)) := (Gr.push _ _).trans (.push _ _)
    have a0 : ((H.push (.cells [.int .i64 p.1, .int .i64 p.2] false)).push (.cells [.int .i64 q.1, .int .i64 q.2] false)).get H.n = some (.cells [.int .i64 p.1, .int .i64 p.2] false) := by rw [Hp.get_push_old _ _ (by simp)]; simp
    have a1 : ((H.push (.cells [.int .i64 p.1, .int .i64 p.2] false)).push (.cells [.int .i64 q.1, .int .i64 q.2] false)).get (H.n + 1) = some (.cells [.int .i64 q.1, .int .i64 q.2] false) := by rw [← n1, Hp.get_push_new]
    refine Ok.lt (Ok.ld (r43_two a0 a1) (Ok.ret ⟨gA, rfl⟩))
  obtain ⟨r, H', e, g, rfl⟩ := h1
  rw [e]
  exact Ok.ret ⟨g, rfl⟩
end Go.Lt.P5

namespace Go.Lt.P5
open Go Go.Lt Go.Proofs
structure Col (B : Nat) (H0 H : Hp) (c : Nat) (v w : Sl) (l : List Pr) (i : Nat) : Prop where
  n : B + 3 ≤ H.n
  old : ∀ b, b < B → H.get b = H0.get b
  o : H.get B = some (.cells [.sl w] false)
  d : H.get (B + 1) = some .dfr
  p : H.get (B + 2) = some (.loop .ready none 0 13 [(2, .ptr B 0)])
  a : AccL (B + 3) H w (l.take i)
theorem round_ok {k B : Nat} {H0 H : Hp} {c : Nat} {v w : Sl} {l : List Pr} {i : Nat} (h : Col B H0 H c v w l i) (hi : i < l.length) (hb : l.length ≤ 1000) :
    Ok (callv (app (k + 1)) (.yld (B + 2)) [.agg [.int .i64 l[i].1, .int .i64 l[i].2]] H) fun r H' => r = .bool true ∧ ∃ w', Col B H0 H' c v w' l (i + 1) := by
  show Ok (ydisp (app k) (B + 2) [.agg [.int .i64 l[i].1, .int .i64 l[i].2]] H) _
  unfold ydisp
  rw [h.p]
  simp only
  refine Ok.bind (P := fun r H' => r = none ∧ ∃ w', B + 3 ≤ H'.n ∧ (∀ b, b < B → H'.get b = H0.get b) ∧ H'.get B = some (.cells [.sl w'] false) ∧ H'.get (B + 1) = some .dfr ∧ H'.get (B + 2) = some (.loop .busy none 0 13 [(2, .ptr B 0)]) ∧ AccL (B + 3) H' w' (l.take (i + 1))) ?_ ?_
  · unfold r56q0
    obtain ⟨D, hD, hD', gD, nD⟩ := sts2 H (.int .i64 l[i].1) (.int .i64 l[i].2) (.int .i64 0) (.int .i64 0)
    have hn := h.n
    have pD : D.get (B + 2) = some (.loop .ready none 0 13 [(2, .ptr B 0)]) := by rw [gD.2 _ (by omega)]; exact h.p
    have hbeg : D.lbegin (B + 2) = some (D.set (B + 2) (.loop .busy none 0 13 [(2, .ptr B 0)])) := by unfold Hp.lbegin; rw [pD]
    refine Ok.ld hD (Ok.ld hbeg ?_)
    generalize hE : D.set (B + 2) (.loop .busy none 0 13 [(2, .ptr B 0)]) = E
    have oE : ∀ x, x ≠ B + 2 → E.get x = D.get x := fun x hx => by rw [← hE, Hp.get_set_other _ _ hx]
    have pE : E.get (B + 2) = some (.loop .busy none 0 13 [(2, .ptr B 0)]) := by rw [← hE, Hp.get_set_same _ _ (by omega)]
    have nE : E.n = D.n := by rw [← hE]; simp
    clear hE
    have sE : E.get B = some (.cells [.sl w] false) := by rw [oE _ (by omega), gD.2 _ (by omega)]; exact h.o
    have cE : E.get H.n = some (.cells [.int .i64 l[i].1, .int .i64 l[i].2] false) := by rw [oE _ (by omega)]; exact hD'
    refine Ok.ld (ldSl_get sE rfl) (Ok.ld (ldI_get cE rfl) (Ok.ld (ldI_get cE rfl) ?_))
    have aE : AccL (B + 3) E w (l.take i) := by
      refine Acc.keep (AccL.gr h.a gD) fun hn => ?_
      have h1 := h.a
      unfold AccL at h1
      rcases h1 with ⟨rfl, _⟩ | ⟨_, _, _, _, h5, _⟩
      · simp [nilS] at hn
      · exact oE _ (by omega)
    have hlw := aE.len
    rw [List.length_take] at hlw
    obtain ⟨w', H', e1, a1, b1, c1, _, _, _⟩ := Acc.apN (k := 1) (xs := [.int .i64 l[i].1, .int .i64 l[i].2]) aE (by decide) rfl (by omega) (by omega)
    refine Ok.ld e1 ?_
    have low : w.nil = false → B + 3 ≤ w.b := fun hn => by
      have h1 := h.a
      unfold AccL at h1
      rcases h1 with ⟨rfl, _⟩ | ⟨_, _, _, _, h5, _⟩
      · simp [nilS] at hn
      · exact h5
    have kp : ∀ x, x < B + 3 → H'.get x = E.get x := fun x hx => b1.2 x (by omega) fun hn => by have := low hn; omega
    have sF : H'.get B = some (.cells [.sl w] false) := by rw [kp _ (by omega)]; exact sE
    refine Ok.st sF (by simp) fun G eG hG => Ok.ret ⟨rfl, w', ?_, fun b hb => ?_, hG, ?_, ?_, ?_⟩
    · rw [eG]; have := b1.1; simp; omega
    · rw [eG, Hp.get_set_other _ _ (by omega), kp _ (by omega), oE _ (by omega), gD.2 _ (by omega)]; exact h.old b hb
    · rw [eG, Hp.get_set_other _ _ (by omega), kp _ (by omega), oE _ (by omega), gD.2 _ (by omega)]; exact h.d
    · rw [eG, Hp.get_set_other _ _ (by omega), kp _ (by omega)]; exact pE
    · rw [List.take_succ_eq_append_getElem hi]
      unfold AccL
      rw [encs_append, encs_one]
      refine Acc.keep a1 fun hn => ?_
      rw [eG, Hp.get_set_other]
      have h1 := a1
      rcases h1 with ⟨rfl, _⟩ | ⟨_, _, _, _, h5, _⟩
      · simp [nilS] at hn
      · omega
  · rintro r H' ⟨rfl, w', h1, h2, h3, h4, h5, h6⟩
    have hnx : H'.lnext (B + 2) 0 none = some (H'.set (B + 2) (.loop .ready none 0 13 [(2, .ptr B 0)])) := by
      unfold Hp.lnext; rw [h5]; simp
    dsimp only
    rw [hnx]
    refine Ok.ret ⟨rfl, w', by simpa using h1, fun b hb => ?_, ?_, ?_, ?_, ?_⟩
    · rw [Hp.get_set_other _ _ (by omega)]; exact h2 b hb
    · rw [Hp.get_set_other _ _ (by omega)]; exact h3
    · rw [Hp.get_set_other _ _ (by omega)]; exact h4
    · rw [Hp.get_set_same _ _ (by omega)]
    · refine Acc.keep h6 fun hn => ?_
      rw [Hp.get_set_other]
      unfold AccL at h6
      rcases h6 with ⟨rfl, _⟩ | ⟨_, _, _, _, h5, _⟩
      · simp [nilS] at hn
      · omega
theorem r51_ok {k : Nat} {H : Hp} {c : Nat} {v : Sl} {l : List Pr} (hc : H.get c = some (.cells [.sl v] false)) (hv : SL H v l) (hb : l.length ≤ 1000) (hne : l ≠ []) :
    Ok (r51 (appA (k + 2)) (.fn 53 [] [.ptr c 0]) H) fun w H' => Gr H H' ∧ Own H' w l ∧ H.n ≤ w.b := by
  unfold r51
  refine Ok.bind (P := fun w H' => Gr H H' ∧ Own H' w l ∧ H.n ≤ w.b) ?_ fun w H' h => Ok.ret h
  unfold r56
  refine Ok.lt ?_
  have n1 : (H.push (.cells [.sl ⟨true, 0, 0, 0, 0, 0⟩] false)).n = H.n + 1 := by simp
  rw [n1]
  have hlen := hv.len
  generalize hA : ((H.push (.cells [.sl ⟨true, 0, 0, 0, 0, 0⟩] false)).push .dfr).push (.loop .ready none 0 13 [(2, .ptr H.n 0)]) = A
  have gA : Gr H A := by rw [← hA]; exact (Gr.push _ _).trans ((Gr.push _ _).trans (.push _ _))
  have nA : A.n = H.n + 3 := by rw [← hA]; simp
  have A0 : A.get H.n = some (.cells [.sl ⟨true, 0, 0, 0, 0, 0⟩] false) := by rw [← hA, Hp.get_push_old _ _ (by simp; omega), Hp.get_push_old _ _ (by simp)]; simp
  have A1 : A.get (H.n + 1) = some .dfr := by rw [← hA, Hp.get_push_old _ _ (by simp), ← n1, Hp.get_push_new]
  have A2 : A.get (H.n + 2) = some (.loop .ready none 0 13 [(2, .ptr H.n 0)]) := by
    rw [← hA, show H.n + 2 = ((H.push (.cells [.sl ⟨true, 0, 0, 0, 0, 0⟩] false)).push .dfr).n by simp, Hp.get_push_new]
  clear hA
  have hcl := Hp.get_lt hc
  have C0 : Col H.n H A c v ⟨true, 0, 0, 0, 0, 0⟩ l 0 := ⟨by omega, fun b hb => gA.2 b hb, A0, A1, A2, by simpa using AccL.nilS⟩
  refine Ok.bind (P := fun _ H' => ∃ w, Col H.n H H' c v w l l.length) ?_ ?_
  · show Ok ((r53 (app (k + 1)) (.yld (H.n + 2)) c A).map fun p => (AV.tup [], p.2)) _
    have h1 : Ok (r53 (app (k + 1)) (.yld (H.n + 2)) c A) fun _ H' => ∃ w, Col H.n H H' c v w l l.length := by
      unfold r53
      refine Ok.ld (ldSl_get (by rw [gA.2 _ hcl]; exact hc) rfl) ?_
      rw [hlen]
      refine Ok.loop (L := fun K (s : Int) H' => r53_l0 (app (k + 1)) K (.yld (H.n + 2)) v l.length s H') (fun m s H' => ∃ i : Nat, s = i ∧ i + m = l.length ∧ ∃ w, Col H.n H H' c v w l i) ?_ FUEL l.length 0 A (by unfold FUEL; omega) ⟨0, rfl, by omega, _, C0⟩
      rintro K m s H1 ⟨i, rfl, hm, w, C⟩ ih
      try dsimp only at *
      rw [r53_l0]
      by_cases h : i < l.length
      · have gH : Gr H H1 := ⟨by have := C.n; omega, C.old⟩
        have hg := hv.gr gH
        obtain ⟨E, hE, hE', gE, nE⟩ := sts2 H1 (.int .i64 l[i].1) (.int .i64 l[i].2) (.int .i64 0) (.int .i64 0)
        refine Ok.pos (by omega) (Ok.ck (by omega) (Ok.ld (hg.ldI (i := i) (j := 0) h rfl) (Ok.ld (hg.ldI (i := i) (j := 1) h rfl) (Ok.ld hE (Ok.ld (ldI_get hE' rfl) (Ok.ld (ldI_get hE' rfl) ?_))))))
        have hn := C.n
        have CE : Col H.n H E c v w l i := ⟨by omega, fun b hb => by rw [gE.2 _ (by omega)]; exact C.old b hb, by rw [gE.2 _ (by omega)]; exact C.o, by rw [gE.2 _ (by omega)]; exact C.d, by rw [gE.2 _ (by omega)]; exact C.p, C.a.gr gE⟩
        refine Ok.bind (round_ok CE h hb) fun r H2 ⟨hr, w', C2⟩ => ?_
        subst hr
        refine Ok.ld rfl (Ok.pos rfl ?_)
        rw [w64_succ (by omega)]
        exact ih (m - 1) _ H2 (by omega) ⟨i + 1, rfl, by omega, w', C2⟩
      · have hi : i = l.length := by omega
        subst hi
        exact Ok.neg (by omega) (Ok.ret ⟨w, C⟩)
    obtain ⟨u, H', e, h⟩ := h1
    rw [e]
    exact Ok.ret h
  · rintro r H' ⟨w, C⟩
    have hn := C.n
    have hend : H'.lend (H.n + 2) = some (none, H'.set (H.n + 2) .dead) := by unfold Hp.lend; rw [C.p]
    refine Ok.ld hend (Ok.pos rfl ?_)
    generalize hG : H'.set (H.n + 2) .dead = G
    have oG : ∀ x, x ≠ H.n + 2 → G.get x = H'.get x := fun x hx => by rw [← hG, Hp.get_set_other _ _ hx]
    have nG : G.n = H'.n := by rw [← hG]; simp
    clear hG
    have sG : G.get H.n = some (.cells [.sl w] false) := by rw [oG _ (by omega)]; exact C.o
    have dG : G.get (H.n + 1) = some .dfr := by rw [oG _ (by omega)]; exact C.d
    refine Ok.ld (ldSl_get sG rfl) (Ok.ck (by simp [dfrB, Hp.isDfr, dG]) (Ok.ret ⟨⟨by rw [kill_n]; dsimp only; omega, fun b hb => ?_⟩, ?_⟩))
    · rw [kill_get (by simp; omega), oG _ (by omega)]; exact C.old b hb
    · have ha := C.a
      rw [List.take_of_length_le (Nat.le_refl _)] at ha
      unfold AccL at ha
      rcases ha with ⟨rfl, e⟩ | ⟨h1, h2, h3, h4, h5, h6, h7⟩
      · cases l with
        | nil => exact absurd rfl hne
        | cons x l => simp [encs_cons] at e; exact absurd e.1 (by cases x; simp [El.enc])
      · refine ⟨⟨h1, h2, ?_, by omega, .inr h3, ?_⟩, by omega⟩
        · rw [encs_len] at h7
          exact (Nat.eq_of_mul_eq_mul_right El.pos h7).symm
        · rw [kill_get (by simp; omega), oG _ (by omega)]; exact h6
end Go.Lt.P5

namespace Go.Lt.P5
open Go Go.Lt Go.Proofs
theorem r40_ok {k : Nat} {H : Hp} {c : Nat} {v : Sl} {l : List Pr} (hc : H.get c = some (.cells [.sl v] false)) (hv : SL H v l) (ho : offP l) :
    Ok (r40 (appA (k + 2)) (.fn 53 [] [.ptr c 0]) (.fn 42 [] []) H) fun w H' => Gr H H' ∧ ∃ q, SL H' w q ∧ q.Perm l ∧ q.Pairwise lexP := by
  unfold r40
  have hl8 := ho.2.1
  have hl1 := ho.1
  refine Ok.bind (r51_ok hc hv (by omega) (by intro e; rw [e] at hl1; simp at hl1)) fun w H1 ⟨g1, o1, hb⟩ => ?_
  refine Ok.bind (r52_ok (says42 (k + 1)) (by omega) o1) fun _ H2 ⟨q, o2, on, hp, hs⟩ => Ok.ret ⟨on.gr g1 hb, q, o2.sl, hp, so_lex hs (hp.nodup_iff.2 ho.2.2.2)⟩
theorem r44_spec {a b c : Pr} (ha : num a) (hb : num b) (hc : num c) (H : Hp) : ∃ H', r44 a.1 a.2 b.1 b.2 c.1 c.2 H = some (turn a b c, H') := by
  have n1 : (H.push (.cells [.int .i64 a.1, .int .i64 a.2] false)).n = H.n + 1 := by simp
  have n2 : ((H.push (.cells [.int .i64 a.1, .int .i64 a.2] false)).push (.cells [.int .i64 b.1, .int .i64 b.2] false)).n = H.n + 2 := by simp
  refine ⟨((H.push (.cells [.int .i64 a.1, .int .i64 a.2] false)).push (.cells [.int .i64 b.1, .int .i64 b.2] false)).push (.cells [.int .i64 c.1, .int .i64 c.2] false), ?_⟩
  unfold r44
  simp only [lt]
  rw [n1, n2]
  generalize hA : ((H.push (.cells [.int .i64 a.1, .int .i64 a.2] false)).push (.cells [.int .i64 b.1, .int .i64 b.2] false)).push (.cells [.int .i64 c.1, .int .i64 c.2] false) = A
  have A0 : A.get H.n = some (.cells [.int .i64 a.1, .int .i64 a.2] false) := by rw [← hA, Hp.get_push_old _ _ (by simp; omega), Hp.get_push_old _ _ (by simp)]; simp
  have A1 : A.get (H.n + 1) = some (.cells [.int .i64 b.1, .int .i64 b.2] false) := by rw [← hA, Hp.get_push_old _ _ (by simp), ← n1, Hp.get_push_new]
  have A2 : A.get (H.n + 2) = some (.cells [.int .i64 c.1, .int .i64 c.2] false) := by rw [← hA, ← n2, Hp.get_push_new]
  clear hA
  have a0 : A.ldI .i64 H.n (0 + (0 : Int).toNat * 1) = some a.1 := ldI_get A0 rfl
  have a1 : A.ldI .i64 H.n (0 + (1 : Int).toNat * 1) = some a.2 := ldI_get A0 rfl
  have b0 : A.ldI .i64 (H.n + 1) (0 + (0 : Int).toNat * 1) = some b.1 := ldI_get A1 rfl
  have b1 : A.ldI .i64 (H.n + 1) (0 + (1 : Int).toNat * 1) = some b.2 := ldI_get A1 rfl
  have c0 : A.ldI .i64 (H.n + 2) (0 + (0 : Int).toNat * 1) = some c.1 := ldI_get A2 rfl
  have c1 : A.ldI .i64 (H.n + 2) (0 + (1 : Int).toNat * 1) = some c.2 := ldI_get A2 rfl
  simp only [a0, a1, b0, b1, c0, c1, Option.bind_some]
  unfold num at ha hb hc
  have bd : ∀ x y : Int, -30 ≤ x → x ≤ 30 → -30 ≤ y → y ≤ 30 → -900 ≤ x * y ∧ x * y ≤ 900 := by
    intro x y h1 h2 h3 h4
    have p1 : 0 ≤ (30 - x) * (30 - y) := Int.mul_nonneg (by omega) (by omega)
    have p2 : 0 ≤ (30 + x) * (30 + y) := Int.mul_nonneg (by omega) (by omega)
    have p3 : 0 ≤ (30 - x) * (30 + y) := Int.mul_nonneg (by omega) (by omega)
    have p4 : 0 ≤ (30 + x) * (30 - y) := Int.mul_nonneg (by omega) (by omega)
    constructor <;> grind
  rw [w64_id (n := b.1 - a.1) (by omega) (by omega), w64_id (n := c.2 - b.2) (by omega) (by omega), w64_id (n := b.2 - a.2) (by omega) (by omega), w64_id (n := c.1 - b.1) (by omega) (by omega)]
  have q1 := bd (b.1 - a.1) (c.2 - b.2) (by omega) (by omega) (by omega) (by omega)
  have q2 := bd (b.2 - a.2) (c.1 - b.1) (by omega) (by omega) (by omega) (by omega)
  rw [w64_id (n := (b.1 - a.1) * (c.2 - b.2)) (by omega) (by omega), w64_id (n := (b.2 - a.2) * (c.1 - b.1)) (by omega) (by omega), w64_id (by omega) (by omega)]
  rfl
end Go.Lt.P5

namespace Go.Lt.P5
open Go Go.Lt Go.Proofs
def Low (n0 : Nat) (H H' : Hp) : Prop := H.n ≤ H'.n ∧ ∀ c, c < n0 → H'.get c = H.get c
section
variable {a : App} {Q : Sl → Hp → Prop} {n0 : Nat}
theorem l2_ok {H : Hp} {v w : Sl} {s : List Pr} {p : Pr} {pb : Nat} {len i : Int} (hb : Buf n0 H v s.reverse) (hs : ∀ x ∈ s, num x) (hp : num p) (hlen : s.length ≤ 100) (hpb : H.get pb = some (.cells [.int .i64 p.1, .int .i64 p.2] false)) (hn0 : n0 ≤ H.n)
    {kt0 : Sl → Sl → Int → Int → Hp → Option (Sl × Hp)} (k : ∀ v' H', Buf n0 H' v' (p :: popT s p).reverse → Low n0 H H' → Ok (kt0 v' w len (w64 (i + 1)) H') Q) : Ok (r17_l2 a kt0 FUEL v pb w len i H) Q := by
  refine Ok.loop (L := fun K (v' : Sl) H' => r17_l2 a kt0 K v' pb w len i H') (fun m v' H' => H' = H ∧ ∃ s', m = s'.length ∧ Buf n0 H v' s'.reverse ∧ popT s' p = popT s p ∧ (∀ x ∈ s', num x) ∧ s'.length ≤ 100) ?_ FUEL s.length v H (by unfold FUEL; omega) ⟨rfl, s, rfl, hb, rfl, hs, hlen⟩
  rintro K m v' H1 ⟨rfl, s', rfl, hb', hpt, hs', hl'⟩ ih
  try dsimp only at *
  rw [r17_l2]
  have hvl := hb'.len
  rw [List.length_reverse] at hvl
  have stop : popT s' p = s' → ∀ kt2, Ok (r17_j4 a kt0 kt2 v' pb w len i false H1) Q := fun e kt2 => by
    unfold r17_j4
    refine Ok.neg (by simp) (Ok.ld (ldI_get hpb rfl) (Ok.ld (ldI_get hpb rfl) (Ok.bind (hb'.push hn0 p rfl rfl (by rw [List.length_reverse]; omega)) fun v2 H2 ⟨b2, bt, _⟩ => ?_)))
    refine k v2 H2 ?_ ⟨bt.1.1, fun c hc => bt.1.2 c (by omega) fun hn => by have := hb'.lt hn; omega⟩
    rw [← hpt, e, List.reverse_cons]
    exact b2
  by_cases h : 1 < s'.length
  · match s', hs', hb', hpt, hvl, h, hl', stop, ih with
    | t :: u :: r, hs', hb', hpt, hvl, h, hl', stop, ih =>
      have hlr : (t :: u :: r).length = r.length + 2 := by simp
      have e1 : w64 ((v'.len : Int) - 1) = ((r.length + 1 : Nat) : Int) := by rw [w64_id (by omega) (by omega)]; omega
      have e2 : w64 ((v'.len : Int) - 2) = ((r.length : Nat) : Int) := by rw [w64_id (by omega) (by omega)]; omega
      have hg := hb'.sl
      have hrev : (t :: u :: r).reverse = (u :: r).reverse ++ [t] := by simp
      have hrev2 : (t :: u :: r).reverse = r.reverse ++ [u, t] := by simp
      have g1 : (t :: u :: r).reverse[r.length]? = some u := by rw [hrev2, List.getElem?_append_right (by simp)]; simp
      have g2 : (t :: u :: r).reverse[r.length + 1]? = some t := by rw [hrev2, List.getElem?_append_right (by simp)]; simp
      have i1 : r.length < (t :: u :: r).reverse.length := by simp <;> omega
      have i2 : r.length + 1 < (t :: u :: r).reverse.length := by simp
      have q1 : (t :: u :: r).reverse[r.length] = u := (List.getElem?_eq_some_iff.1 g1).2
      have q2 : (t :: u :: r).reverse[r.length + 1] = t := (List.getElem?_eq_some_iff.1 g2).2
      have L1 : H1.ldI .i64 v'.b (v'.o + r.length * 2) = some u.1 := hg.ldI (i := r.length) (j := 0) i1 (by rw [q1]; rfl)
      have L2 : H1.ldI .i64 v'.b ((v'.o + r.length * 2) + 1) = some u.2 := hg.ldI (i := r.length) (j := 1) i1 (by rw [q1]; rfl)
      have L3 : H1.ldI .i64 v'.b (v'.o + (r.length + 1) * 2) = some t.1 := hg.ldI (i := r.length + 1) (j := 0) i2 (by rw [q2]; rfl)
      have L4 : H1.ldI .i64 v'.b ((v'.o + (r.length + 1) * 2) + 1) = some t.2 := hg.ldI (i := r.length + 1) (j := 1) i2 (by rw [q2]; rfl)
      rw [e1, e2]
      simp only [Int.toNat_natCast]
      obtain ⟨X, hX⟩ := r44_spec (hs' u (by simp)) (hs' t (by simp)) hp H0
      refine Ok.pos (by omega) (Ok.ck (by omega) (Ok.ld L1 (Ok.ld L2 (Ok.ck (by omega) (Ok.ld L3 (Ok.ld L4 (Ok.ld (ldI_get hpb rfl) (Ok.ld (ldI_get hpb rfl) (Ok.ld hX ?_)))))))))
      by_cases ht : 0 ≤ turn u t p
      · rw [decide_eq_true ht]
        unfold r17_j4
        rw [e1]
        have hcap := hg.cap
        have hopn := hg.opn
        refine Ok.pos rfl (Ok.ck ⟨by omega, hopn⟩ ?_)
        rw [Int.toNat_natCast, Int.toNat_zero]
        rw [hrev] at hb'
        obtain ⟨b2, _⟩ := hb'.pop
        rw [show v'.len - 1 = r.length + 1 by omega] at b2
        refine ih (u :: r).length _ H1 (by simp) ⟨rfl, u :: r, rfl, b2, ?_, fun x hx => hs' x (by simp [List.mem_cons.1 hx]), by simp at hl' ⊢; omega⟩
        rw [← hpt, popT, if_pos ht]
      · rw [decide_eq_false ht]
        exact stop (by rw [popT, if_neg ht]) _
  · refine Ok.neg (by omega) (stop ?_ _)
    match s', h with
    | [], _ => rfl
    | [t], _ => rfl
    | t :: u :: r, h => simp at h
theorem l1_ok {H : Hp} {v w : Sl} {s : List Pr} {p : Pr} {pb : Nat} {len i : Int} (hb : Buf n0 H v s.reverse) (hs : ∀ x ∈ s, num x) (hp : num p) (hlen : s.length ≤ 100) (hpb : H.get pb = some (.cells [.int .i64 p.1, .int .i64 p.2] false)) (hn0 : n0 ≤ H.n)
    {kt0 : Sl → Sl → Int → Int → Hp → Option (Sl × Hp)} (k : ∀ v' H', Buf n0 H' v' (addC s p).reverse → Low n0 H H' → Ok (kt0 v' w len (w64 (i + 1)) H') Q) : Ok (r17_l1 a kt0 FUEL v pb w len i H) Q := by
  refine Ok.loop (L := fun K (v' : Sl) H' => r17_l1 a kt0 K v' pb w len i H') (fun m v' H' => H' = H ∧ ∃ s', m = s'.length ∧ Buf n0 H v' s'.reverse ∧ popY s' p = popY s p ∧ (∀ x ∈ s', num x) ∧ s'.length ≤ 100) ?_ FUEL s.length v H (by unfold FUEL; omega) ⟨rfl, s, rfl, hb, rfl, hs, hlen⟩
  rintro K m v' H1 ⟨rfl, s', rfl, hb', hpt, hs', hl'⟩ ih
  try dsimp only at *
  rw [r17_l1]
  have hvl := hb'.len
  rw [List.length_reverse] at hvl
  have stop : popY s' p = s' → ∀ kt1, Ok (r17_j3 a kt0 kt1 v' pb w len i false H1) Q := fun e kt1 => by
    unfold r17_j3
    refine Ok.neg (by simp) (l2_ok hb' hs' hp hl' hpb hn0 fun v2 H2 b2 lo => k v2 H2 ?_ lo)
    unfold addC
    rw [← hpt, e]
    exact b2
  cases s' with
  | nil => exact Ok.neg (by simp at hvl; omega) (stop rfl _)
  | cons t r =>
    have hlr : (t :: r).length = r.length + 1 := by simp
    have e1 : w64 ((v'.len : Int) - 1) = ((r.length : Nat) : Int) := by rw [w64_id (by omega) (by omega)]; omega
    have hg := hb'.sl
    have hrev : (t :: r).reverse = r.reverse ++ [t] := by simp
    have g2 : (t :: r).reverse[r.length]? = some t := by rw [hrev, List.getElem?_append_right (by simp)]; simp
    have i2 : r.length < (t :: r).reverse.length := by simp
    have q2 : (t :: r).reverse[r.length] = t := (List.getElem?_eq_some_iff.1 g2).2
    have L4 : H1.ldI .i64 v'.b ((v'.o + r.length * 2) + (1 : Int).toNat * 1) = some t.2 := hg.ldI (i := r.length) (j := 1) i2 (by rw [q2]; rfl)
    rw [e1]
    simp only [Int.toNat_natCast]
    refine Ok.pos (by omega) (Ok.ck (by omega) (Ok.ld L4 (Ok.ld (ldI_get hpb rfl) ?_)))
    by_cases ht : t.2 ≤ p.2
    · rw [decide_eq_true ht]
      unfold r17_j3
      rw [e1]
      have hcap := hg.cap
      have hopn := hg.opn
      refine Ok.pos rfl (Ok.ck ⟨by omega, hopn⟩ ?_)
      rw [Int.toNat_natCast, Int.toNat_zero]
      rw [hrev] at hb'
      obtain ⟨b2, _⟩ := hb'.pop
      rw [show v'.len - 1 = r.length by omega] at b2
      refine ih r.length _ H1 (by simp) ⟨rfl, r, rfl, b2, ?_, fun x hx => hs' x (by simp [hx]), by simp at hl'; omega⟩
      rw [← hpt, popY, if_pos ht]
    · rw [decide_eq_false ht]
      exact stop (by rw [popY, if_neg ht]) _
end
theorem popT_sub {p : Pr} : ∀ (s : List Pr), ∀ x ∈ popT s p, x ∈ s := by
  intro s
  induction s with
  | nil => intro x h; exact h
  | cons t s ih =>
    intro x h
    cases s with
    | nil => exact h
    | cons u r =>
      rw [popT] at h
      split at h
      · exact List.mem_cons_of_mem _ (ih x h)
      · exact h
theorem popY_sub {p : Pr} : ∀ (s : List Pr), ∀ x ∈ popY s p, x ∈ s := by
  intro s
  induction s with
  | nil => intro x h; exact h
  | cons t s ih =>
    intro x h
    rw [popY] at h
    split at h
    · exact List.mem_cons_of_mem _ (ih x h)
    · exact h
theorem popT_len {p : Pr} : ∀ (s : List Pr), (popT s p).length ≤ s.length := by
  intro s
  induction s with
  | nil => exact Nat.le_refl _
  | cons t s ih =>
    cases s with
    | nil => exact Nat.le_refl _
    | cons u r =>
      rw [popT]
      split
      · exact Nat.le_trans ih (by simp)
      · exact Nat.le_refl _
theorem popY_len {p : Pr} : ∀ (s : List Pr), (popY s p).length ≤ s.length := by
  intro s
  induction s with
  | nil => exact Nat.le_refl _
  | cons t s ih =>
    rw [popY]
    split
    · exact Nat.le_trans ih (by simp)
    · exact Nat.le_refl _
theorem foldl_take {q : List Pr} {i : Nat} (h : i < q.length) : (q.take (i + 1)).foldl addC [] = addC ((q.take i).foldl addC []) q[i] := by
  rw [List.take_succ_eq_append_getElem h, List.foldl_append]
  rfl
theorem chainF_len (q : List Pr) : (chainF q).length ≤ q.length := by
  have key : ∀ (rest s : List Pr), (rest.foldl addC s).length ≤ s.length + rest.length := by
    intro rest
    induction rest with
    | nil => intro s; simp
    | cons p rest ih =>
      intro s
      have h := ih (addC s p)
      have a1 := popT_len (p := p) (popY s p)
      have a2 := popY_len (p := p) s
      have a3 : (addC s p).length = (popT (popY s p) p).length + 1 := by simp [addC]
      simp only [List.foldl_cons, List.length_cons]
      omega
  have := key q []
  simpa [chainF] using this
theorem r17_ok {k : Nat} {H : Hp} {v : Sl} {l : List Pr} (hv : SL H v l) (ho : offP l) : Ok (r17 (appA (k + 2)) v H) fun w H' => Gr H H' ∧ ∃ q, q.Perm l ∧ q.Pairwise lexP ∧ SL H' w (chainF q).reverse := by
  unfold r17 r41
  have gp := Gr.push H (.cells [.sl v] false)
  refine Ok.ld rfl ?_
  try dsimp only [lt]
  refine Ok.bind (r40_ok (c := H.n) (by simp) (hv.gr gp) ho) fun w H2 ⟨g2, q, hq, hperm, hlex⟩ => ?_
  have hql := hq.len
  have hl8 := ho.2.1
  have hpl := hperm.length_eq
  have gg := gp.trans g2
  have hnum : ∀ x ∈ q, num x := fun x hx => ho.2.2.1 x (hperm.mem_iff.1 hx)
  rw [hql]
  refine Ok.loop (L := fun K (s : Sl × Int) H' => r17_l0 (appA (k + 2)) K s.1 w q.length s.2 H') (fun m s H' => ∃ i : Nat, s.2 = i ∧ i + m = q.length ∧ Gr H2 H' ∧ Buf H2.n H' s.1 ((q.take i).foldl addC []).reverse ∧ (∀ x ∈ (q.take i).foldl addC [], num x) ∧ ((q.take i).foldl addC []).length ≤ i) ?_ FUEL q.length (⟨true, 0, 0, 0, 0, 0⟩, 0) H2 (by unfold FUEL; omega)
    ⟨0, rfl, by omega, .refl _, .inl ⟨rfl, rfl⟩, by simp, by simp⟩
  rintro K m ⟨o, s⟩ H3 ⟨i, rfl, hm, g3, hb, hn, hle⟩ ih
  try dsimp only at *
  rw [r17_l0]
  by_cases h : i < q.length
  · have hg := hq.gr g3
    obtain ⟨E, hE, hE', gE, nE⟩ := sts2 H3 (.int .i64 q[i].1) (.int .i64 q[i].2) (.int .i64 0) (.int .i64 0)
    have hmem : q[i] ∈ q := List.getElem_mem h
    have g3n := g3.1
    refine Ok.pos (by omega) (Ok.ck (by omega) (Ok.ld (hg.ldI (i := i) (j := 0) h rfl) (Ok.ld (hg.ldI (i := i) (j := 1) h rfl) (Ok.ld hE ?_))))
    refine l1_ok (hb.gr gE) hn (hnum _ hmem) (by omega) hE' (by omega) fun v' H4 b4 lo => ?_
    rw [w64_succ (by omega)]
    have el := foldl_take h
    refine ih (m - 1) (v', _) H4 (by omega) ⟨i + 1, rfl, by omega, ⟨by have := lo.1; omega, fun c hc => by rw [lo.2 c hc, gE.2 c (by omega), g3.2 c hc]⟩, by rw [el]; exact b4, ?_, ?_⟩
    · rw [el]
      intro x hx
      unfold addC at hx
      rcases List.mem_cons.1 hx with rfl | hx
      · exact hnum _ hmem
      · exact hn x (popY_sub _ x (popT_sub _ x hx))
    · rw [el]
      have a0 : (addC ((q.take i).foldl addC []) q[i]).length = (popT (popY ((q.take i).foldl addC []) q[i]) q[i]).length + 1 := by rw [addC]; simp
      rw [a0]
      have a1 := popT_len (p := q[i]) (popY ((q.take i).foldl addC []) q[i])
      have a2 := popY_len (p := q[i]) ((q.take i).foldl addC [])
      omega
  · rw [List.take_of_length_le (by omega)] at hb
    exact Ok.neg (by omega) (Ok.ret ⟨gg.trans g3, q, hperm, hlex, hb.sl⟩)
end Go.Lt.P5

namespace Go.Lt.P5
open Go Go.Lt Go.Proofs
abbrev Tr := Int × Int × Int
def AccO {T : Type} [El T] (n0 : Nat) (H : Hp) (v : Sl) (l : List T) : Prop := AccL n0 H v l ∨ (v.opn = 0 ∧ v.cap = v.len ∧ v.nil = false ∧ n0 ≤ v.b ∧ SL H v l)
theorem AccO.sl {T : Type} [El T] {n0 : Nat} {H : Hp} {v : Sl} {l : List T} (h : AccO n0 H v l) : SL H v l := by
  rcases h with h | ⟨_, _, _, _, h⟩
  · exact h.sl
  · exact h
theorem AccO.push {T : Type} [El T] {H0 H : Hp} {v : Sl} {l : List T} (h : AccO H0.n H v l) (g : Gr H0 H) (x : T) {es : Nat} {cs : List AV} (hes : es = El.sz T) (hcs : cs = El.enc x) (hb : l.length < 4294967296) :
    Ok (H.apN es v cs 1) fun v' H' => AccO H0.n H' v' (l ++ [x]) ∧ Gr H0 H' := by
  rcases h with h | ⟨h1, h2, h3, _, h4⟩
  · exact (h.push g x hes hcs hb).mono fun _ _ a => ⟨.inl a.1, a.2.1⟩
  · subst hes; subst hcs
    have gp := Gr.push H (.cells (El.enc x) false)
    have hl := h4.len
    have hd := (h4.gr gp).cs.2
    rw [encs_len, ← hl] at hd
    show Ok ((H.push (.cells (El.enc x) false)).app (El.sz T) v (El.enc x) 1) _
    unfold Hp.app
    rw [if_pos (by omega), if_neg (by omega), hd]
    refine Ok.ld rfl ?_
    rw [if_pos h1]
    refine Ok.ret ⟨.inl (.inr ⟨rfl, rfl, rfl, rfl, ?_, ?_, ?_⟩), g.trans (gp.trans (.push _ _))⟩
    · simp; have := g.1; omega
    · rw [encs_append, encs_one]; exact Hp.get_push_new _ _
    · rw [encs_append, encs_one, List.length_append, encs_len, El.len, hl, Nat.add_mul]; omega
theorem AccO.low {T : Type} [El T] {n0 : Nat} {H : Hp} {v : Sl} {l : List T} (h : AccO n0 H v l) (hl : l ≠ []) : n0 ≤ v.b := by
  rcases h with h | ⟨_, _, _, h, _⟩
  · rcases h with ⟨_, h⟩ | ⟨_, _, _, _, h, _⟩
    · cases l with
      | nil => exact absurd rfl hl
      | cons x l =>
        have := congrArg List.length h
        rw [encs_len, List.length_cons, List.length_nil, Nat.add_mul] at this
        have := El.pos (T := T)
        omega
    · exact h
  · exact h
def lineB (u t : Pr) : Tr := (u.2 - t.2, t.1 - u.1, (u.2 - t.2) * t.1 + (t.1 - u.1) * t.2)
def linesF (e : List Pr) : List Tr := (0, 1, (at' e 0).2) :: (1, 0, (at' e (e.length - 1)).1) :: (List.range (e.length - 1)).map fun i => lineB (at' e i) (at' e (i + 1))
theorem pr_bd {x y : Int} (h1 : -30 ≤ x) (h2 : x ≤ 30) (h3 : -30 ≤ y) (h4 : y ≤ 30) : -900 ≤ x * y ∧ x * y ≤ 900 := by
  have p1 : 0 ≤ (30 - x) * (30 - y) := Int.mul_nonneg (by omega) (by omega)
  have p2 : 0 ≤ (30 + x) * (30 + y) := Int.mul_nonneg (by omega) (by omega)
  have p3 : 0 ≤ (30 - x) * (30 + y) := Int.mul_nonneg (by omega) (by omega)
  have p4 : 0 ≤ (30 + x) * (30 - y) := Int.mul_nonneg (by omega) (by omega)
  constructor <;> grind
theorem r22_ok {k : Nat} {H : Hp} {v : Sl} {l : List Pr} (hv : SL H v l) (ho : offP l) : Ok (r22 (appA (k + 2)) v H) fun w H' => Gr H H' ∧ H.n ≤ w.b ∧ ∃ q, q.Perm l ∧ q.Pairwise lexP ∧ SL H' w (linesF (chainF q).reverse) := by
  unfold r22
  refine Ok.bind (r17_ok hv ho) fun w H1 ⟨g1, q, hp, hq, hw⟩ => ?_
  have hpl := hp.length_eq
  have h1 := ho.1
  have h8 := ho.2.1
  have hcl := chainF_len q
  have hci := chain_ok hq
  have hne : q ≠ [] := by intro e; rw [e] at hpl; simp at hpl; omega
  have hcn := hci.ne hne
  have hnum : ∀ x ∈ (chainF q).reverse, num x := fun x hx => ho.2.2.1 x (hp.mem_iff.1 (hci.sub x (List.mem_reverse.1 hx)))
  have hel : (chainF q).reverse.length = (chainF q).length := by simp
  have hpos : 0 < (chainF q).length := List.length_pos_iff.2 hcn
  refine Ok.mono (P := fun w H' => Gr H H' ∧ H.n ≤ w.b ∧ SL H' w (linesF (chainF q).reverse)) ?_ fun w H' h => ⟨h.1, h.2.1, q, hp, hq, h.2.2⟩
  generalize (chainF q).reverse = e at *
  have hwl := hw.len
  have hle : e.length ≤ 8 := by omega
  have hlp : 0 < e.length := by omega
  try dsimp only
  have em : w64 ((w.len : Int) - 1) = ((e.length - 1 : Nat) : Int) := by rw [w64_id (by omega) (by omega)]; omega
  rw [em]
  have L1 : H1.ldI .i64 w.b ((w.o + (0 : Int).toNat * 2) + (1 : Int).toNat * 1) = some e[0].2 := hw.ldI (i := 0) (j := 1) hlp rfl
  have L2 : H1.ldI .i64 w.b ((w.o + (e.length - 1) * 2) + (0 : Int).toNat * 1) = some (e[e.length - 1]'(by omega)).1 := hw.ldI (i := e.length - 1) (j := 0) (by omega) rfl
  simp only [Int.toNat_natCast]
  refine Ok.ck (by omega) (Ok.ld L1 (Ok.ck (by omega) (Ok.ld L2 (Ok.lt ?_))))
  rw [at_eq, at_eq]
  have gp := Gr.push H1 (.cells [.int .i64 0, .int .i64 1, .int .i64 (at' e 0).2, .int .i64 1, .int .i64 0, .int .i64 (at' e (e.length - 1)).1] false)
  have hlit : AccO (T := Tr) H1.n (H1.push (.cells [.int .i64 0, .int .i64 1, .int .i64 (at' e 0).2, .int .i64 1, .int .i64 0, .int .i64 (at' e (e.length - 1)).1] false)) ⟨false, H1.n, 0, 2, 2, 0⟩ [(0, 1, (at' e 0).2), (1, 0, (at' e (e.length - 1)).1)] := by
    refine .inr ⟨rfl, rfl, rfl, Nat.le_refl _, .of_get (ro := false) (Hp.get_push_new _ _) rfl rfl (Nat.le_refl _) (.inl rfl) rfl⟩
  generalize H1.push (.cells [.int .i64 0, .int .i64 1, .int .i64 (at' e 0).2, .int .i64 1, .int .i64 0, .int .i64 (at' e (e.length - 1)).1] false) = A at *
  refine Ok.loop (L := fun K (s : Sl × Int) H2 => r22_l0 (appA (k + 2)) K w s.1 s.2 H2) (fun m s H' => Gr H1 H' ∧ ∃ i : Nat, s.2 = ((i + 1 : Nat) : Int) ∧ i + 1 + m = e.length ∧ AccO H1.n H' s.1 ([(0, 1, (at' e 0).2), (1, 0, (at' e (e.length - 1)).1)] ++ (List.range i).map fun i => lineB (at' e i) (at' e (i + 1)))) ?_ FUEL (e.length - 1) (⟨false, H1.n, 0, 2, 2, 0⟩, 1) A (by unfold FUEL; omega) ⟨gp, 0, rfl, by omega, by simpa using hlit⟩
  rintro K m ⟨z, s⟩ H2 ⟨g2, i, rfl, hm, ha⟩ ih
  try dsimp only at *
  rw [r22_l0]
  by_cases h : i + 1 < e.length
  · have hg := hw.gr g2
    have ei : w64 (((i + 1 : Nat) : Int) - 1) = ((i : Nat) : Int) := by rw [w64_id (by omega) (by omega)]; omega
    rw [ei]
    simp only [Int.toNat_natCast]
    have M1 : H2.ldI .i64 w.b ((w.o + i * 2) + (1 : Int).toNat * 1) = some e[i].2 := hg.ldI (i := i) (j := 1) (by omega) rfl
    have M2 : H2.ldI .i64 w.b ((w.o + i * 2) + (0 : Int).toNat * 1) = some e[i].1 := hg.ldI (i := i) (j := 0) (by omega) rfl
    have M3 : H2.ldI .i64 w.b ((w.o + (i + 1) * 2) + (1 : Int).toNat * 1) = some e[i + 1].2 := hg.ldI (i := i + 1) (j := 1) (by omega) rfl
    have M4 : H2.ldI .i64 w.b ((w.o + (i + 1) * 2) + (0 : Int).toNat * 1) = some e[i + 1].1 := hg.ldI (i := i + 1) (j := 0) (by omega) rfl
    have n1 := hnum _ (List.getElem_mem (show i < e.length by omega))
    have n2 := hnum _ (List.getElem_mem h)
    rw [at_eq] at M1 M2 M3 M4 n1 n2
    unfold num at n1 n2
    refine Ok.pos (by omega) (Ok.ck (by omega) (Ok.ld M1 (Ok.ck (by omega) (Ok.ld M3 (Ok.ck (by omega) (Ok.ld M4 (Ok.ck (by omega) (Ok.ld M2 (Ok.ck (by omega) (Ok.ld M4 (Ok.ck (by omega) (Ok.ld M3 ?_))))))))))))
    rw [w64_id (n := (at' e i).2 - (at' e (i + 1)).2) (by omega) (by omega), w64_id (n := (at' e (i + 1)).1 - (at' e i).1) (by omega) (by omega)]
    have b1 := pr_bd (x := (at' e i).2 - (at' e (i + 1)).2) (y := (at' e (i + 1)).1) (by omega) (by omega) (by omega) (by omega)
    have b2 := pr_bd (x := (at' e (i + 1)).1 - (at' e i).1) (y := (at' e (i + 1)).2) (by omega) (by omega) (by omega) (by omega)
    rw [w64_id (n := ((at' e i).2 - (at' e (i + 1)).2) * (at' e (i + 1)).1) (by omega) (by omega), w64_id (n := ((at' e (i + 1)).1 - (at' e i).1) * (at' e (i + 1)).2) (by omega) (by omega), w64_id (by omega) (by omega)]
    refine Ok.bind (ha.push g2 (lineB (at' e i) (at' e (i + 1))) rfl rfl (by simp; omega)) fun z' H3 ⟨ha3, g3⟩ => ?_
    rw [w64_succ (by omega)]
    refine ih (m - 1) (z', _) H3 (by omega) ⟨g3, i + 1, rfl, by omega, ?_⟩
    rw [List.range_succ, List.map_append]
    simpa using ha3
  · have hi : i = e.length - 1 := by omega
    refine Ok.neg (by omega) (Ok.ret ⟨g1.trans g2, Nat.le_trans g1.1 (ha.low (by simp)), ?_⟩)
    rw [hi] at ha
    exact ha.sl
end Go.Lt.P5

namespace Go.Lt.P5
open Go.Lt
theorem at_mem {s : List Pr} {j : Nat} (h : j < s.length) : at' s j ∈ s := by rw [← at_eq h]; exact List.getElem_mem h
theorem at_rev {s : List Pr} {i : Nat} (h : i < s.length) : at' s.reverse i = at' s (s.length - 1 - i) := by
  rw [← at_eq (by simpa using h), ← at_eq (by omega), List.getElem_reverse]
theorem conv_at : ∀ (s : List Pr), conv s → ∀ j, j + 1 < s.length → (at' s (j + 1)).1 < (at' s j).1 ∧ (at' s j).2 < (at' s (j + 1)).2 := by
  intro s
  induction s with
  | nil => intro _ j h; simp at h
  | cons t s ih =>
    intro hc j h
    cases s with
    | nil => simp at h
    | cons u r =>
      obtain ⟨c1, c2, c3, c4⟩ := hc
      cases j with
      | zero => exact ⟨c1, c2⟩
      | succ j => exact ih c4 j (by simpa using h)
theorem und_at {o : Pr} : ∀ (s : List Pr), und s o → ∀ j, j + 1 < s.length → under (at' s (j + 1)) (at' s j) o := by
  intro s
  induction s with
  | nil => intro _ j h; simp at h
  | cons t s ih =>
    intro hc j h
    cases s with
    | nil => simp at h
    | cons u r =>
      cases j with
      | zero => exact hc.1
      | succ j => exact ih hc.2 j (by simpa using h)
theorem und_last {o : Pr} : ∀ (s : List Pr), und s o → s ≠ [] → o.2 ≤ (at' s (s.length - 1)).2 := by
  intro s
  induction s with
  | nil => intro _ h; exact absurd rfl h
  | cons t s ih =>
    intro hc _
    cases s with
    | nil => exact hc
    | cons u r => exact ih hc.2 (by simp)
end Go.Lt.P5

namespace Go.Lt.P5
open Go Go.Lt Go.Proofs
def tb (t : Tr) : Prop := -30 ≤ t.1 ∧ t.1 ≤ 30 ∧ -30 ≤ t.2.1 ∧ t.2.1 ≤ 30 ∧ -1800 ≤ t.2.2 ∧ t.2.2 ≤ 1800
def sat (t : Tr) (x y : Pr) : Prop := t.1 * x.1 * y.2 + t.2.1 * y.1 * x.2 ≤ t.2.2 * x.2 * y.2
instance (t : Tr) (x y : Pr) : Decidable (sat t x y) := by unfold sat; infer_instance
def candG (o p : Pr) : List Tr := if o.1 < p.1 ∧ p.2 < o.2 then [(o.2 - p.2, p.1 - o.1, (o.2 - p.2) * o.1 + (p.1 - o.1) * o.2)] else []
def candF (l : List Pr) (o : Pr) : List Tr := (1, 0, o.1) :: (0, 1, o.2) :: l.flatMap (candG o)
def cands (l : List Pr) : List Tr := l.flatMap (candF l)
def keeps (l : List Pr) (t : Tr) : Prop := ∀ o ∈ l, t.1 * o.1 + t.2.1 * o.2 ≤ t.2.2
instance (l : List Pr) (t : Tr) : Decidable (keeps l t) := by unfold keeps; infer_instance
def limits (l : List Pr) : List Tr := (cands l).filter fun t => decide (keeps l t)
theorem line_limit {q l : List Pr} (hp : q.Perm l) (hs : q.Pairwise lexP) (hne : q ≠ []) : ∀ t ∈ linesF (chainF q).reverse, t ∈ limits l := by
  have hc := chain_ok hs
  have hn := hc.ne hne
  generalize chainF q = s at *
  have hpos := List.length_pos_iff.2 hn
  have hin : ∀ j, j < s.length → at' s j ∈ l := fun j hj => hp.mem_iff.1 (hc.sub _ (at_mem hj))
  intro t ht
  unfold linesF at ht
  rw [List.length_reverse] at ht
  unfold limits
  rw [List.mem_filter]
  rcases List.mem_cons.1 ht with rfl | ht
  · rw [at_rev hpos, Nat.sub_zero]
    refine ⟨List.mem_flatMap.2 ⟨_, hin (s.length - 1) (by omega), by unfold candF; simp⟩, decide_eq_true fun o ho => ?_⟩
    have := und_last s (hc.ud o (hp.mem_iff.2 ho)) hn
    dsimp only
    omega
  · rcases List.mem_cons.1 ht with rfl | ht
    · rw [at_rev (by omega), Nat.sub_self]
      refine ⟨List.mem_flatMap.2 ⟨_, hin 0 (by omega), by unfold candF; simp⟩, decide_eq_true fun o ho => ?_⟩
      match s, hn, hc with
      | a :: r, _, hc =>
        have := hc.top a r rfl o (hp.mem_iff.2 ho)
        have e : at' (a :: r) 0 = a := rfl
        rw [e]
        dsimp only
        omega
    · obtain ⟨i, hi, rfl⟩ := List.mem_map.1 ht
      rw [List.mem_range] at hi
      rw [at_rev (by omega), at_rev (by omega)]
      have ej : s.length - 1 - i = (s.length - 1 - (i + 1)) + 1 := by omega
      rw [ej]
      generalize hj : s.length - 1 - (i + 1) = j
      have hj1 : j + 1 < s.length := by omega
      have hcv := conv_at s hc.cv j hj1
      have hu := hin (j + 1) hj1
      have ht := hin j (by omega)
      have hund := fun o ho => und_at s (hc.ud o (hp.mem_iff.2 ho)) j hj1
      generalize at' s (j + 1) = u at *
      generalize at' s j = t at *
      refine ⟨List.mem_flatMap.2 ⟨u, hu, ?_⟩, decide_eq_true fun o ho => ?_⟩
      · unfold candF
        refine List.mem_cons_of_mem _ (List.mem_cons_of_mem _ (List.mem_flatMap.2 ⟨t, ht, ?_⟩))
        unfold candG lineB
        rw [if_pos ⟨hcv.1, hcv.2⟩, List.mem_singleton]
        have : (u.2 - t.2) * t.1 + (t.1 - u.1) * t.2 = (u.2 - t.2) * u.1 + (t.1 - u.1) * u.2 := by grind
        rw [this]
      · have := hund o ho
        unfold under at this
        unfold lineB
        dsimp only
        grind
end Go.Lt.P5

namespace Go.Lt.P5
open Go.Lt
def UQ (P R Q : Int) : List Pr → Prop
  | t :: u :: r => (t.1 - u.1) * (R - u.2 * Q) ≤ (t.2 - u.2) * (P - u.1 * Q) ∧ UQ P R Q (u :: r)
  | [b] => R ≤ b.2 * Q
  | [] => True
theorem uq_of {P R Q : Int} : ∀ (s : List Pr), (∀ j, j + 1 < s.length → ((at' s j).1 - (at' s (j + 1)).1) * (R - (at' s (j + 1)).2 * Q) ≤ ((at' s j).2 - (at' s (j + 1)).2) * (P - (at' s (j + 1)).1 * Q)) → (s ≠ [] → R ≤ (at' s (s.length - 1)).2 * Q) → UQ P R Q s := by
  intro s
  induction s with
  | nil => intro _ _; trivial
  | cons t s ih =>
    intro h hl
    cases s with
    | nil => exact hl (by simp)
    | cons u r => exact ⟨h 0 (by simp), ih (fun j hj => h (j + 1) (by simpa using hj)) fun _ => hl (by simp)⟩
theorem uq_le {P R Q a b c : Int} (hQ : 0 < Q) (ha : 0 ≤ a) (hb : 0 ≤ b) : ∀ (s : List Pr), conv s → UQ P R Q s → (∀ o ∈ s, a * o.1 + b * o.2 ≤ c) → ∀ t r, s = t :: r → P ≤ t.1 * Q → a * P + b * R ≤ c * Q := by
  intro s
  induction s with
  | nil => intro _ _ _ t r e; cases e
  | cons t s ih =>
    intro hc hu hk t' r e hP
    injection e with e1 e2
    subst e1; subst e2
    cases s with
    | nil =>
      have hu : R ≤ t.2 * Q := hu
      have h1 := hk t (by simp)
      have m1 := Int.mul_le_mul_of_nonneg_left hP ha
      have m2 := Int.mul_le_mul_of_nonneg_left hu hb
      have m3 := Int.mul_le_mul_of_nonneg_right h1 (show 0 ≤ Q by omega)
      grind
    | cons u r =>
      obtain ⟨c1, c2, c3, c4⟩ := hc
      obtain ⟨u1, u2⟩ := hu
      by_cases hPu : P ≤ u.1 * Q
      · exact ih c4 u2 (fun o ho => hk o (by simp [List.mem_cons.1 ho])) u r rfl hPu
      · refine cancel (k := t.1 - u.1) (by omega) ?_
        have h1 := hk t (by simp)
        have h2 := hk u (by simp)
        have m1 := Int.mul_le_mul_of_nonneg_left u1 hb
        have m2 := Int.mul_le_mul_of_nonneg_left h1 (show 0 ≤ P - u.1 * Q by omega)
        have m3 := Int.mul_le_mul_of_nonneg_left h2 (show 0 ≤ t.1 * Q - P by omega)
        grind
theorem sat_q {t : Tr} {x y : Pr} : sat t x y ↔ t.1 * (x.1 * y.2) + t.2.1 * (y.1 * x.2) ≤ t.2.2 * (x.2 * y.2) := by
  unfold sat
  constructor <;> intro h <;> grind
theorem cands_nn {l : List Pr} : ∀ t ∈ cands l, 0 ≤ t.1 ∧ 0 ≤ t.2.1 := by
  intro t ht
  unfold cands at ht
  obtain ⟨o, ho, ht⟩ := List.mem_flatMap.1 ht
  unfold candF at ht
  rcases List.mem_cons.1 ht with rfl | ht
  · simp
  · rcases List.mem_cons.1 ht with rfl | ht
    · simp
    · obtain ⟨p, hp, ht⟩ := List.mem_flatMap.1 ht
      unfold candG at ht
      split at ht
      · rw [List.mem_singleton] at ht
        subst ht
        dsimp only
        omega
      · cases ht
end Go.Lt.P5

namespace Go.Lt.P5
open Go.Lt
/-! ### the deals -/
def lq (t : Tr) (x y : Rat) : Prop := (t.1 : Rat) * x + (t.2.1 : Rat) * y ≤ (t.2.2 : Rat)
theorem cast_le {a b : Int} : (a : Rat) ≤ (b : Rat) ↔ a ≤ b := Rat.intCast_le_intCast
theorem sat_lq {t : Tr} {x y : Pr} (hx : 0 < x.2) (hy : 0 < y.2) : sat t x y ↔ lq t (dv x.1 x.2) (dv y.1 y.2) := by
  rw [sat_q]
  unfold lq
  have h1 := cast_pos hx
  have h2 := cast_pos hy
  have ex : (x.1 : Rat) = dv x.1 x.2 * x.2 := by unfold dv; rw [Rat.div_mul_cancel (by grind)]
  have ey : (y.1 : Rat) = dv y.1 y.2 * y.2 := by unfold dv; rw [Rat.div_mul_cancel (by grind)]
  rw [← cast_le]
  simp only [Rat.intCast_add, Rat.intCast_mul]
  rw [ex, ey]
  have h3 := Rat.mul_pos h1 h2
  generalize dv x.1 x.2 = p at *
  generalize dv y.1 y.2 = q at *
  generalize (x.2 : Rat) = b at *
  generalize (y.2 : Rat) = d at *
  generalize (t.1 : Rat) = A at *
  generalize (t.2.1 : Rat) = B at *
  generalize (t.2.2 : Rat) = C at *
  have e1 : A * (p * b * d) + B * (q * d * b) = (A * p + B * q) * (b * d) := by grind
  rw [e1]
  exact ⟨fun h => Rat.le_of_mul_le_mul_right h h3, fun h => Rat.mul_le_mul_of_nonneg_right h (Rat.le_of_lt h3)⟩
theorem sat_fq {t : Tr} {p q : Rat} : sat t (fq p) (fq q) ↔ lq t p q := by rw [sat_lq (fq_pos p) (fq_pos q), dv_fq, dv_fq]
def reg (l : List Pr) (x y : Rat) : Prop := ∀ a b c : Int, 0 ≤ a → 0 ≤ b → (∀ o ∈ l, a * o.1 + b * o.2 ≤ c) → lq (a, b, c) x y
theorem reg_limits {l : List Pr} {x y : Rat} (h : reg l x y) : ∀ t ∈ limits l, lq t x y := fun t ht => by
  unfold limits at ht
  rw [List.mem_filter] at ht
  have hk := of_decide_eq_true ht.2
  have hn := cands_nn t ht.1
  exact h t.1 t.2.1 t.2.2 hn.1 hn.2 hk
theorem reg_lines {q l : List Pr} (hp : q.Perm l) (hs : q.Pairwise lexP) (hne : q ≠ []) {x y : Rat} (h : ∀ t ∈ linesF (chainF q).reverse, lq t x y) : reg l x y := by
  intro a b c ha hb hk
  have hc := chain_ok hs
  have hn := hc.ne hne
  generalize chainF q = s at *
  have hpos := List.length_pos_iff.2 hn
  have h : ∀ t ∈ linesF s.reverse, sat t (fq x) (fq y) := fun t ht => sat_fq.2 (h t ht)
  rw [← sat_fq, sat_q]
  have hx := fq_pos x
  have hy := fq_pos y
  generalize fq x = x at *
  generalize fq y = y at *
  have hQ : 0 < x.2 * y.2 := Int.mul_pos hx hy
  have hl0 := h (0, 1, (at' s.reverse 0).2) (by unfold linesF; simp)
  have hl1 := h (1, 0, (at' s.reverse (s.reverse.length - 1)).1) (by unfold linesF; simp)
  have hli : ∀ i, i < s.reverse.length - 1 → sat (lineB (at' s.reverse i) (at' s.reverse (i + 1))) x y := fun i hi => h _ (by
    unfold linesF
    exact List.mem_cons_of_mem _ (List.mem_cons_of_mem _ (List.mem_map.2 ⟨i, List.mem_range.2 hi, rfl⟩)))
  rw [List.length_reverse] at hli hl1
  rw [sat_q] at hl0 hl1
  rw [at_rev hpos, Nat.sub_zero] at hl0
  rw [at_rev (by omega), Nat.sub_self] at hl1
  dsimp only at hl0 hl1
  simp only [sat_q] at hli
  dsimp only
  generalize x.1 * y.2 = P at *
  generalize y.1 * x.2 = R at *
  generalize x.2 * y.2 = Q at *
  have huq : UQ P R Q s := uq_of s (fun j hj => by
    have := hli (s.length - 1 - (j + 1)) (by omega)
    rw [at_rev (by omega), at_rev (by omega)] at this
    rw [show s.length - 1 - (s.length - 1 - (j + 1)) = j + 1 by omega, show s.length - 1 - (s.length - 1 - (j + 1) + 1) = j by omega] at this
    unfold lineB at this
    dsimp only at this
    generalize at' s (j + 1) = u at *
    generalize at' s j = t at *
    grind) (fun _ => by omega)
  match s, hn, hc, huq, hl1 with
  | a' :: r, _, hc, huq, hl1 =>
    have e : at' (a' :: r) 0 = a' := rfl
    rw [e] at hl1
    exact uq_le hQ ha hb (a' :: r) hc.cv huq (fun o ho => hk o (hp.mem_iff.1 (hc.sub o ho))) a' r rfl (by omega)
theorem lines_reg {q l : List Pr} (hp : q.Perm l) (hs : q.Pairwise lexP) (hne : q ≠ []) {x y : Rat} : (∀ t ∈ linesF (chainF q).reverse, lq t x y) ↔ reg l x y :=
  ⟨reg_lines hp hs hne, fun h t ht => reg_limits h t (line_limit hp hs hne t ht)⟩
theorem limits_reg {q l : List Pr} (hp : q.Perm l) (hs : q.Pairwise lexP) (hne : q ≠ []) {x y : Rat} : (∀ t ∈ limits l, lq t x y) ↔ reg l x y :=
  ⟨fun h => reg_lines hp hs hne fun t ht => h t (line_limit hp hs hne t ht), reg_limits⟩
/-! what deals are -/
theorem reg.conv {l : List Pr} {x y x' y' : Rat} (h : reg l x y) (k : reg l x' y') {s : Rat} (h0 : 0 ≤ s) (h1 : s ≤ 1) : reg l ((1 - s) * x + s * x') ((1 - s) * y + s * y') := by
  intro a b c ha hb hk
  have e1 := h a b c ha hb hk
  have e2 := k a b c ha hb hk
  unfold lq at *
  dsimp only at *
  have m1 := Rat.mul_le_mul_of_nonneg_left e1 (show 0 ≤ 1 - s by grind)
  have m2 := Rat.mul_le_mul_of_nonneg_left e2 h0
  grind
theorem reg.down {l : List Pr} {x y x' y' : Rat} (h : reg l x y) (hx : x' ≤ x) (hy : y' ≤ y) : reg l x' y' := by
  intro a b c ha hb hk
  have e1 := h a b c ha hb hk
  unfold lq at *
  dsimp only at *
  have ha' : (0 : Rat) ≤ a := by exact_mod_cast ha
  have hb' : (0 : Rat) ≤ b := by exact_mod_cast hb
  have m1 := Rat.mul_le_mul_of_nonneg_left hx ha'
  have m2 := Rat.mul_le_mul_of_nonneg_left hy hb'
  grind
theorem reg.sub {l l' : List Pr} {x y : Rat} (h : reg l x y) (hs : ∀ o ∈ l, o ∈ l') : reg l' x y := fun a b c ha hb hk => h a b c ha hb fun o ho => hk o (hs o ho)
theorem reg.mem {l : List Pr} {o : Pr} (h : o ∈ l) : reg l (o.1 : Rat) (o.2 : Rat) := fun a b c ha hb hk => by
  have := hk o h
  unfold lq
  dsimp only
  have e : ((a * o.1 + b * o.2 : Int) : Rat) ≤ (c : Rat) := cast_le.2 this
  rw [Rat.intCast_add, Rat.intCast_mul, Rat.intCast_mul] at e
  exact e
theorem reg.le {l : List Pr} {x y : Rat} (h : reg l x y) (hn : ∀ o ∈ l, num o) : x ≤ 30 ∧ y ≤ 30 := by
  have e1 := h 1 0 30 (by omega) (by omega) fun o ho => by have := hn o ho; unfold num at this; omega
  have e2 := h 0 1 30 (by omega) (by omega) fun o ho => by have := hn o ho; unfold num at this; omega
  unfold lq at e1 e2
  dsimp only at e1 e2
  have c0 : ((0 : Int) : Rat) = 0 := rfl
  have c1 : ((1 : Int) : Rat) = 1 := rfl
  have c30 : ((30 : Int) : Rat) = 30 := rfl
  rw [c0, c1, c30] at e1 e2
  constructor <;> grind
def IsTop (l : List Pr) (d : Pr) (u v m : Rat) : Prop := ∀ s, reg l ((d.1 : Rat) + s * u) ((d.2 : Rat) + s * v) ↔ s ≤ m
theorem IsTop.uniq {l : List Pr} {d : Pr} {u v m m' : Rat} (h : IsTop l d u v m) (k : IsTop l d u v m') : m = m' := by
  have h1 := (k m).1 ((h m).2 Rat.le_refl)
  have h2 := (h m').1 ((k m').2 Rat.le_refl)
  grind
def roomP (l : List Pr) (d : Pr) : Prop := ∃ x y, reg l x y ∧ (d.1 : Rat) < x ∧ (d.2 : Rat) < y
theorem IsTop.pos {l : List Pr} {d : Pr} {u v m : Rat} (h : IsTop l d u v m) (hr : roomP l d) (hu : 0 ≤ u) (hv : 0 ≤ v) : 0 < m := by
  obtain ⟨x, y, hxy, hx, hy⟩ := hr
  by_cases c : 0 < m
  · exact c
  exfalso
  -- a small step
  have key : ∀ s : Rat, 0 < s → s * u ≤ x - d.1 → s * v ≤ y - d.2 → False := fun s hs h1 h2 => by
    have := (h s).1 (hxy.down (by grind) (by grind))
    grind
  have hw : 0 < u + v + 1 := by grind
  have e0 : ∀ z : Rat, z / (u + v + 1) * (u + v + 1) = z := fun z => Rat.div_mul_cancel (by grind)
  have small : ∀ z : Rat, 0 < z → 0 < z / (u + v + 1) := fun z hz => by
    have := e0 z
    by_cases c2 : 0 < z / (u + v + 1)
    · exact c2
    · have := Rat.mul_le_mul_of_nonneg_right (show z / (u + v + 1) ≤ 0 by grind) (show 0 ≤ u + v + 1 by grind)
      grind
  have le : ∀ z w : Rat, 0 < z → 0 ≤ w → w ≤ u + v + 1 → z / (u + v + 1) * w ≤ z := fun z w hz hw0 hw1 => by
    have := Rat.mul_le_mul_of_nonneg_left hw1 (Rat.le_of_lt (small z hz))
    rw [e0] at this
    exact this
  by_cases c3 : x - d.1 ≤ y - d.2
  · have hz : 0 < x - (d.1 : Rat) := by grind
    refine key _ (small _ hz) (le _ u hz hu (by grind)) ?_
    have := le _ v hz hv (by grind)
    grind
  · have hz : 0 < y - (d.2 : Rat) := by grind
    refine key _ (small _ hz) ?_ (le _ v hz hv (by grind))
    have := le _ u hz hu (by grind)
    grind
def IsHalf (l : List Pr) (d : Pr) (p : Rat × Rat) : Prop := ∃ m, IsTop l d 1 1 m ∧ p = ((d.1 : Rat) + m, (d.2 : Rat) + m)
def IsBest (l : List Pr) (d : Pr) (p : Rat × Rat) : Prop := ∃ a b m, IsTop l d 1 0 a ∧ IsTop l d 0 1 b ∧ IsTop l d a b m ∧ p = ((d.1 : Rat) + m * a, (d.2 : Rat) + m * b)
theorem IsHalf.uniq {l : List Pr} {d : Pr} {p q : Rat × Rat} (h : IsHalf l d p) (k : IsHalf l d q) : p = q := by
  obtain ⟨m, h1, rfl⟩ := h
  obtain ⟨m', k1, rfl⟩ := k
  rw [h1.uniq k1]
theorem IsBest.uniq {l : List Pr} {d : Pr} {p q : Rat × Rat} (h : IsBest l d p) (k : IsBest l d q) : p = q := by
  obtain ⟨a, b, m, h1, h2, h3, rfl⟩ := h
  obtain ⟨a', b', m', k1, k2, k3, rfl⟩ := k
  have ea := h1.uniq k1
  have eb := h2.uniq k2
  subst ea; subst eb
  rw [h3.uniq k3]
structure IsProd (l : List Pr) (d : Pr) (p : Rat × Rat) : Prop where
  reg : reg l p.1 p.2
  x : (d.1 : Rat) < p.1
  y : (d.2 : Rat) < p.2
  max : ∀ x y, Go.Lt.P5.reg l x y → (d.1 : Rat) < x → (d.2 : Rat) < y → (x - d.1) * (y - d.2) ≤ (p.1 - d.1) * (p.2 - d.2)
theorem sq_pos' {x : Rat} (h : x ≠ 0) : 0 < x * x := by
  rcases (show x < 0 ∨ 0 < x by grind) with c | c
  · have := Rat.mul_pos (show 0 < -x by grind) (show 0 < -x by grind)
    grind
  · exact Rat.mul_pos c c
theorem sq_nn {x : Rat} : 0 ≤ x * x := by
  by_cases h : x = 0
  · subst h; grind
  · exact Rat.le_of_lt (sq_pos' h)
theorem prod_uniq {u v u' v' : Rat} (hu : 0 < u) (hv : 0 < v) (hu' : 0 < u') (hv' : 0 < v') (e : u * v = u' * v') (e3 : (u + u') * (v + v') ≤ 4 * (u * v)) : u = u' ∧ v = v' := by
  have e4 : u * v' + u' * v ≤ 2 * (u * v) := by grind
  have e5 : (u * v') * (u' * v) = (u * v) * (u * v) := by
    have : (u * v') * (u' * v) = (u * v) * (u' * v') := by grind
    rw [this, ← e]
  have p1 := Rat.mul_pos hu hv'
  have p2 := Rat.mul_pos hu' hv
  have p3 := Rat.mul_pos hu hv
  have e6 : u * v' = u * v := by
    generalize u * v' = a at *
    generalize u' * v = b at *
    generalize u * v = c at *
    by_cases z : a - b = 0
    · have : (a - c) * (a + c) = 0 := by grind
      rcases Rat.mul_eq_zero.1 this with k | k <;> grind
    · exfalso
      have := sq_pos' z
      have m1 := Rat.mul_le_mul_of_nonneg_left e4 (show 0 ≤ a + b by grind)
      have m2 := Rat.mul_le_mul_of_nonneg_right e4 (show 0 ≤ 2 * c by grind)
      grind
  have ev : v = v' := by
    have : u * (v' - v) = 0 := by grind
    rcases Rat.mul_eq_zero.1 this with c | c <;> grind
  refine ⟨?_, ev⟩
  subst ev
  have : (u - u') * v = 0 := by grind
  rcases Rat.mul_eq_zero.1 this with c | c <;> grind
theorem IsProd.uniq {l : List Pr} {d : Pr} {p q : Rat × Rat} (h : IsProd l d p) (k : IsProd l d q) : p = q := by
  have h1 := h.max q.1 q.2 k.reg k.x k.y
  have h2 := k.max p.1 p.2 h.reg h.x h.y
  have hm := h.reg.conv k.reg (s := 1 / 2) (by grind) (by grind)
  have hx := h.x
  have hy := h.y
  have kx := k.x
  have ky := k.y
  have h3 := h.max _ _ hm (by grind) (by grind)
  clear hm
  obtain ⟨a, b⟩ := prod_uniq (u := p.1 - d.1) (v := p.2 - d.2) (u' := q.1 - d.1) (v' := q.2 - d.2) (by grind) (by grind) (by grind) (by grind) (Rat.le_antisymm h2 h1) (by grind)
  exact Prod.ext (by grind) (by grind)
end Go.Lt.P5
