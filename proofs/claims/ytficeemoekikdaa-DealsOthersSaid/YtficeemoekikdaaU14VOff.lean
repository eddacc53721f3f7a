/- PLAIN LAWS OF WHAT IS COMPUTED, for the statement 'DealsOthers'. Nothing is asked of the input. -/
import Derived.Test.YtficeemoekikdaaG14A
import Derived.Test.YtficeemoekikdaaLB
import Derived.Test.YtficeemoekikdaaLB
import Derived.Test.YtficeemoekikdaaLB
set_option linter.unusedVariables false
set_option linter.unusedSimpArgs false
namespace Go.Lt.P5
open Go Go.Lt Go.Proofs
abbrev Pr := Int × Int
theorem w64_succ {i : Nat} (h : i < 9223372036854775807) : w64 ((i : Int) + 1) = ((i + 1 : Nat) : Int) := by
  rw [w64_id (by omega) (by omega)]; push_cast; rfl
theorem keqs_two (a b c d : Int) : AV.keqs [.int .i64 a, .int .i64 b] [.int .i64 c, .int .i64 d] = decide ((a, b) = (c, d)) := by
  simp only [AV.keqs, AV.keq1, Bool.and_true, Prod.mk.injEq]
  by_cases h1 : a = c <;> by_cases h2 : b = d <;> simp [h1, h2]
def num (x : Pr) : Prop := 0 ≤ x.1 ∧ x.1 ≤ 30 ∧ 0 ≤ x.2 ∧ x.2 ≤ 30
instance (x : Pr) : Decidable (num x) := by unfold num; infer_instance
theorem mul_bd {x y A B : Int} (h1 : -A ≤ x) (h2 : x ≤ A) (h3 : -B ≤ y) (h4 : y ≤ B) : -(A * B) ≤ x * y ∧ x * y ≤ A * B := by
  have p1 : 0 ≤ (A - x) * (B - y) := Int.mul_nonneg (by omega) (by omega)
  have p2 : 0 ≤ (A + x) * (B + y) := Int.mul_nonneg (by omega) (by omega)
  have p3 : 0 ≤ (A - x) * (B + y) := Int.mul_nonneg (by omega) (by omega)
  have p4 : 0 ≤ (A + x) * (B - y) := Int.mul_nonneg (by omega) (by omega)
  constructor <;> grind
/-- offers -/
def offP (l : List Pr) : Prop := 1 ≤ l.length ∧ l.length ≤ 8 ∧ (∀ x ∈ l, num x) ∧ l.Nodup
instance (l : List Pr) : Decidable (offP l) := by unfold offP; infer_instance
theorem r70_spec (x : Int) (H : Hp) : r70 x H = some (decide (0 ≤ x ∧ x ≤ 30), H) := by
  unfold r70
  by_cases h1 : 0 ≤ x <;> simp [h1]
theorem r81_ok {H : Hp} {v : Sl} {l : List Pr} (hv : SL H v l) (hb : l.length ≤ 1000) (a b : Int) : Ok (r81 v a b H) fun r H' => Gr H H' ∧ (0 ≤ r ↔ (a, b) ∈ l) := by
  unfold r81
  refine Ok.lt ?_
  have gp := Gr.push H (.cells [.int .i64 a, .int .i64 b] false)
  have hg : (H.push (.cells [.int .i64 a, .int .i64 b] false)).get H.n = some (.cells [.int .i64 a, .int .i64 b] false) := by simp
  have hv1 := hv.gr gp
  have hlen := hv.len
  generalize H.push (.cells [.int .i64 a, .int .i64 b] false) = A at *
  rw [hlen]
  refine Ok.loop (L := fun K (s : Int) H2 => r81_l0 K v H.n l.length s H2) (fun m s H' => H' = A ∧ ∃ i : Nat, s = i ∧ i + m = l.length ∧ (a, b) ∉ l.take i) ?_ FUEL l.length 0 A (by unfold FUEL; omega) ⟨rfl, 0, rfl, by omega, by simp⟩
  rintro K m s H1 ⟨rfl, i, rfl, hm, ht⟩ ih
  try dsimp only at *
  rw [r81_l0]
  by_cases h : i < l.length
  · refine Ok.pos (by omega) (Ok.ld (ldI_get hg rfl) (Ok.ld (ldI_get hg rfl) (Ok.ck (by omega) (Ok.ld (hv1.ldI (i := i) (j := 0) h rfl) (Ok.ld (hv1.ldI (i := i) (j := 1) h rfl) ?_)))))
    rw [keqs_two]
    refine Ok.ite (fun hc => ?_) fun hc => ?_
    · have := of_decide_eq_true hc
      exact Ok.ret ⟨gp, ⟨fun _ => by rw [this]; exact List.getElem_mem h, fun _ => by omega⟩⟩
    · rw [w64_succ (by omega)]
      refine ih (m - 1) _ _ (by omega) ⟨rfl, i + 1, rfl, by omega, ?_⟩
      rw [List.take_succ_eq_append_getElem h, List.mem_append]
      rintro (c | c)
      · exact ht c
      · rw [List.mem_singleton] at c
        exact hc (decide_eq_true c)
  · rw [List.take_of_length_le (by omega)] at ht
    exact Ok.neg (by omega) (Ok.ret ⟨gp, by simp [ht]⟩)
theorem r71_ok {H : Hp} {v : Sl} {l : List Pr} (hv : SL H v l) (hb : l.length ≤ 1000) (a b : Int) : Ok (r71 v a b H) fun r H' => Gr H H' ∧ r = decide ((a, b) ∈ l) := by
  unfold r71
  refine Ok.lt ?_
  have gp := Gr.push H (.cells [.int .i64 a, .int .i64 b] false)
  have hg : (H.push (.cells [.int .i64 a, .int .i64 b] false)).get H.n = some (.cells [.int .i64 a, .int .i64 b] false) := by simp
  refine Ok.ld (ldI_get hg rfl) (Ok.ld (ldI_get hg rfl) (Ok.bind (r81_ok (hv.gr gp) hb a b) fun r H1 ⟨g1, h1⟩ => Ok.ret ⟨gp.trans g1, decide_eq_decide.2 h1⟩))
/-- valid -/
theorem r52_ok {H : Hp} {v : Sl} {l : List Pr} (hv : SL H v l) (hb : l.length ≤ 1000) : Ok (r52 v H) fun r H' => Gr H H' ∧ r = decide (offP l) := by
  unfold r52
  have hlen := hv.len
  have hcap := hv.cap
  have hopn := hv.opn
  by_cases h1 : l.length < 1
  · refine Ok.pos (by omega) ?_
    unfold r52_j0
    refine Ok.pos rfl (Ok.ret ⟨.refl _, ?_⟩)
    rw [decide_eq_false (fun h => by have := h.1; omega)]
  · refine Ok.neg (by omega) ?_
    unfold r52_j0
    by_cases h8 : 8 < l.length
    · refine Ok.pos (by rw [decide_eq_true_iff]; omega) (Ok.ret ⟨.refl _, ?_⟩)
      rw [decide_eq_false (fun h => by have := h.2.1; omega)]
    · refine Ok.neg (by rw [decide_eq_true_iff]; omega) ?_
      rw [hlen]
      refine Ok.loop (L := fun K (s : Int) H2 => r52_l1 K v v l.length s H2) (fun m s H' => Gr H H' ∧ ∃ i : Nat, s = i ∧ i + m = l.length ∧ (∀ x ∈ l.take i, num x) ∧ (l.take i).Nodup) ?_ FUEL l.length 0 H (by unfold FUEL; omega) ⟨.refl _, 0, rfl, by omega, by simp, by simp⟩
      rintro K m s H1 ⟨g1, i, rfl, hm, hn, hd⟩ ih
      try dsimp only at *
      rw [r52_l1]
      by_cases h : i < l.length
      · have hg := hv.gr g1
        obtain ⟨D, hD, hD', gD, nD⟩ := sts2 H1 (.int .i64 l[i].1) (.int .i64 l[i].2) (.int .i64 0) (.int .i64 0)
        have gB := g1.trans gD
        have hgD := hv.gr gB
        refine Ok.pos (by omega) (Ok.ck (by omega) (Ok.ld (hg.ldI (i := i) (j := 0) h rfl) (Ok.ld (hg.ldI (i := i) (j := 1) h rfl) (Ok.ld hD (Ok.ld (ldI_get hD' rfl) (Ok.ld (r70_spec _ _) ?_))))))
        have bad : ∀ H2, Gr H H2 → ¬ offP l → Ok (r52_j2 (fun v1_ v2_ v3_ v4_ H_ => r52_l1 K v1_ v2_ v3_ v4_ H_) v v l.length i true H2) fun r H' => Gr H H' ∧ r = decide (offP l) := fun H2 g2 hno => by
          unfold r52_j2
          exact Ok.pos rfl (Ok.ret ⟨g2, by rw [decide_eq_false hno]⟩)
        have hmem : l[i] ∈ l := List.getElem_mem h
        refine Ok.ite (fun hc => ?_) fun hc => bad _ gB fun ho => by
          have := ho.2.2.1 _ hmem
          unfold num at this
          simp at hc
          omega
        refine Ok.ld (ldI_get hD' rfl) (Ok.ld (r70_spec _ _) (Ok.ite (fun hc2 => ?_) fun hc2 => bad _ gB fun ho => by
          have := ho.2.2.1 _ hmem
          unfold num at this
          simp at hc2
          omega))
        refine Ok.ck ⟨by omega, hopn⟩ (Ok.ld (ldI_get hD' rfl) (Ok.ld (ldI_get hD' rfl) ?_))
        rw [Int.toNat_natCast, Int.toNat_zero]
        have hs := hgD.cut (lo := 0) (hi := i) (by omega) (by omega)
        rw [List.drop_zero, Nat.sub_zero] at hs
        refine Ok.bind (r71_ok hs (by rw [List.length_take]; omega) _ _) fun r H2 ⟨g2, hr⟩ => ?_
        subst hr
        have gC := gB.trans g2
        by_cases hin : l[i] ∈ l.take i
        · have : decide ((l[i].1, l[i].2) ∈ l.take i) = true := decide_eq_true hin
          rw [this]
          refine bad _ gC fun ho => ?_
          have hnd := ho.2.2.2
          rw [← List.take_append_drop i l] at hnd
          exact (List.nodup_append.1 hnd).2.2 _ hin _ (by rw [List.drop_eq_getElem_cons h]; exact List.mem_cons_self) rfl
        · have : decide ((l[i].1, l[i].2) ∈ l.take i) = false := decide_eq_false hin
          rw [this]
          unfold r52_j2
          refine Ok.neg (by simp) ?_
          rw [w64_succ (by omega)]
          refine ih (m - 1) _ _ (by omega) ⟨gC, i + 1, rfl, by omega, ?_, ?_⟩
          · rw [List.take_succ_eq_append_getElem h]
            intro x hx
            rcases List.mem_append.1 hx with hx | hx
            · exact hn x hx
            · rw [List.mem_singleton] at hx
              subst hx
              unfold num
              simp at hc hc2
              omega
          · rw [List.take_succ_eq_append_getElem h]
            refine List.nodup_append.2 ⟨hd, by simp, fun x hx y hy e => ?_⟩
            rw [List.mem_singleton] at hy
            subst hy; subst e
            exact hin hx
      · rw [List.take_of_length_le (by omega)] at hn hd
        exact Ok.neg (by omega) (Ok.ret ⟨g1, by rw [decide_eq_true ⟨by omega, by omega, hn, hd⟩]⟩)
/-- list -/
theorem r24_ok {H : Hp} {v : Sl} {l : List Pr} (hv : SL H v l) (hb : l.length < 9223372036854775808) : Ok (r24 v H) fun w H' => Gr H H' ∧ SL H' w (l.take 11) ∧ w.nil = v.nil ∧ (v.nil = false → Own H' w (l.take 11) ∧ H.n ≤ w.b) := by
  unfold r24
  have h1 := hv.len
  have hc := hv.cap
  have ho := hv.opn
  have e : (if 11 < (v.len : Int) then (11 : Int) else (v.len : Int)) = ((min 11 l.length : Nat) : Int) := by
    by_cases h : 11 < (v.len : Int)
    · rw [if_pos h]; omega
    · rw [if_neg h]; omega
  rw [e]
  refine Ok.ck ⟨by omega, ho⟩ ?_
  rw [Int.toNat_natCast]
  have hs := hv.cut (lo := 0) (hi := min 11 l.length) (by omega) (by omega)
  have hl : (l.drop 0).take (min 11 l.length - 0) = l.take 11 := by
    rw [List.drop_zero, Nat.sub_zero]
    by_cases h : 11 ≤ l.length
    · rw [Nat.min_eq_left h]
    · rw [Nat.min_eq_right (by omega), List.take_of_length_le (by omega), List.take_of_length_le (by omega)]
  rw [hl] at hs
  have hcn : (v.cut 2 0 (min 11 l.length)).nil = v.nil := by
    cases hn : v.nil <;> simp [Sl.cut, hn]
  show Ok ((cloneR 2 _ H).bind fun p2 => some (p2.1, p2.2)) _
  exact Ok.bind (clone_ok hs (by simp; omega) rfl) fun w H2 ⟨g2, a, b, hw⟩ => Ok.ret ⟨g2, a, b.trans hcn, fun hn => hw (hcn.trans hn)⟩
theorem off11 (l : List Pr) : offP (l.take 11) ↔ offP l := by
  by_cases h : l.length ≤ 11
  · rw [List.take_of_length_le h]
  · constructor
    · intro c
      have := c.2.1
      rw [List.length_take] at this
      omega
    · intro c
      have := c.2.1
      omega
end Go.Lt.P5
