/- PLAIN LAWS OF WHAT IS COMPUTED, for the statement 'DealsEdges'. Nothing is asked of the input. -/
import Derived.Test.YtficeemoekikdaaU6VSo
set_option linter.unusedVariables false
set_option linter.unusedSimpArgs false
namespace Go.Lt.P5
open Go Go.Lt Go.Proofs
def dom (o a : Pr) : Prop := a ≠ o ∧ o.1 ≤ a.1 ∧ o.2 ≤ a.2
/-- o lies below the way from a to b -/
def beat (o a b : Pr) : Prop := a.1 < o.1 ∧ o.1 < b.1 ∧ (o.2 - a.2) * (b.1 - a.1) < (b.2 - a.2) * (o.1 - a.1)
def lastP (l : List Pr) (o : Pr) : Prop := ∀ a ∈ l, ¬ dom o a ∧ ∀ b ∈ l, ¬ beat o a b
instance (o a : Pr) : Decidable (dom o a) := by unfold dom; infer_instance
instance (o a b : Pr) : Decidable (beat o a b) := by unfold beat; infer_instance
instance (l : List Pr) (o : Pr) : Decidable (lastP l o) := by unfold lastP; infer_instance
theorem forall_take {α : Type} {l : List α} {i : Nat} {P : α → Prop} (h : i < l.length) (h1 : ∀ x ∈ l.take i, P x) (h2 : P l[i]) : ∀ x ∈ l.take (i + 1), P x := by
  rw [List.take_succ_eq_append_getElem h]
  intro x hx
  rcases List.mem_append.1 hx with hx | hx
  · exact h1 x hx
  · rw [List.mem_singleton] at hx; subst hx; exact h2
section
variable {Q : Bool → Hp → Prop}
theorem r57_l1_ok {n0 H : Hp} {v vv : Sl} {l : List Pr} {ob ab : Nat} {o a : Pr} {ln iv : Int} (hv : SL n0 v l) (hl8 : l.length ≤ 1000) (hn : ∀ x ∈ l, num x) (ho : num o) (ha : num a) (g : Gr n0 H) (hob : H.get ob = some (.cells [.int .i64 o.1, .int .i64 o.2] false)) (hab : H.get ab = some (.cells [.int .i64 a.1, .int .i64 a.2] false))
    {kt0 : Sl → Nat → Sl → Int → Int → Hp → Option (Bool × Hp)} (kf : ∀ H', Gr n0 H' → (∃ b ∈ l, beat o a b) → Q false H') (k : ∀ H', Gr n0 H' → H'.get ob = some (.cells [.int .i64 o.1, .int .i64 o.2] false) → (∀ b ∈ l, ¬ beat o a b) → Ok (kt0 v ob vv ln (w64 (iv + 1)) H') Q) : Ok (r57_l1 kt0 FUEL v ob ab vv ln iv v l.length 0 H) Q := by
  have hlen := hv.len
  refine Ok.loop (L := fun K (s : Int) H2 => r57_l1 kt0 K v ob ab vv ln iv v l.length s H2) (fun m s H' => ∃ i : Nat, s = i ∧ i + m = l.length ∧ Gr n0 H' ∧ H'.get ob = some (.cells [.int .i64 o.1, .int .i64 o.2] false) ∧ H'.get ab = some (.cells [.int .i64 a.1, .int .i64 a.2] false) ∧ ∀ b ∈ l.take i, ¬ beat o a b) ?_ FUEL l.length 0 H (by unfold FUEL; omega) ⟨0, rfl, by omega, g, hob, hab, by simp⟩
  rintro K m s H2 ⟨i, rfl, hm, g2, ho2, ha2, ht⟩ ih
  try dsimp only at *
  rw [r57_l1]
  by_cases h : i < l.length
  · have hg := hv.gr g2
    have hx := hn _ (List.getElem_mem h)
    obtain ⟨E, hE, hE', gE, nE⟩ := sts2 H2 (.int .i64 l[i].1) (.int .i64 l[i].2) (.int .i64 0) (.int .i64 0)
    have hoE : E.get ob = some (.cells [.int .i64 o.1, .int .i64 o.2] false) := by rw [gE.2 _ (Hp.get_lt ho2)]; exact ho2
    have haE : E.get ab = some (.cells [.int .i64 a.1, .int .i64 a.2] false) := by rw [gE.2 _ (Hp.get_lt ha2)]; exact ha2
    have gB := g2.trans gE
    have off : ¬ beat o a l[i] → Ok (r57_j3 (fun v1_ v2_ v3_ v4_ v5_ v6_ v7_ v8_ v9_ H_ => r57_l1 kt0 K v1_ v2_ v3_ v4_ v5_ v6_ v7_ v8_ v9_ H_) v ob ab vv ln iv v l.length i false E) Q := fun hno => by
      unfold r57_j3
      refine Ok.neg (by simp) ?_
      rw [w64_succ (by omega)]
      exact ih (m - 1) _ E (by omega) ⟨i + 1, rfl, by omega, gB, hoE, haE, forall_take h ht hno⟩
    refine Ok.pos (by omega) (Ok.ck (by omega) (Ok.ld (hg.ldI (i := i) (j := 0) h rfl) (Ok.ld (hg.ldI (i := i) (j := 1) h rfl) (Ok.ld hE (Ok.ld (ldI_get haE rfl) (Ok.ld (ldI_get hoE rfl) ?_))))))
    refine Ok.ite (fun c1 => Ok.ld (ldI_get hoE rfl) (Ok.ld (ldI_get hE' rfl) (Ok.ite (fun c2 => ?_) fun c2 => off (fun c => c2 c.2.1)))) fun c1 => off (fun c => c1 c.1)
    refine Ok.ld (ldI_get hE' rfl) (Ok.ld (ldI_get haE rfl) (Ok.ld (ldI_get hoE rfl) (Ok.ld (ldI_get haE rfl) (Ok.ld (ldI_get hoE rfl) (Ok.ld (ldI_get haE rfl) (Ok.ld (ldI_get hE' rfl) (Ok.ld (ldI_get haE rfl) ?_)))))))
    unfold num at ho ha hx
    have b1 := mul_bd (A := 30) (B := 30) (x := o.2 - a.2) (y := l[i].1 - a.1) (by omega) (by omega) (by omega) (by omega)
    have b2 := mul_bd (A := 30) (B := 30) (x := l[i].2 - a.2) (y := o.1 - a.1) (by omega) (by omega) (by omega) (by omega)
    rw [w64_id (n := o.2 - a.2) (by omega) (by omega), w64_id (n := l[i].1 - a.1) (by omega) (by omega), w64_id (n := l[i].2 - a.2) (by omega) (by omega), w64_id (n := o.1 - a.1) (by omega) (by omega), w64_id (n := (o.2 - a.2) * (l[i].1 - a.1)) (by omega) (by omega), w64_id (n := (l[i].2 - a.2) * (o.1 - a.1)) (by omega) (by omega)]
    by_cases c3 : (o.2 - a.2) * (l[i].1 - a.1) < (l[i].2 - a.2) * (o.1 - a.1)
    · rw [decide_eq_true c3]
      unfold r57_j3
      exact Ok.pos rfl (Ok.ret (kf _ gB ⟨l[i], List.getElem_mem h, c1, c2, c3⟩))
    · rw [decide_eq_false c3]
      exact off (fun c => c3 c.2.2)
  · rw [List.take_of_length_le (by omega)] at ht
    exact Ok.neg (by omega) (k H2 g2 ho2 ht)
end
/-- last -/
theorem r57_ok {H : Hp} {v : Sl} {l : List Pr} (hv : SL H v l) (hl8 : l.length ≤ 1000) (hn : ∀ x ∈ l, num x) {o : Pr} (ho : num o) : Ok (r57 v o.1 o.2 H) fun r H' => Gr H H' ∧ r = decide (lastP l o) := by
  unfold r57
  have gp := Gr.push H (.cells [.int .i64 o.1, .int .i64 o.2] false)
  have g0 : (H.push (.cells [.int .i64 o.1, .int .i64 o.2] false)).get H.n = some (.cells [.int .i64 o.1, .int .i64 o.2] false) := Hp.get_push_new _ _
  generalize H.push (.cells [.int .i64 o.1, .int .i64 o.2] false) = A at *
  refine Ok.lt ?_
  have hlen := hv.len
  rw [hlen]
  refine Ok.loop (L := fun K (s : Int) H2 => r57_l0 K v H.n v l.length s H2) (fun m s H' => ∃ i : Nat, s = i ∧ i + m = l.length ∧ Gr H H' ∧ H'.get H.n = some (.cells [.int .i64 o.1, .int .i64 o.2] false) ∧ ∀ a ∈ l.take i, ¬ dom o a ∧ ∀ b ∈ l, ¬ beat o a b) ?_ FUEL l.length 0 A (by unfold FUEL; omega) ⟨0, rfl, by omega, gp, g0, by simp⟩
  rintro K m s H2 ⟨i, rfl, hm, g2, ho2, ht⟩ ih
  try dsimp only at *
  rw [r57_l0]
  by_cases h : i < l.length
  · have hg := hv.gr g2
    have hmem : l[i] ∈ l := List.getElem_mem h
    have hx := hn _ hmem
    obtain ⟨E, hE, hE', gE, nE⟩ := sts2 H2 (.int .i64 l[i].1) (.int .i64 l[i].2) (.int .i64 0) (.int .i64 0)
    have hoE : E.get H.n = some (.cells [.int .i64 o.1, .int .i64 o.2] false) := by rw [gE.2 _ (Hp.get_lt ho2)]; exact ho2
    have gB := g2.trans gE
    have go : ¬ dom o l[i] → Ok (r57_j2 (fun v1_ v2_ v3_ v4_ v5_ H_ => r57_l0 K v1_ v2_ v3_ v4_ v5_ H_) v H.n H2.n v l.length i false E) fun r H' => Gr H H' ∧ r = decide (lastP l o) := fun hno => by
      unfold r57_j2
      refine Ok.neg (by simp) ?_
      rw [hlen]
      refine r57_l1_ok (n0 := H) hv hl8 hn ho hx gB hoE hE' (fun H' g' ⟨b, hb, hbe⟩ => ⟨g', ?_⟩) fun H' g' ho' hall => ?_
      · rw [decide_eq_false (fun c => (c _ hmem).2 b hb hbe)]
      · rw [w64_succ (by omega)]
        exact ih (m - 1) _ H' (by omega) ⟨i + 1, rfl, by omega, g', ho', forall_take h ht ⟨hno, hall⟩⟩
    refine Ok.pos (by omega) (Ok.ck (by omega) (Ok.ld (hg.ldI (i := i) (j := 0) h rfl) (Ok.ld (hg.ldI (i := i) (j := 1) h rfl) (Ok.ld hE (Ok.ld (ldI_get hE' rfl) (Ok.ld (ldI_get hE' rfl) (Ok.ld (ldI_get hoE rfl) (Ok.ld (ldI_get hoE rfl) ?_))))))))
    rw [keqs_two]
    refine Ok.ite (fun c => go (fun d => d.1 (of_decide_eq_true c))) fun c => ?_
    have hne : l[i] ≠ o := fun e => c (decide_eq_true e)
    refine Ok.ld (ldI_get hE' rfl) (Ok.ld (ldI_get hoE rfl) (Ok.ite (fun c1 => Ok.ld (ldI_get hE' rfl) (Ok.ld (ldI_get hoE rfl) ?_)) fun c1 => go (fun d => c1 d.2.1)))
    by_cases c2 : o.2 ≤ l[i].2
    · rw [decide_eq_true c2]
      unfold r57_j2
      refine Ok.pos rfl (Ok.ret ⟨gB, ?_⟩)
      rw [decide_eq_false (fun c => (c _ hmem).1 ⟨hne, c1, c2⟩)]
    · rw [decide_eq_false c2]
      exact go (fun d => c2 d.2.2)
  · rw [List.take_of_length_le (by omega)] at ht
    exact Ok.neg (by omega) (Ok.ret ⟨g2, by rw [decide_eq_true (show lastP l o from ht)]⟩)
/-- the best with a number -/
def Best (l : List Pr) (x b : Int) : Prop := (b = -1 ∧ ∀ o ∈ l, o.1 ≠ x) ∨ ((x, b) ∈ l ∧ ∀ o ∈ l, o.1 = x → o.2 ≤ b)
theorem Best.add {l : List Pr} {x b : Int} {i : Nat} (h : i < l.length) (hn : 0 ≤ l[i].2) (hb : Best (l.take i) x b) : Best (l.take (i + 1)) x (if l[i].1 = x then (if b < l[i].2 then l[i].2 else b) else b) := by
  rw [List.take_succ_eq_append_getElem h]
  by_cases e : l[i].1 = x
  · rw [if_pos e]
    right
    rcases hb with ⟨h1, h2⟩ | ⟨h1, h2⟩
    · rw [if_pos (by omega)]
      refine ⟨List.mem_append_right _ (by rw [← e]; exact List.mem_singleton.2 rfl), fun o ho he => ?_⟩
      rcases List.mem_append.1 ho with ho | ho
      · exact absurd he (h2 o ho)
      · rw [List.mem_singleton] at ho; subst ho; omega
    · by_cases c : b < l[i].2
      · rw [if_pos c]
        refine ⟨List.mem_append_right _ (by rw [← e]; exact List.mem_singleton.2 rfl), fun o ho he => ?_⟩
        rcases List.mem_append.1 ho with ho | ho
        · have := h2 o ho he; omega
        · rw [List.mem_singleton] at ho; subst ho; omega
      · rw [if_neg c]
        refine ⟨List.mem_append_left _ h1, fun o ho he => ?_⟩
        rcases List.mem_append.1 ho with ho | ho
        · exact h2 o ho he
        · rw [List.mem_singleton] at ho; subst ho; omega
  · rw [if_neg e]
    rcases hb with ⟨h1, h2⟩ | ⟨h1, h2⟩
    · left
      refine ⟨h1, fun o ho => ?_⟩
      rcases List.mem_append.1 ho with ho | ho
      · exact h2 o ho
      · rw [List.mem_singleton] at ho; subst ho; exact e
    · right
      refine ⟨List.mem_append_left _ h1, fun o ho he => ?_⟩
      rcases List.mem_append.1 ho with ho | ho
      · exact h2 o ho he
      · rw [List.mem_singleton] at ho; subst ho; exact absurd he e
/-- b lies in one line with a and o -/
def col (a o b : Pr) : Prop := (b.1 - a.1) * (o.2 - a.2) = (b.2 - a.2) * (o.1 - a.1)
instance (a o b : Pr) : Decidable (col a o b) := by unfold col; infer_instance
def betw (E : List Pr) (o : Pr) : Prop := ∃ a ∈ E, ∃ b ∈ E, (a.1 < o.1 ∧ o.1 < b.1) ∧ col a o b
instance (E : List Pr) (o : Pr) : Decidable (betw E o) := by unfold betw; infer_instance
def incP (a b : Pr) : Prop := a.1 < b.1
theorem inc_take {E : List Pr} (hE : E.Pairwise incP) {i : Nat} (h : i < E.length) {a : Pr} : a ∈ E.take i ↔ a ∈ E ∧ a.1 < E[i].1 := by
  have hp := List.pairwise_iff_getElem.1 hE
  constructor
  · intro ha
    obtain ⟨j, hj, rfl⟩ := List.mem_iff_getElem.1 ha
    rw [List.length_take] at hj
    rw [List.getElem_take]
    exact ⟨List.getElem_mem _, hp j i (by omega) h (by omega)⟩
  · rintro ⟨ha, hlt⟩
    obtain ⟨j, hj, rfl⟩ := List.mem_iff_getElem.1 ha
    have : j < i := by
      rcases Nat.lt_trichotomy j i with c | c | c
      · exact c
      · subst c; omega
      · have := hp i j h hj c; unfold incP at this; omega
    exact List.mem_iff_getElem.2 ⟨j, by rw [List.length_take]; omega, by rw [List.getElem_take]⟩
theorem inc_drop {E : List Pr} (hE : E.Pairwise incP) {i : Nat} (h : i < E.length) {a : Pr} : a ∈ E.drop (i + 1) ↔ a ∈ E ∧ E[i].1 < a.1 := by
  have hp := List.pairwise_iff_getElem.1 hE
  constructor
  · intro ha
    obtain ⟨j, hj, rfl⟩ := List.mem_iff_getElem.1 ha
    rw [List.length_drop] at hj
    rw [List.getElem_drop]
    exact ⟨List.getElem_mem _, hp i (i + 1 + j) h (by omega) (by omega)⟩
  · rintro ⟨ha, hlt⟩
    obtain ⟨j, hj, rfl⟩ := List.mem_iff_getElem.1 ha
    have : i < j := by
      rcases Nat.lt_trichotomy j i with c | c | c
      · have := hp j i hj h c; unfold incP at this; omega
      · subst c; omega
      · exact c
    exact List.mem_iff_getElem.2 ⟨j - (i + 1), by rw [List.length_drop]; omega, by rw [List.getElem_drop]; congr 1; omega⟩
theorem betw_iff {E : List Pr} (hE : E.Pairwise incP) {i : Nat} (h : i < E.length) : betw E E[i] ↔ ∃ a ∈ E.take i, ∃ b ∈ E.drop (i + 1), col a E[i] b := by
  unfold betw
  constructor
  · rintro ⟨a, ha, b, hb, ⟨h1, h2⟩, hc⟩
    exact ⟨a, (inc_take hE h).2 ⟨ha, h1⟩, b, (inc_drop hE h).2 ⟨hb, h2⟩, hc⟩
  · rintro ⟨a, ha, b, hb, hc⟩
    have h1 := (inc_take hE h).1 ha
    have h2 := (inc_drop hE h).1 hb
    exact ⟨a, h1.1, b, h2.1, ⟨h1.2, h2.2⟩, hc⟩
theorem exists_take {α : Type} {l : List α} {i : Nat} {P : α → Prop} (h : i < l.length) : (∃ x ∈ l.take (i + 1), P x) ↔ (∃ x ∈ l.take i, P x) ∨ P l[i] := by
  rw [List.take_succ_eq_append_getElem h]
  constructor
  · rintro ⟨x, hx, hp⟩
    rcases List.mem_append.1 hx with hx | hx
    · exact .inl ⟨x, hx, hp⟩
    · rw [List.mem_singleton] at hx; subst hx; exact .inr hp
  · rintro (⟨x, hx, hp⟩ | hp)
    · exact ⟨x, List.mem_append_left _ hx, hp⟩
    · exact ⟨l[i], List.mem_append_right _ (List.mem_singleton.2 rfl), hp⟩
end Go.Lt.P5
