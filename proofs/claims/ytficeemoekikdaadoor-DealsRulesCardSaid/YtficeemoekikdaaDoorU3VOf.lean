/- PLAIN LAWS OF WHAT IS COMPUTED, for the statement 'DealsRules'. Nothing is asked of the input. -/
import Derived.Test.YtficeemoekikdaaDoorU3VDl
import Derived.Test.YtficeemoekikdaaDoorU3VPt
import Derived.Test.YtficeemoekikdaaDoorU3VPo
set_option linter.unusedVariables false
set_option linter.unusedSimpArgs false
namespace Go.Lt.P5
open Go Go.Lt Go.Proofs
theorem forall_take {α : Type} {l : List α} {i : Nat} {P : α → Prop} (h : i < l.length) (h1 : ∀ x ∈ l.take i, P x) (h2 : P l[i]) : ∀ x ∈ l.take (i + 1), P x := by
  rw [List.take_succ_eq_append_getElem h]
  intro x hx
  rcases List.mem_append.1 hx with hx | hx
  · exact h1 x hx
  · rw [List.mem_singleton] at hx; subst hx; exact h2
section
variable {Q : Bool → Hp → Prop}
theorem r49_l1_ok {n0 H : Hp} {v vv : Sl} {l : List Pr} {ob ab : Nat} {o a : Pr} {ln iv : Int} (hv : SL n0 v l) (hl8 : l.length ≤ 1000) (hn : ∀ x ∈ l, num x) (ho : num o) (ha : num a) (g : Gr n0 H) (hob : H.get ob = some (.cells [.int .i64 o.1, .int .i64 o.2] false)) (hab : H.get ab = some (.cells [.int .i64 a.1, .int .i64 a.2] false))
    {kt0 : Sl → Nat → Sl → Int → Int → Hp → Option (Bool × Hp)} (kf : ∀ H', Gr n0 H' → (∃ b ∈ l, beat o a b) → Q false H') (k : ∀ H', Gr n0 H' → H'.get ob = some (.cells [.int .i64 o.1, .int .i64 o.2] false) → (∀ b ∈ l, ¬ beat o a b) → Ok (kt0 v ob vv ln (w64 (iv + 1)) H') Q) : Ok (r49_l1 kt0 FUEL v ob ab vv ln iv v l.length 0 H) Q := by
  have hlen := hv.len
  refine Ok.loop (L := fun K (s : Int) H2 => r49_l1 kt0 K v ob ab vv ln iv v l.length s H2) (fun m s H' => ∃ i : Nat, s = i ∧ i + m = l.length ∧ Gr n0 H' ∧ H'.get ob = some (.cells [.int .i64 o.1, .int .i64 o.2] false) ∧ H'.get ab = some (.cells [.int .i64 a.1, .int .i64 a.2] false) ∧ ∀ b ∈ l.take i, ¬ beat o a b) ?_ FUEL l.length 0 H (by unfold FUEL; omega) ⟨0, rfl, by omega, g, hob, hab, by simp⟩
  rintro K m s H2 ⟨i, rfl, hm, g2, ho2, ha2, ht⟩ ih
  try dsimp only at *
  rw [r49_l1]
  by_cases h : i < l.length
  · have hg := hv.gr g2
    have hx := hn _ (List.getElem_mem h)
    obtain ⟨E, hE, hE', gE, nE⟩ := sts2 H2 (.int .i64 l[i].1) (.int .i64 l[i].2) (.int .i64 0) (.int .i64 0)
    have hoE : E.get ob = some (.cells [.int .i64 o.1, .int .i64 o.2] false) := by rw [gE.2 _ (Hp.get_lt ho2)]; exact ho2
    have haE : E.get ab = some (.cells [.int .i64 a.1, .int .i64 a.2] false) := by rw [gE.2 _ (Hp.get_lt ha2)]; exact ha2
    have gB := g2.trans gE
    have off : ¬ beat o a l[i] → Ok (r49_j3 (fun v1_ v2_ v3_ v4_ v5_ v6_ v7_ v8_ v9_ H_ => r49_l1 kt0 K v1_ v2_ v3_ v4_ v5_ v6_ v7_ v8_ v9_ H_) v ob ab vv ln iv v l.length i false E) Q := fun hno => by
      unfold r49_j3
      refine Ok.neg (by simp) ?_
      rw [w64_succ (by omega)]
      exact ih (m - 1) _ E (by omega) ⟨i + 1, rfl, by omega, gB, hoE, haE, forall_take h ht hno⟩
    refine Ok.pos (by omega) (Ok.ck (by omega) (Ok.ld (hg.ldI (i := i) (j := 0) h rfl) (Ok.ld (hg.ldI (i := i) (j := 1) h rfl) (Ok.ld hE (Ok.ld (ldI_get haE rfl) (Ok.ld (ldI_get hoE rfl) ?_))))))
    refine Ok.ite (fun c1 => Ok.ld (ldI_get hoE rfl) (Ok.ld (ldI_get hE' rfl) (Ok.ite (fun c2 => ?_) fun c2 => off (fun c => c2 c.2.1)))) fun c1 => off (fun c => c1 c.1)
    refine Ok.ld (ldI_get hE' rfl) (Ok.ld (ldI_get haE rfl) (Ok.ld (ldI_get hoE rfl) (Ok.ld (ldI_get haE rfl) (Ok.ld (ldI_get hoE rfl) (Ok.ld (ldI_get haE rfl) (Ok.ld (ldI_get hE' rfl) (Ok.ld (ldI_get haE rfl) ?_)))))))
    unfold num at ho ha hx
    have b1 := mul_bd (A := 30) (B := 30) (x := o.2 - a.2) (y := l[i].1 - a.1) (by omega) (by omega) (by omega) (by omega)
    have b2 := mul_bd (A := 30) (B := 30) (x := l[i].2 - a.2) (y := o.1 - a.1) (by omega) (by omega) (by omega) (by omega)
    rw [w64_id (n := o.2 - a.2) (by omega) (by omega), w64_id (n := l[i].1 - a.1) (by omega) (by omega), w64_id (n := l[i].2 - a.2) (by omega) (by omega), w64_id (n := o.1 - a.1) (by omega) (by omega), w64_id (n := (o.2 - a.2) * (l[i].1 - a.1)) (by omega) (by omega), w64_id (n := (l[i].2 - a.2) * (o.1 - a.1)) (by omega) (by omega)]
    by_cases c3 : (o.2 - a.2) * (l[i].1 - a.1) < (l[i].2 - a.2) * (o.1 - a.1)
    · rw [decide_eq_true c3]
      unfold r49_j3
      exact Ok.pos rfl (Ok.ret (kf _ gB ⟨l[i], List.getElem_mem h, c1, c2, c3⟩))
    · rw [decide_eq_false c3]
      exact off (fun c => c3 c.2.2)
  · rw [List.take_of_length_le (by omega)] at ht
    exact Ok.neg (by omega) (k H2 g2 ho2 ht)
end
theorem r49_ok {H : Hp} {v : Sl} {l : List Pr} (hv : SL H v l) (hl8 : l.length ≤ 1000) (hn : ∀ x ∈ l, num x) {o : Pr} (ho : num o) : Ok (r49 v o.1 o.2 H) fun r H' => Gr H H' ∧ r = decide (lastP l o) := by
  unfold r49
  have gp := Gr.push H (.cells [.int .i64 o.1, .int .i64 o.2] false)
  have g0 : (H.push (.cells [.int .i64 o.1, .int .i64 o.2] false)).get H.n = some (.cells [.int .i64 o.1, .int .i64 o.2] false) := Hp.get_push_new _ _
  generalize H.push (.cells [.int .i64 o.1, .int .i64 o.2] false) = A at *
  refine Ok.lt ?_
  have hlen := hv.len
  rw [hlen]
  refine Ok.loop (L := fun K (s : Int) H2 => r49_l0 K v H.n v l.length s H2) (fun m s H' => ∃ i : Nat, s = i ∧ i + m = l.length ∧ Gr H H' ∧ H'.get H.n = some (.cells [.int .i64 o.1, .int .i64 o.2] false) ∧ ∀ a ∈ l.take i, ¬ dom o a ∧ ∀ b ∈ l, ¬ beat o a b) ?_ FUEL l.length 0 A (by unfold FUEL; omega) ⟨0, rfl, by omega, gp, g0, by simp⟩
  rintro K m s H2 ⟨i, rfl, hm, g2, ho2, ht⟩ ih
  try dsimp only at *
  rw [r49_l0]
  by_cases h : i < l.length
  · have hg := hv.gr g2
    have hmem : l[i] ∈ l := List.getElem_mem h
    have hx := hn _ hmem
    obtain ⟨E, hE, hE', gE, nE⟩ := sts2 H2 (.int .i64 l[i].1) (.int .i64 l[i].2) (.int .i64 0) (.int .i64 0)
    have hoE : E.get H.n = some (.cells [.int .i64 o.1, .int .i64 o.2] false) := by rw [gE.2 _ (Hp.get_lt ho2)]; exact ho2
    have gB := g2.trans gE
    have go : ¬ dom o l[i] → Ok (r49_j2 (fun v1_ v2_ v3_ v4_ v5_ H_ => r49_l0 K v1_ v2_ v3_ v4_ v5_ H_) v H.n H2.n v l.length i false E) fun r H' => Gr H H' ∧ r = decide (lastP l o) := fun hno => by
      unfold r49_j2
      refine Ok.neg (by simp) ?_
      rw [hlen]
      refine r49_l1_ok (n0 := H) hv hl8 hn ho hx gB hoE hE' (fun H' g' ⟨b, hb, hbe⟩ => ⟨g', ?_⟩) fun H' g' ho' hall => ?_
      · rw [decide_eq_false (fun c => (c _ hmem).2 b hb hbe)]
      · rw [w64_succ (by omega)]
        exact ih (m - 1) _ H' (by omega) ⟨i + 1, rfl, by omega, g', ho', forall_take h ht ⟨hno, hall⟩⟩
    refine Ok.pos (by omega) (Ok.ck (by omega) (Ok.ld (hg.ldI (i := i) (j := 0) h rfl) (Ok.ld (hg.ldI (i := i) (j := 1) h rfl) (Ok.ld hE (Ok.ld (ldI_get hE' rfl) (Ok.ld (ldI_get hE' rfl) (Ok.ld (ldI_get hoE rfl) (Ok.ld (ldI_get hoE rfl) ?_))))))))
    rw [keqs_two]
    refine Ok.ite (fun c => go (fun d => d.1 (of_decide_eq_true c))) fun c => ?_
    have hne : l[i] ≠ o := fun e => c (decide_eq_true e)
    refine Ok.ld (ldI_get hE' rfl) (Ok.ld (ldI_get hoE rfl) (Ok.ite (fun c1 => Ok.ld (ldI_get hE' rfl) (Ok.ld (ldI_get hoE rfl) ?_)) fun c1 => go (fun d => c1 d.2.1)))
    by_cases c2 : o.2 ≤ l[i].2
    · rw [decide_eq_true c2]
      unfold r49_j2
      refine Ok.pos rfl (Ok.ret ⟨gB, ?_⟩)
      rw [decide_eq_false (fun c => (c _ hmem).1 ⟨hne, c1, c2⟩)]
    · rw [decide_eq_false c2]
      exact go (fun d => c2 d.2.2)
  · rw [List.take_of_length_le (by omega)] at ht
    exact Ok.neg (by omega) (Ok.ret ⟨g2, by rw [decide_eq_true (show lastP l o from ht)]⟩)
def Best (l : List Pr) (x b : Int) : Prop := (b = -1 ∧ ∀ o ∈ l, o.1 ≠ x) ∨ ((x, b) ∈ l ∧ ∀ o ∈ l, o.1 = x → o.2 ≤ b)
theorem Best.add {l : List Pr} {x b : Int} {i : Nat} (h : i < l.length) (hn : 0 ≤ l[i].2) (hb : Best (l.take i) x b) : Best (l.take (i + 1)) x (if l[i].1 = x then (if b < l[i].2 then l[i].2 else b) else b) := by
  rw [List.take_succ_eq_append_getElem h]
  by_cases e : l[i].1 = x
  · rw [if_pos e]
    right
    rcases hb with ⟨h1, h2⟩ | ⟨h1, h2⟩
    · rw [if_pos (by omega)]
      refine ⟨List.mem_append_right _ (by rw [← e]; exact List.mem_singleton.2 rfl), fun o ho he => ?_⟩
      rcases List.mem_append.1 ho with ho | ho
      · exact absurd he (h2 o ho)
      · rw [List.mem_singleton] at ho; subst ho; omega
    · by_cases c : b < l[i].2
      · rw [if_pos c]
        refine ⟨List.mem_append_right _ (by rw [← e]; exact List.mem_singleton.2 rfl), fun o ho he => ?_⟩
        rcases List.mem_append.1 ho with ho | ho
        · have := h2 o ho he; omega
        · rw [List.mem_singleton] at ho; subst ho; omega
      · rw [if_neg c]
        refine ⟨List.mem_append_left _ h1, fun o ho he => ?_⟩
        rcases List.mem_append.1 ho with ho | ho
        · exact h2 o ho he
        · rw [List.mem_singleton] at ho; subst ho; omega
  · rw [if_neg e]
    rcases hb with ⟨h1, h2⟩ | ⟨h1, h2⟩
    · left
      refine ⟨h1, fun o ho => ?_⟩
      rcases List.mem_append.1 ho with ho | ho
      · exact h2 o ho
      · rw [List.mem_singleton] at ho; subst ho; exact e
    · right
      refine ⟨List.mem_append_left _ h1, fun o ho he => ?_⟩
      rcases List.mem_append.1 ho with ho | ho
      · exact h2 o ho he
      · rw [List.mem_singleton] at ho; subst ho; exact absurd he e
theorem exists_take {α : Type} {l : List α} {i : Nat} {P : α → Prop} (h : i < l.length) : (∃ x ∈ l.take (i + 1), P x) ↔ (∃ x ∈ l.take i, P x) ∨ P l[i] := by
  rw [List.take_succ_eq_append_getElem h]
  constructor
  · rintro ⟨x, hx, hp⟩
    rcases List.mem_append.1 hx with hx | hx
    · exact .inl ⟨x, hx, hp⟩
    · rw [List.mem_singleton] at hx; subst hx; exact .inr hp
  · rintro (⟨x, hx, hp⟩ | hp)
    · exact ⟨x, List.mem_append_left _ hx, hp⟩
    · exact ⟨l[i], List.mem_append_right _ (List.mem_singleton.2 rfl), hp⟩
end Go.Lt.P5

namespace Go.Lt.P5
open Go Go.Lt Go.Proofs
def colD (a o : Pr) (D : List Pr) : Prop := ∃ b ∈ D, col a o b
instance (a o : Pr) (D : List Pr) : Decidable (colD a o D) := by unfold colD; infer_instance
def colA (A : List Pr) (o : Pr) (D : List Pr) : Prop := ∃ a ∈ A, colD a o D
instance (A : List Pr) (o : Pr) (D : List Pr) : Decidable (colA A o D) := by unfold colA; infer_instance
def EI (l : List Pr) (x : Int) (E : List Pr) : Prop := E.Pairwise incP ∧ ∀ o, o ∈ E ↔ (o ∈ l ∧ lastP l o) ∧ o.1 < x
section
variable {Q : Sl → Hp → Prop}
theorem r31_l1_ok {n0 H : Hp} {v w : Sl} {l E : List Pr} {x : Nat} (hv : SL n0 v l) (hl8 : l.length ≤ 8) (hn : ∀ x ∈ l, num x) (hx : x < 31) (hE : EI l x E) (hEl : E.length ≤ x) (g : Gr n0 H) (ha : AccL n0.n H w E)
    {kt0 : Sl → Sl → Int → Hp → Option (Sl × Hp)} (k : ∀ w' H' E', AccL n0.n H' w' E' → Gr n0 H' → EI l (x + 1) E' → E'.length ≤ x + 1 → Ok (kt0 v w' ((x + 1 : Nat) : Int) H') Q) : Ok (r31_l1 kt0 FUEL v w x (-1) x v l.length 0 H) Q := by
  have hlen := hv.len
  refine Ok.loop (L := fun K (s : Int × Int) H2 => r31_l1 kt0 K v w x s.1 x v l.length s.2 H2) (fun m s H' => ∃ i : Nat, s.2 = i ∧ i + m = l.length ∧ Gr n0 H' ∧ AccL n0.n H' w E ∧ Best (l.take i) x s.1) ?_ FUEL l.length (-1, 0) H (by unfold FUEL; omega) ⟨0, rfl, by omega, g, ha, .inl ⟨rfl, by simp⟩⟩
  rintro K m ⟨b, s⟩ H2 ⟨i, rfl, hm, g2, ha2, hb⟩ ih
  try dsimp only at *
  rw [r31_l1]
  by_cases h : i < l.length
  · have hg := hv.gr g2
    have hxi := hn _ (List.getElem_mem h)
    obtain ⟨D, hD, hD', gD, nD⟩ := sts2 H2 (.int .i64 l[i].1) (.int .i64 l[i].2) (.int .i64 0) (.int .i64 0)
    have hb' := hb.add h (by unfold num at hxi; omega)
    refine Ok.pos (by omega) (Ok.ck (by omega) (Ok.ld (hg.ldI (i := i) (j := 0) h rfl) (Ok.ld (hg.ldI (i := i) (j := 1) h rfl) (Ok.ld hD (Ok.ld (ldI_get hD' rfl) ?_)))))
    refine Ok.ite (fun c => Ok.ld (ldI_get hD' rfl) ?_) fun c => ?_
    · rw [if_pos c] at hb'
      rw [w64_succ (by omega)]
      exact ih (m - 1) (_, _) D (by omega) ⟨i + 1, rfl, by omega, g2.trans gD, ha2.gr gD, hb'⟩
    · rw [if_neg c] at hb'
      rw [w64_succ (by omega)]
      exact ih (m - 1) (_, _) D (by omega) ⟨i + 1, rfl, by omega, g2.trans gD, ha2.gr gD, hb'⟩
  · rw [List.take_of_length_le (by omega)] at hb
    have none : ∀ H3, Gr n0 H3 → AccL n0.n H3 w E → (∀ o, o ∈ l → lastP l o → o.1 ≠ x) → Ok (r31_j3 kt0 v w x b x false H3) Q := fun H3 g3 ha3 hno => by
      unfold r31_j3
      refine Ok.neg (by simp) ?_
      rw [w64_succ (by omega)]
      refine k w H3 E ha3 g3 ⟨hE.1, fun o => ?_⟩ (by omega)
      rw [hE.2]
      constructor
      · rintro ⟨h1, h2⟩; exact ⟨h1, by omega⟩
      · rintro ⟨h1, h2⟩; have := hno o h1.1 h1.2; exact ⟨h1, by omega⟩
    refine Ok.neg (by omega) ?_
    rcases hb with ⟨rfl, h2⟩ | ⟨h1, h2⟩
    · exact Ok.neg (by omega) (none H2 g2 ha2 fun o ho _ => h2 o ho)
    · have hnb := hn _ h1
      have uniq : ∀ o, o ∈ l → lastP l o → o.1 = x → o = (↑x, b) := fun o ho hl he => by
        by_cases c : o = (↑x, b)
        · exact c
        · exact absurd ⟨fun e => c e.symm, by rw [he]; exact Int.le_refl _, h2 o ho he⟩ (hl _ h1).1
      refine Ok.pos (by unfold num at hnb; dsimp only at hnb; omega) (Ok.bind (r49_ok (o := (↑x, b)) (hv.gr g2) (by omega) hn hnb) fun r H3 ⟨g3, hr⟩ => ?_)
      subst hr
      have gB := g2.trans g3
      by_cases hl : lastP l (↑x, b)
      · rw [decide_eq_true hl]
        unfold r31_j3
        refine Ok.pos rfl (Ok.bind ((ha2.gr g3).push gB ((x : Int), b) rfl rfl (by omega)) fun w' H4 ⟨ha4, g4, _⟩ => ?_)
        rw [w64_succ (by omega)]
        refine k w' H4 _ ha4 g4 ⟨List.pairwise_append.2 ⟨hE.1, by simp, fun a ha c hc => ?_⟩, fun o => ?_⟩ (by simp; omega)
        · rw [List.mem_singleton] at hc
          subst hc
          exact ((hE.2 a).1 ha).2
        · rw [List.mem_append, List.mem_singleton, hE.2]
          constructor
          · rintro (⟨c1, c2⟩ | rfl)
            · exact ⟨c1, by omega⟩
            · exact ⟨⟨h1, hl⟩, by dsimp only; omega⟩
          · rintro ⟨c1, c2⟩
            by_cases e : o.1 = x
            · exact .inr (uniq o c1.1 c1.2 e)
            · exact .inl ⟨c1, by omega⟩
      · rw [decide_eq_false hl]
        refine none H3 gB (ha2.gr g3) fun o ho hlo e => hl ?_
        rw [← uniq o ho hlo e]
        exact hlo
theorem r31_l5_ok {n0 H : Hp} {v w t u z : Sl} {D L : List Pr} {ob ab : Nat} {o a : Pr} {flag : Bool} {iv ln i0 ln2 i2 : Int} (hz : SL H z D) (hl : D.length ≤ 1000) (hn : ∀ x ∈ D, num x) (ho : num o) (hna : num a) (g : Gr n0 H) (hac : AccL n0.n H w L) (hob : H.get ob = some (.cells [.int .i64 o.1, .int .i64 o.2] false)) (hab : H.get ab = some (.cells [.int .i64 a.1, .int .i64 a.2] false))
    {kt4 : Sl → Sl → Int → Nat → Bool → Sl → Int → Int → Sl → Int → Int → Hp → Option (Sl × Hp)} (k : ∀ H', Gr H H' → Ok (kt4 v w iv ob (flag || decide (colD a o D)) t ln i0 u ln2 (w64 (i2 + 1)) H') Q) : Ok (r31_l5 kt4 FUEL v w iv ob flag ab t ln i0 u ln2 i2 z D.length 0 H) Q := by
  have hlen := hz.len
  refine Ok.loop (L := fun K (s : Bool × Int) H2 => r31_l5 kt4 K v w iv ob s.1 ab t ln i0 u ln2 i2 z D.length s.2 H2) (fun m s H' => ∃ i : Nat, s.2 = i ∧ i + m = D.length ∧ Gr H H' ∧ s.1 = (flag || decide (colD a o (D.take i)))) ?_ FUEL D.length (flag, 0) H (by unfold FUEL; omega) ⟨0, rfl, by omega, .refl _, by simp [colD]⟩
  rintro K m ⟨f, s⟩ H2 ⟨i, rfl, hm, g2, hf⟩ ih
  try dsimp only at *
  subst hf
  rw [r31_l5]
  by_cases h : i < D.length
  · have hg := hz.gr g2
    have hx := hn _ (List.getElem_mem h)
    obtain ⟨E, hE, hE', gE, nE⟩ := sts2 H2 (.int .i64 D[i].1) (.int .i64 D[i].2) (.int .i64 0) (.int .i64 0)
    have gB := g2.trans gE
    have hoE : E.get ob = some (.cells [.int .i64 o.1, .int .i64 o.2] false) := by rw [gB.2 _ (Hp.get_lt hob)]; exact hob
    have haE : E.get ab = some (.cells [.int .i64 a.1, .int .i64 a.2] false) := by rw [gB.2 _ (Hp.get_lt hab)]; exact hab
    have ek : (flag || decide (colD a o (D.take (i + 1)))) = ((flag || decide (colD a o (D.take i))) || decide (col a o D[i])) := by
      rw [Bool.or_assoc]
      congr 1
      rw [← Bool.decide_or]
      exact decide_eq_decide.2 (exists_take h)
    refine Ok.pos (by omega) (Ok.ck (by omega) (Ok.ld (hg.ldI (i := i) (j := 0) h rfl) (Ok.ld (hg.ldI (i := i) (j := 1) h rfl) (Ok.ld hE ?_))))
    refine Ok.ite (fun c => ?_) fun c => ?_
    · rw [w64_succ (by omega)]
      exact ih (m - 1) (true, _) E (by omega) ⟨i + 1, rfl, by omega, gB, by rw [ek, c]; rfl⟩
    · refine Ok.ld (ldI_get hE' rfl) (Ok.ld (ldI_get haE rfl) (Ok.ld (ldI_get hoE rfl) (Ok.ld (ldI_get haE rfl) (Ok.ld (ldI_get hE' rfl) (Ok.ld (ldI_get haE rfl) (Ok.ld (ldI_get hoE rfl) (Ok.ld (ldI_get haE rfl) ?_)))))))
      unfold num at ho hna hx
      have b1 := mul_bd (A := 30) (B := 30) (x := D[i].1 - a.1) (y := o.2 - a.2) (by omega) (by omega) (by omega) (by omega)
      have b2 := mul_bd (A := 30) (B := 30) (x := D[i].2 - a.2) (y := o.1 - a.1) (by omega) (by omega) (by omega) (by omega)
      rw [w64_id (n := D[i].1 - a.1) (by omega) (by omega), w64_id (n := o.2 - a.2) (by omega) (by omega), w64_id (n := D[i].2 - a.2) (by omega) (by omega), w64_id (n := o.1 - a.1) (by omega) (by omega), w64_id (n := (D[i].1 - a.1) * (o.2 - a.2)) (by omega) (by omega), w64_id (n := (D[i].2 - a.2) * (o.1 - a.1)) (by omega) (by omega), w64_succ (by omega)]
      refine ih (m - 1) (_, _) E (by omega) ⟨i + 1, rfl, by omega, gB, ?_⟩
      rw [ek, Bool.eq_false_iff.2 c, Bool.false_or]
      rfl
  · rw [List.take_of_length_le (by omega)]
    exact Ok.neg (by omega) (k H2 g2)
theorem r31_l4_ok {n0 H : Hp} {v w t u : Sl} {E A L : List Pr} {ob : Nat} {o : Pr} {i0 : Nat} {ln i1 : Int} (hv : SL n0 v E) (hu : SL n0 u A) (hl : E.length ≤ 1000) (hla : A.length ≤ 1000) (hnE : ∀ x ∈ E, num x) (hnA : ∀ x ∈ A, num x) (ho : num o) (hi0 : i0 < E.length) (hL : L.length ≤ 1000) (g : Gr n0 H) (hac : AccL n0.n H w L) (hob : H.get ob = some (.cells [.int .i64 o.1, .int .i64 o.2] false))
    {kt2 : Sl → Sl → Sl → Int → Int → Hp → Option (Sl × Hp)} (k : ∀ w' H', Gr n0 H' → AccL n0.n H' w' (L ++ [o].filter fun o => !decide (colA A o (E.drop (i0 + 1)))) → Ok (kt2 v w' t ln (w64 (i1 + 1)) H') Q) : Ok (r31_l4 kt2 FUEL v w i0 ob false t ln i1 u A.length 0 H) Q := by
  have hlen := hu.len
  have hvl := hv.len
  have hvc := hv.cap
  have hvo := hv.opn
  refine Ok.loop (L := fun K (s : Bool × Int) H2 => r31_l4 kt2 K v w i0 ob s.1 t ln i1 u A.length s.2 H2) (fun m s H' => ∃ i : Nat, s.2 = i ∧ i + m = A.length ∧ Gr n0 H' ∧ AccL n0.n H' w L ∧ H'.get ob = some (.cells [.int .i64 o.1, .int .i64 o.2] false) ∧ s.1 = decide (colA (A.take i) o (E.drop (i0 + 1)))) ?_ FUEL A.length (false, 0) H (by unfold FUEL; omega) ⟨0, rfl, by omega, g, hac, hob, by simp [colA]⟩
  rintro K m ⟨f, s⟩ H2 ⟨i, rfl, hm, g2, ha2, hob2, hf⟩ ih
  try dsimp only at *
  subst hf
  rw [r31_l4]
  by_cases h : i < A.length
  · have hg := hu.gr g2
    have hx := hnA _ (List.getElem_mem h)
    obtain ⟨D, hD, hD', gD, nD⟩ := sts2 H2 (.int .i64 A[i].1) (.int .i64 A[i].2) (.int .i64 0) (.int .i64 0)
    have gB := g2.trans gD
    have hoD : D.get ob = some (.cells [.int .i64 o.1, .int .i64 o.2] false) := by rw [gD.2 _ (Hp.get_lt hob2)]; exact hob2
    refine Ok.pos (by omega) (Ok.ck (by omega) (Ok.ld (hg.ldI (i := i) (j := 0) h rfl) (Ok.ld (hg.ldI (i := i) (j := 1) h rfl) (Ok.ld hD ?_))))
    rw [w64_succ (by omega), hvl]
    simp only [Int.toNat_natCast]
    have hs := (hv.gr gB).cut (lo := i0 + 1) (hi := E.length) (by omega) (by omega)
    have hdl : (E.drop (i0 + 1)).take (E.length - (i0 + 1)) = E.drop (i0 + 1) := List.take_of_length_le (by simp)
    rw [hdl] at hs
    have hsl := hs.len
    refine Ok.ck ⟨by omega, hvo⟩ ?_
    have e2 : El.sz Pr = 2 := rfl
    rw [e2] at hs hsl
    rw [hsl]
    refine r31_l5_ok (n0 := n0) (a := A[i]) hs (by rw [List.length_drop]; omega) (fun x hx => hnE x (List.mem_of_mem_drop hx)) ho hx gB (ha2.gr gD) hoD hD' fun H3 g3 => ?_
    rw [w64_succ (by omega)]
    refine ih (m - 1) (_, _) H3 (by omega) ⟨i + 1, rfl, by omega, gB.trans g3, (ha2.gr gD).gr g3, by rw [g3.2 _ (Hp.get_lt hoD)]; exact hoD, ?_⟩
    show (decide (colA (A.take i) o (E.drop (i0 + 1))) || decide (colD A[i] o (E.drop (i0 + 1)))) = decide (colA (A.take (i + 1)) o (E.drop (i0 + 1)))
    rw [← Bool.decide_or]
    exact decide_eq_decide.2 (exists_take (P := fun a => colD a o (E.drop (i0 + 1))) h).symm
  · rw [List.take_of_length_le (by omega)]
    refine Ok.neg (by omega) ?_
    by_cases hb : colA A o (E.drop (i0 + 1))
    · rw [decide_eq_true hb]
      exact Ok.pos rfl (k w H2 g2 (by simpa [hb] using ha2))
    · rw [decide_eq_false hb]
      refine Ok.neg (by simp) (Ok.ld (ldI_get hob2 rfl) (Ok.ld (ldI_get hob2 rfl) (Ok.bind (ha2.push g2 o rfl rfl (by omega)) fun w' H3 ⟨ha3, g3, _⟩ => ?_)))
      refine k w' H3 g3 ?_
      have : ([o].filter fun o => !decide (colA A o (E.drop (i0 + 1)))) = [o] := by rw [List.filter_cons, decide_eq_false hb]; rfl
      rw [this]
      exact ha3
end
theorem r31_ok {H : Hp} {v : Sl} {l : List Pr} (hv : SL H v l) (ho : offP l) : Ok (r31 v H) fun w H' => Gr H H' ∧ ∃ E : List Pr, E.Pairwise incP ∧ (∀ o, o ∈ E ↔ o ∈ l ∧ lastP l o) ∧ SL H' w (E.filter fun o => !decide (betw E o)) := by
  unfold r31
  have hlen := hv.len
  have hl8 := ho.2.1
  refine Ok.loop (L := fun K (s : Sl × Int) H2 => r31_l0 K v s.1 s.2 H2) (fun m s H' => ∃ x : Nat, s.2 = x ∧ x + m = 31 ∧ Gr H H' ∧ ∃ E, AccL H.n H' s.1 E ∧ EI l x E ∧ E.length ≤ x) ?_ FUEL 31 (⟨true, 0, 0, 0, 0, 0⟩, 0) H (by unfold FUEL; omega) ⟨0, rfl, by omega, .refl _, [], AccL.nilS, ⟨by simp, fun o => ?_⟩, by simp⟩
  rotate_left
  · simp only [List.not_mem_nil, false_iff]
    rintro ⟨h1, h2⟩
    have := ho.2.2.1 o h1.1
    unfold num at this
    omega
  rintro K m ⟨w, s⟩ H1 ⟨x, rfl, hm, g1, E, ha, hE, hEl⟩ ih
  try dsimp only at *
  rw [r31_l0]
  by_cases h : x < 31
  · refine Ok.pos (by omega) ?_
    rw [hlen]
    refine r31_l1_ok (n0 := H) hv hl8 ho.2.2.1 h hE hEl g1 ha fun w' H2 E' ha2 g2 hE2 hEl2 => ?_
    exact ih (m - 1) (w', _) H2 (by omega) ⟨x + 1, rfl, by omega, g2, E', ha2, by simpa using hE2, hEl2⟩
  · have hx : x = 31 := by omega
    subst hx
    have hmem : ∀ o, o ∈ E ↔ o ∈ l ∧ lastP l o := fun o => by
      rw [hE.2]
      constructor
      · exact fun c => c.1
      · intro c
        have := ho.2.2.1 o c.1
        unfold num at this
        exact ⟨c, by omega⟩
    refine Ok.neg (by omega) ?_
    have hw := ha.sl
    have hwl := hw.len
    have hwc := hw.cap
    have hwo := hw.opn
    have hnE : ∀ o ∈ E, num o := fun o hoE => ho.2.2.1 o ((hmem o).1 hoE).1
    refine Ok.mono (P := fun u H' => Gr H1 H' ∧ SL H' u (E.filter fun o => !decide (betw E o))) ?_ fun u H' h => ⟨g1.trans h.1, E, hE.1, hmem, h.2⟩
    rw [hwl]
    have hp := hE.1
    refine Ok.loop (L := fun K (s : Sl × Int) H2 => r31_l2 K w s.1 w E.length s.2 H2) (fun m s H' => ∃ i : Nat, s.2 = i ∧ i + m = E.length ∧ Gr H1 H' ∧ AccL H1.n H' s.1 ((E.take i).filter fun o => !decide (betw E o))) ?_ FUEL E.length (⟨true, 0, 0, 0, 0, 0⟩, 0) H1 (by unfold FUEL; omega) ⟨0, rfl, by omega, .refl _, by simpa using AccL.nilS⟩
    rintro K2 m2 ⟨u, s⟩ H2 ⟨i, rfl, hm2, g2, ha2⟩ ih2
    try dsimp only at *
    rw [r31_l2]
    by_cases hi : i < E.length
    · have hg := hw.gr g2
      obtain ⟨D, hD, hD', gD, nD⟩ := sts2 H2 (.int .i64 E[i].1) (.int .i64 E[i].2) (.int .i64 0) (.int .i64 0)
      have hfl := List.length_filter_le (fun o => !decide (betw E o)) (E.take i)
      rw [List.length_take] at hfl
      refine Ok.pos (by omega) (Ok.ck (by omega) (Ok.ld (hg.ldI (i := i) (j := 0) hi rfl) (Ok.ld (hg.ldI (i := i) (j := 1) hi rfl) (Ok.ld hD (Ok.ck ⟨by omega, hwo⟩ ?_)))))
      rw [Int.toNat_natCast, Int.toNat_zero]
      have hs := hw.cut (lo := 0) (hi := i) (by omega) (by omega)
      rw [List.drop_zero, Nat.sub_zero] at hs
      have hsl := hs.len
      have e2 : El.sz Pr = 2 := rfl
      rw [e2] at hs hsl
      rw [hsl]
      refine r31_l4_ok (n0 := H1) (o := E[i]) hw hs (by omega) (by rw [List.length_take]; omega) hnE (fun x hx => hnE x (List.mem_of_mem_take hx)) (hnE _ (List.getElem_mem hi)) hi (by omega) (g2.trans gD) (ha2.gr gD) hD' fun w' H3 g3 ha3 => ?_
      rw [w64_succ (by omega)]
      refine ih2 (m2 - 1) (w', _) H3 (by omega) ⟨i + 1, rfl, by omega, g3, ?_⟩
      rw [List.take_succ_eq_append_getElem hi, List.filter_append]
      have : ([E[i]].filter fun o => !decide (betw E o)) = [E[i]].filter fun o => !decide (colA (E.take i) o (E.drop (i + 1))) := by
        rw [List.filter_cons, List.filter_cons]
        have := betw_iff hp hi
        rw [decide_eq_decide.2 this]
        rfl
      rw [this]
      exact ha3
    · rw [List.take_of_length_le (by omega)] at ha2
      exact Ok.neg (by omega) (Ok.ret ⟨g2, ha2.sl⟩)
end Go.Lt.P5

namespace Go.Lt.P5
open Go Go.Lt Go.Proofs
theorem Cx.but {B H H' : Hp} {E : List (Nat × List AV)} {v : Sl} (c : Cx B H E) (bt : But v H H') (hne : v.nil = false → ∀ p ∈ E, p.1 ≠ v.b) (g : Gr B H') : Cx B H' E :=
  ⟨g, fun p hp => by rw [bt.2 _ (c.lt hp) fun hn => hne hn p hp]; exact c.e p hp, c.nd, c.lo⟩
theorem accl_lt {T : Type} [El T] {n0 : Nat} {H : Hp} {v : Sl} {l : List T} (h : AccL n0 H v l) (hn : v.nil = false) : n0 ≤ v.b ∧ v.b < H.n := by
  rcases h with ⟨rfl, e⟩ | ⟨h1, h2, h3, h4, h5, h6, h7⟩
  · cases hn
  · exact ⟨h5, Hp.get_lt h6⟩
theorem gain_no {d : Pr} {p : Rat × Rat} (h : p.1 - d.1 ≤ 0 ∨ p.2 - d.2 ≤ 0) : ¬ 0 < gainq d p := fun k => by
  obtain ⟨a, b, _⟩ := of_gainq k
  rcases h with h | h <;> grind
theorem less_zero (n m : Int) : Ok (r34 0 0 n m H0) fun r _ => r = false := by
  unfold r34
  refine Ok.lt (Ok.ld rfl (Ok.ld rfl (Ok.ld rfl (Ok.ld rfl (Ok.ret ?_)))))
  rw [Int.zero_mul, Int.mul_zero]
  decide
section
variable {l e : List Pr} {d : Pr} {C : List (Rat × Rat)} {p0 : Rat × Rat}
def PSt (d : Pr) (C : List (Rat × Rat)) : Option (Rat × Rat) → Prop
  | none => ∀ p ∈ C, ¬ 0 < gainq d p
  | some p => p ∈ C ∧ 0 < gainq d p ∧ ∀ p' ∈ C, gainq d p' ≤ gainq d p
theorem r13_l2_ok {B H : Hp} {v1 v2 v3 v4 : Nat} {w : Sl} (hd : num d) (hC : ∀ p ∈ C, qp p) (hlen : C.length ≤ 1000) (hw : SL H w (C.map pt)) (hw3 : w.b ≠ v3) (hw4 : w.b ≠ v4)
    (c : Cx B H [(v4, bst none), (v3, bst4 none), (v2, bst4 none), (v1, pc d)]) (hex : ∃ p ∈ C, 0 < gainq d p) :
    Ok (r13_l2 FUEL v1 v2 v3 v4 w C.length 0 H) fun r H' => Gr B H' ∧ ∃ p, PSt d C (some p) ∧ r = pt p := by
  have hd' := hd
  unfold num at hd'
  have hwl := hw.len
  rw [List.length_map] at hwl
  refine Ok.loop (L := fun K (s : Int) H2 => r13_l2 K v1 v2 v3 v4 w C.length s H2) (fun m s H' => ∃ (i : Nat) (o : Option (Rat × Rat)), s = i ∧ i + m = C.length ∧ Cx B H' [(v4, bst (o.map (gainq d))), (v3, bst4 o), (v2, bst4 none), (v1, pc d)] ∧ SL H' w (C.map pt) ∧ PSt d (C.take i) o) ?_ FUEL C.length 0 H (by unfold FUEL; omega) ⟨0, none, rfl, by omega, c, hw, fun p hp => by simp at hp⟩
  rintro K m s H1 ⟨i, o, rfl, hm, c, hw, hst⟩ ih
  try dsimp only at *
  rw [r13_l2]
  by_cases h : i < C.length
  · have hi : i < (C.map pt).length := by rw [List.length_map]; exact h
    have ee : (C.map pt)[i] = pt C[i] := List.getElem_map ..
    have l0 := hw.ldI (i := i) (j := 0) hi (by rw [ee]; rfl)
    have l1 := hw.ldI (i := i) (j := 1) hi (by rw [ee]; rfl)
    have l2 := hw.ldI (i := i) (j := 2) hi (by rw [ee]; rfl)
    have l3 := hw.ldI (i := i) (j := 3) hi (by rw [ee]; rfl)
    have htk := List.take_succ_eq_append_getElem h
    have hqp := hC _ (List.getElem_mem h)
    have hmC := List.getElem_mem h
    generalize C[i] = p at *
    have qd1 : qb 30 1 (d.1 : Rat) := qb_int (by omega) (by omega) (by decide)
    have qd2 : qb 30 1 (d.2 : Rat) := qb_int (by omega) (by omega) (by decide)
    refine Ok.pos (by omega) (Ok.ck (by omega) (Ok.ld l0 (Ok.ld l1 (Ok.ld l2 (Ok.ld l3 (Ok.alo c fun A gA c => ?_))))))
    refine Ok.cld c (.head _) rfl (Ok.cld c (.head _) rfl (Ok.cld c (.tail _ (.tail _ (.tail _ (.tail _ (.head _))))) rfl (Ok.own (r30_q d.1 H0) fun X => Ok.own (r35_q hqp.1 qd1 (by decide) (by decide) (by decide)) fun X => ?_)))
    refine Ok.cld c (.head _) rfl (Ok.cld c (.head _) rfl (Ok.cld c (.tail _ (.tail _ (.tail _ (.tail _ (.head _))))) rfl (Ok.own (r30_q d.2 H0) fun X => Ok.own (r35_q hqp.2 qd2 (by decide) (by decide) (by decide)) fun X => ?_)))
    have qu := hqp.1.sub qd1
    have qv := hqp.2.sub qd2
    have gA2 : Gr A ((A.push (.cells [.int .i64 0, .int .i64 0] false)).push (.cells [.int .i64 0, .int .i64 0] false)) := (Gr.push _ _).trans (.push _ _)
    refine Ok.cst ((c.push [.int .i64 0, .int .i64 0]).push [.int .i64 0, .int .i64 0]) 1 rfl rfl fun D nD oD c => Ok.cst c 0 rfl rfl fun E nE oE c => ?_
    have hwE : SL E w (C.map pt) := by
      have h0 := hw.gr (gA.trans gA2)
      have hwlt : w.b < A.n := by have := SL.lt hw (by intro q; rw [q] at hi; simp at hi); have := gA.1; omega
      refine (h0.congr (oD _ ?_)).congr (oE _ ?_)
      · exact Nat.ne_of_lt hwlt
      · show w.b ≠ (A.push _).n
        simp; omega
    have wk : ∀ {G : Hp} {o1 o2 z1 z2 z3 : List AV} {b1 b2 b3 : Nat}, Cx B G [(b1, z1), (b2, z2), (b3, z3), (v4, o1), (v3, o2), (v2, bst4 none), (v1, pc d)] → Cx B G [(v4, o1), (v3, o2), (v2, bst4 none), (v1, pc d)] := fun k => k.weak (.cons _ (.cons _ (.cons _ (.refl _))))
    have wk4 : ∀ {G : Hp} {o1 o2 z0 z1 z2 z3 : List AV} {b0 b1 b2 b3 : Nat}, Cx B G [(b0, z0), (b1, z1), (b2, z2), (b3, z3), (v4, o1), (v3, o2), (v2, bst4 none), (v1, pc d)] → Cx B G [(v4, o1), (v3, o2), (v2, bst4 none), (v1, pc d)] := fun k => k.weak (.cons _ (.cons _ (.cons _ (.cons _ (.refl _)))))
    have keep : ∀ {G : Hp}, Cx B G [(v4, bst (o.map (gainq d))), (v3, bst4 o), (v2, bst4 none), (v1, pc d)] → SL G w (C.map pt) → PSt d (C.take (i + 1)) o → Ok (r13_l2 K v1 v2 v3 v4 w C.length (w64 ((i : Int) + 1)) G) fun r H' => Gr B H' ∧ ∃ p, PSt d C (some p) ∧ r = pt p := fun {G} cG hG hs => by
      rw [w64_succ (by omega)]
      exact ih (m - 1) _ G (by omega) ⟨i + 1, o, rfl, by omega, cG, hG, hs⟩
    have no : ¬ 0 < gainq d p → PSt d (C.take (i + 1)) o := fun hg => by
      rw [htk]
      cases o with
      | none =>
        intro x hx
        rcases List.mem_append.1 hx with hx | hx
        · exact hst x hx
        · rw [List.mem_singleton.1 hx]; exact hg
      | some p' =>
        obtain ⟨a1, a2, a3⟩ := hst
        refine ⟨List.mem_append_left _ a1, a2, fun x hx => ?_⟩
        rcases List.mem_append.1 hx with hx | hx
        · exact a3 x hx
        · rw [List.mem_singleton.1 hx]; grind
    have j3t : ¬ 0 < gainq d p → Ok (r13_j3 (fun v1_ v2_ v3_ v4_ v5_ v6_ v7_ H_ => r13_l2 K v1_ v2_ v3_ v4_ v5_ v6_ v7_ H_) v1 v2 v3 v4 H1.n A.n ((A.push (.cells [.int .i64 0, .int .i64 0] false)).n) w C.length i true E) fun r H' => Gr B H' ∧ ∃ p, PSt d C (some p) ∧ r = pt p := fun hg => by
      unfold r13_j3
      exact Ok.pos rfl (keep (wk c) hwE (no hg))
    refine Ok.cld c (.tail _ (.head _)) rfl (Ok.ite (fun hz => ?_) fun hz => ?_)
    · have hz : (fq (p.1 - (d.1 : Rat))).1 ≤ 0 := hz
      exact j3t (gain_no (.inl (by
        have : ¬ 0 < p.1 - (d.1 : Rat) := fun k => by have := fq_num_pos.2 k; omega
        grind)))
    have hz : ¬ (fq (p.1 - (d.1 : Rat))).1 ≤ 0 := hz
    have hu0 : 0 < p.1 - (d.1 : Rat) := fq_num_pos.1 (by omega)
    refine Ok.cld c (.head _) rfl ?_
    by_cases hy : (fq (p.2 - (d.2 : Rat))).1 ≤ 0
    · show Ok (r13_j3 _ _ _ _ _ _ _ _ _ _ _ (decide ((fq (p.2 - (d.2 : Rat))).1 ≤ 0)) _) _
      rw [decide_eq_true hy]
      exact j3t (gain_no (.inr (by
        have : ¬ 0 < p.2 - (d.2 : Rat) := fun k => by have := fq_num_pos.2 k; omega
        grind)))
    show Ok (r13_j3 _ _ _ _ _ _ _ _ _ _ _ (decide ((fq (p.2 - (d.2 : Rat))).1 ≤ 0)) _) _
    rw [decide_eq_false hy]
    have hv0 : 0 < p.2 - (d.2 : Rat) := fq_num_pos.1 (by omega)
    have eg : gainq d p = (p.1 - d.1) * (p.2 - d.2) := gainq_pos (Rat.le_of_lt hu0) (Rat.le_of_lt hv0)
    have hg0 : 0 < gainq d p := by rw [eg]; exact Rat.mul_pos hu0 hv0
    have hgb := gainq_qb hd hqp
    unfold r13_j3
    refine Ok.neg (by simp) (Ok.cld c (.tail _ (.head _)) rfl (Ok.cld c (.tail _ (.head _)) rfl (Ok.cld c (.head _) rfl (Ok.cld c (.head _) rfl (Ok.own (r36_q qu qv (by decide) (by decide)) fun X => ?_)))))
    rw [← eg]
    refine Ok.alo c fun F gF c => ?_
    have hwF := hwE.gr gF
    have j4t : PSt d (C.take (i + 1)) (some p) → Ok (r13_j4 (fun v1_ v2_ v3_ v4_ v5_ v6_ v7_ H_ => r13_l2 K v1_ v2_ v3_ v4_ v5_ v6_ v7_ H_) v1 v2 v3 v4 H1.n E.n w C.length i true F) fun r H' => Gr B H' ∧ ∃ p, PSt d C (some p) ∧ r = pt p := fun hs => by
      unfold r13_j4
      refine Ok.pos rfl (Ok.cld c (.tail _ (.tail _ (.tail _ (.head _)))) rfl (Ok.cld c (.tail _ (.tail _ (.tail _ (.head _)))) rfl (Ok.cld c (.tail _ (.tail _ (.tail _ (.head _)))) rfl (Ok.cld c (.tail _ (.tail _ (.tail _ (.head _)))) rfl (Ok.cld c (.head _) rfl (Ok.cld c (.head _) rfl ?_))))))
      refine Ok.cst c 5 rfl (by rw [bst4_len]; rfl) fun G nG oG cG => Ok.cst cG 4 rfl (by cases o <;> rfl) fun I nI oI cI => Ok.cck cG (.head _) rfl (Ok.cck cG (.head _) rfl ?_)
      rw [w64_succ (by omega)]
      exact ih (m - 1) _ I (by omega) ⟨i + 1, some p, rfl, by omega, wk4 cI, (hwF.congr (oG _ hw3)).congr (oI _ hw4), hs⟩
    cases o with
    | none =>
      refine Ok.cld c (.tail _ (.tail _ (.tail _ (.tail _ (.head _))))) rfl (Ok.cld c (.tail _ (.tail _ (.tail _ (.tail _ (.head _))))) rfl (Ok.cld c (.head _) rfl (Ok.cld c (.head _) rfl (Ok.own (less_zero _ _) fun X => ?_))))
      refine Ok.neg (by simp) (Ok.cld c (.tail _ (.tail _ (.tail _ (.tail _ (.head _))))) rfl ?_)
      rw [decide_eq_true rfl]
      refine j4t ?_
      rw [htk]
      refine ⟨List.mem_append_right _ (List.mem_singleton.2 rfl), hg0, fun x hx => ?_⟩
      rcases List.mem_append.1 hx with hx | hx
      · have := hst x hx; grind
      · rw [List.mem_singleton.1 hx]; exact Rat.le_refl
    | some p' =>
      obtain ⟨a1, a2, a3⟩ := hst
      have hgb' := gainq_qb hd (hC p' (List.mem_of_mem_take a1))
      refine Ok.cld c (.tail _ (.tail _ (.tail _ (.tail _ (.head _))))) rfl (Ok.cld c (.tail _ (.tail _ (.tail _ (.tail _ (.head _))))) rfl (Ok.cld c (.head _) rfl (Ok.cld c (.head _) rfl (Ok.own (r34_q hgb' hgb (by decide) (by decide)) fun X => ?_))))
      by_cases hlt : gainq d p' < gainq d p
      · rw [decide_eq_true hlt]
        refine Ok.pos rfl (j4t ?_)
        rw [htk]
        refine ⟨List.mem_append_right _ (List.mem_singleton.2 rfl), hg0, fun x hx => ?_⟩
        rcases List.mem_append.1 hx with hx | hx
        · have := a3 x hx; grind
        · rw [List.mem_singleton.1 hx]; exact Rat.le_refl
      · rw [decide_eq_false hlt]
        have hden := fq_pos (gainq d p')
        refine Ok.neg (by simp) (Ok.cld c (.tail _ (.tail _ (.tail _ (.tail _ (.head _))))) rfl ?_)
        rw [decide_eq_false (by omega)]
        unfold r13_j4
        refine Ok.neg (by simp) (keep (wk4 c) hwF ?_)
        rw [htk]
        refine ⟨List.mem_append_left _ a1, a2, fun x hx => ?_⟩
        rcases List.mem_append.1 hx with hx | hx
        · exact a3 x hx
        · rw [List.mem_singleton.1 hx]; grind
  · rw [List.take_of_length_le (by omega)] at hst
    refine Ok.neg (by omega) ?_
    cases o with
    | none =>
      obtain ⟨p, hp, hg⟩ := hex
      exact absurd hg (hst p hp)
    | some p =>
      refine Ok.cld c (.tail _ (.head _)) rfl (Ok.cld c (.tail _ (.head _)) rfl (Ok.cld c (.tail _ (.head _)) rfl (Ok.cld c (.tail _ (.head _)) rfl (Ok.cst c 2 rfl rfl fun G nG oG c => ?_))))
      exact Ok.cld c (.tail _ (.tail _ (.head _))) rfl (Ok.cld c (.tail _ (.tail _ (.head _))) rfl (Ok.cld c (.tail _ (.tail _ (.head _))) rfl (Ok.cld c (.tail _ (.tail _ (.head _))) rfl (Ok.ret ⟨c.g, p, hst, rfl⟩))))
end
end Go.Lt.P5

namespace Go.Lt.P5
open Go Go.Lt Go.Proofs
theorem mid_eq {t : Tr} {d : Pr} (h1 : 0 < t.1) (h2 : 0 < t.2.1) : (d.1 : Rat) + dv (restF t d) (2 * t.1) = (midq t d).1 ∧ (d.2 : Rat) + dv (restF t d) (2 * t.2.1) = (midq t d).2 := by
  have key : ∀ (r a x : Int), 0 < a → (x : Rat) + dv r (2 * a) = dv (r + 2 * a * x) (2 * a) := fun r a x ha => by
    have := dv_add (a := x) (b := 1) (c := r) (d := 2 * a) (by decide) (show 0 < 2 * a by omega)
    rw [dv_int, Int.one_mul, Int.mul_one] at this
    rw [← this]
    congr 1
    rw [Int.add_comm, Int.mul_comm x]
  exact ⟨key _ _ _ h1, key _ _ _ h2⟩
section
variable {l e : List Pr} {d : Pr}
theorem cands_pos {e : List Pr} (h : e ≠ []) : candsP e d e.length ≠ [] := by
  match e, h with
  | a :: r, _ =>
    intro q
    have : cornerQ (at' (a :: r) 0) ∈ candsP (a :: r) d (a :: r).length := List.mem_flatMap.2 ⟨0, List.mem_range.2 (by simp), by unfold candP; simp⟩
    rw [q] at this
    cases this
theorem candP_len (e : List Pr) (d : Pr) (i : Nat) : (candP e d i).length ≤ 2 := by
  unfold candP
  split <;> simp
theorem cands_len (e : List Pr) (d : Pr) : ∀ n, (candsP e d n).length ≤ 2 * n
  | 0 => by simp [candsP]
  | n + 1 => by
    rw [candsP_succ, List.length_append]
    have := cands_len e d n
    have := candP_len e d n
    omega
theorem r13_l0_ok {B H : Hp} {v1 v2 : Nat} {w : Sl} (ho : offP l) (hE : EdgeP l e) (hd : num d) (hri : ∀ t ∈ linesF e, 0 < restF t d) (hw : SL H w e) (c : Cx B H [(v2, bst4 none), (v1, pc d)])
    (hex : ∃ p ∈ candsP e d e.length, 0 < gainq d p) :
    Ok (r13_l0 FUEL v1 v2 w ⟨true, 0, 0, 0, 0, 0⟩ w e.length 0 H) fun r H' => Gr B H' ∧ ∃ p, PSt d (candsP e d e.length) (some p) ∧ r = pt p := by
  have hd' := hd
  unfold num at hd'
  have hwl := hw.len
  have h8 := hE.le
  have hl8 := ho.2.1
  have c0 := c
  refine Ok.loop (L := fun K (s : Sl × Int) H2 => r13_l0 K v1 v2 w s.1 w e.length s.2 H2) (fun m s H' => ∃ i : Nat, s.2 = i ∧ i + m = e.length ∧ Gr H H' ∧ AccL H.n H' s.1 ((candsP e d i).map pt)) ?_ FUEL e.length (⟨true, 0, 0, 0, 0, 0⟩, 0) H (by unfold FUEL; omega) ⟨0, rfl, by omega, .refl _, by simpa [candsP] using AccL.nilS⟩
  rintro K m ⟨u, s⟩ H1 ⟨i, rfl, hm, g1, ha⟩ ih
  try dsimp only at *
  rw [r13_l0]
  have c := c0.gr g1
  have hlc := cands_len e d i
  by_cases h : i < e.length
  · have hmem := hE.mem i h
    have hnx := ho.2.2.1 _ hmem
    have hnx' := hnx
    unfold num at hnx'
    have L1 : ∀ (j : Nat) X, j < e.length → Gr H X → X.ldI .i64 w.b (w.o + j * 2) = some (at' e j).1 := fun j X hj gX => by rw [← at_eq hj]; exact (hw.gr gX).ldI (i := j) (j := 0) hj rfl
    have L2 : ∀ (j : Nat) X, j < e.length → Gr H X → X.ldI .i64 w.b (w.o + j * 2 + 1) = some (at' e j).2 := fun j X hj gX => by rw [← at_eq hj]; exact (hw.gr gX).ldI (i := j) (j := 1) hj rfl
    refine Ok.pos (by omega) (Ok.ck (by omega) (Ok.ld (L1 i _ h g1) (Ok.ld (L2 i _ h g1) (Ok.alo c fun A gA c => Ok.cld c (.head _) rfl (Ok.cld c (.head _) rfl (Ok.own (r28_q _ _ H0) fun X => ?_))))))
    have gHA := g1.trans gA
    refine Ok.bind (AccL.push (ha.gr gA) gHA (pt (cornerQ (at' e i))) rfl rfl (by rw [List.length_map]; omega)) fun u2 D ⟨ha2, gD, bt, _, _⟩ => ?_
    have c := Cx.but c bt (fun hn p hp => by
      have hlt := accl_lt ha hn
      rcases List.mem_cons.1 hp with rfl | hp
      · show H1.n ≠ u.b; omega
      · have := c0.lt hp; omega) (c0.g.trans gD)
    refine Ok.ite (fun h0 => ?_) fun h0 => ?_
    · rw [w64_succ (by omega)]
      refine ih (m - 1) (u2, _) D (by omega) ⟨i + 1, rfl, by omega, gD, ?_⟩
      have hi0 : i = 0 := by omega
      subst hi0
      have : candP e d 0 = [cornerQ (at' e 0)] := by unfold candP; rw [if_neg (by omega)]
      rw [candsP_succ, List.map_append, this]
      exact ha2
    have h0' : 0 < i := by omega
    obtain ⟨hil, hie⟩ := lineF_at h0' h
    have hr1 := hri _ (List.getElem_mem hil)
    have hlb1 := (hE.lines ho).2 _ (List.getElem_mem hil)
    rw [hie] at hr1 hlb1
    have hstp := hE.step (i - 1) (by omega)
    rw [show i - 1 + 1 = i by omega] at hstp
    have hnu := ho.2.2.1 _ (hE.mem (i - 1) (by omega))
    have hnu' := hnu
    unfold num at hnu'
    obtain ⟨_, hpa, hpb⟩ := lineB_lb hnu hnx hstp.1 hstp.2
    have e1 : (w64 ((i : Int) - 1)).toNat = i - 1 := by rw [w64_id (by omega) (by omega)]; omega
    have f1 : w64 ((i : Int) - 1) = ((i - 1 : Nat) : Int) := by rw [w64_id (by omega) (by omega)]; omega
    rw [e1, f1]
    refine Ok.ck (by omega) (Ok.ld (L1 (i - 1) _ (by omega) gD) (Ok.ld (L2 (i - 1) _ (by omega) gD) (Ok.alo c fun E gE c => ?_)))
    have hrb := rest_bd hlb1 hd
    have hmq := mid_qp hlb1 hpa hpb hd hr1
    obtain ⟨me1, me2⟩ := mid_eq (d := d) hpa hpb
    have hc1 : okM (lineB (at' e (i - 1)) (at' e i)) d (at' e (i - 1)) (at' e i) → candP e d i = [cornerQ (at' e i), midq (lineB (at' e (i - 1)) (at' e i)) d] := fun q => by
      unfold candP
      rw [if_pos ⟨h0', q⟩]
    have hc2 : ¬ okM (lineB (at' e (i - 1)) (at' e i)) d (at' e (i - 1)) (at' e i) → candP e d i = [cornerQ (at' e i)] := fun q => by
      unfold candP
      rw [if_neg (fun z => q z.2)]
    have hlb2 := hlb1
    unfold lb at hlb2
    have et1 : (lineB (at' e (i - 1)) (at' e i)).1 = (at' e (i - 1)).2 - (at' e i).2 := rfl
    have et2 : (lineB (at' e (i - 1)) (at' e i)).2.1 = (at' e i).1 - (at' e (i - 1)).1 := rfl
    have et3 : restF (lineB (at' e (i - 1)) (at' e i)) d = ((at' e (i - 1)).2 - (at' e i).2) * (at' e i).1 + ((at' e i).1 - (at' e (i - 1)).1) * (at' e i).2 - ((at' e (i - 1)).2 - (at' e i).2) * d.1 - ((at' e i).1 - (at' e (i - 1)).1) * d.2 := rfl
    rw [et1, et2] at hlb2
    rw [et1] at me1
    rw [et2] at me2
    rw [et1] at hpa
    rw [et2] at hpb
    have okd : okM (lineB (at' e (i - 1)) (at' e i)) d (at' e (i - 1)) (at' e i) ↔ ((at' e (i - 1)).1 : Rat) ≤ (midq (lineB (at' e (i - 1)) (at' e i)) d).1 ∧ (midq (lineB (at' e (i - 1)) (at' e i)) d).1 ≤ ((at' e i).1 : Rat) := Iff.rfl
    have ha2' := ha2.gr gE
    have gHE := gD.trans gE
    generalize hT : midq (lineB (at' e (i - 1)) (at' e i)) d = M at *
    generalize hR : restF (lineB (at' e (i - 1)) (at' e i)) d = R at *
    generalize hO : okM (lineB (at' e (i - 1)) (at' e i)) d (at' e (i - 1)) (at' e i) = O at *
    generalize at' e (i - 1) = y at *
    generalize at' e i = x at *
    refine Ok.cld c (.head _) rfl (Ok.cld c (.tail _ (.head _)) rfl (Ok.cld c (.tail _ (.head _)) rfl (Ok.cld c (.head _) rfl (Ok.cld c (.tail _ (.head _)) rfl (Ok.cld c (.tail _ (.head _)) rfl (Ok.cld c (.tail _ (.tail _ (.tail _ (.head _)))) rfl (Ok.cld c (.tail _ (.tail _ (.tail _ (.head _)))) rfl (Ok.cld c (.tail _ (.tail _ (.tail _ (.head _)))) rfl (Ok.own (r30_q d.1 H0) fun X => ?_)))))))))
    have b1 := mul_bd (A := 30) (B := 30) (x := y.2 - x.2) (y := x.1) (by omega) (by omega) (by omega) (by omega)
    have b2 := mul_bd (A := 30) (B := 30) (x := x.1 - y.1) (y := x.2) (by omega) (by omega) (by omega) (by omega)
    have b3 := mul_bd (A := 30) (B := 30) (x := y.2 - x.2) (y := d.1) (by omega) (by omega) (by omega) (by omega)
    have b4 := mul_bd (A := 30) (B := 30) (x := x.1 - y.1) (y := d.2) (by omega) (by omega) (by omega) (by omega)
    rw [w64_id (n := y.2 - x.2) (by omega) (by omega), w64_id (n := x.1 - y.1) (by omega) (by omega), w64_id (n := (y.2 - x.2) * x.1) (by omega) (by omega), w64_id (n := (x.1 - y.1) * x.2) (by omega) (by omega), w64_id (n := (y.2 - x.2) * d.1) (by omega) (by omega), w64_id (n := (x.1 - y.1) * d.2) (by omega) (by omega), w64_id (n := (y.2 - x.2) * x.1 + (x.1 - y.1) * x.2) (by omega) (by omega), w64_id (n := (y.2 - x.2) * x.1 + (x.1 - y.1) * x.2 - (y.2 - x.2) * d.1) (by omega) (by omega), w64_id (n := (y.2 - x.2) * x.1 + (x.1 - y.1) * x.2 - (y.2 - x.2) * d.1 - (x.1 - y.1) * d.2) (by omega) (by omega), w64_id (n := 2 * (y.2 - x.2)) (by omega) (by omega), w64_id (n := 2 * (x.1 - y.1)) (by omega) (by omega), ← et3]
    have qd1 : qb 30 1 (d.1 : Rat) := qb_int (by omega) (by omega) (by decide)
    have qd2 : qb 30 1 (d.2 : Rat) := qb_int (by omega) (by omega) (by decide)
    have q1 : qb 1800 60 (dv R (2 * (y.2 - x.2))) := qb_dv (by omega) (by omega) (by omega) (by omega)
    have q2 : qb 1800 60 (dv R (2 * (x.1 - y.1))) := qb_dv (by omega) (by omega) (by omega) (by omega)
    refine Ok.own (r33_q (by omega) (by omega) (by omega) H0) fun X => Ok.own (r32_q qd1 q1 (by decide) (by decide) (by decide)) fun X => ?_
    refine Ok.cld c (.tail _ (.tail _ (.tail _ (.head _)))) rfl (Ok.own (r30_q d.2 H0) fun X => Ok.own (r33_q (by omega) (by omega) (by omega) H0) fun X => Ok.own (r32_q qd2 q2 (by decide) (by decide) (by decide)) fun X => ?_)
    rw [me1, me2]
    refine Ok.alo c fun F gF c => ?_
    have gHF := gHE.trans gF
    have qy : qb 30 1 (y.1 : Rat) := qb_int (by omega) (by omega) (by decide)
    have qx : qb 30 1 (x.1 : Rat) := qb_int (by omega) (by omega) (by decide)
    have next : ∀ {t : Bool}, (t = true ↔ O) → Ok (r13_j1 (fun v1_ v2_ v3_ v4_ v5_ v6_ v7_ H_ => r13_l0 K v1_ v2_ v3_ v4_ v5_ v6_ v7_ H_) v1 v2 w u2 E.n w e.length i t F) fun r H' => Gr B H' ∧ ∃ p, PSt d (candsP e d e.length) (some p) ∧ r = pt p := fun {t} ht => by
      unfold r13_j1
      rw [w64_succ (by omega)]
      cases t with
      | true =>
        refine Ok.pos rfl (Ok.cld c (.head _) rfl (Ok.cld c (.head _) rfl (Ok.cld c (.head _) rfl (Ok.cld c (.head _) rfl ?_))))
        refine Ok.bind (AccL.push (ha2'.gr gF) gHF (pt M) rfl rfl (by rw [List.length_append, List.length_map]; simp; omega)) fun u3 G ⟨ha3, gG, _⟩ => ?_
        refine ih (m - 1) (u3, _) G (by omega) ⟨i + 1, rfl, by omega, gG, ?_⟩
        rw [candsP_succ, List.map_append, hc1 (ht.1 rfl)]
        rw [List.append_assoc] at ha3
        exact ha3
      | false =>
        refine Ok.neg (by simp) (ih (m - 1) (u2, _) F (by omega) ⟨i + 1, rfl, by omega, gHF, ?_⟩)
        rw [candsP_succ, List.map_append, hc2 (fun q => by cases ht.2 q)]
        exact ha2'.gr gF
    refine Ok.cld c (.head _) rfl (Ok.cld c (.head _) rfl (Ok.cld c (.tail _ (.head _)) rfl (Ok.own (r30_q y.1 H0) fun X => Ok.own (r34_q hmq.2.2.1 qy (by decide) (by decide)) fun X => ?_)))
    by_cases k1 : M.1 < (y.1 : Rat)
    · rw [decide_eq_true k1]
      exact Ok.pos rfl (next ⟨fun q => (by cases q), fun q => by have := (okd.1 q).1; grind⟩)
    rw [decide_eq_false k1]
    refine Ok.neg (by simp) (Ok.cld c (.tail _ (.tail _ (.head _))) rfl (Ok.own (r30_q x.1 H0) fun X => Ok.cld c (.head _) rfl (Ok.cld c (.head _) rfl (Ok.own (r34_q qx hmq.2.2.1 (by decide) (by decide)) fun X => ?_))))
    refine next ?_
    rw [okd]
    by_cases k2 : (x.1 : Rat) < M.1
    · simp [k2]; intro _; grind
    · simp [k2]; constructor <;> grind
  · have hi : i = e.length := by omega
    subst hi
    refine Ok.neg (by omega) (Ok.box c fun A gA c => Ok.box c fun D gD c => ?_)
    have hne := cands_pos (d := d) (show e ≠ [] by obtain ⟨p, hp, _⟩ := hex; rintro rfl; simp [candsP] at hp)
    have hs := (ha.gr (gA.trans gD)).sl
    have hs0 := ha.sl
    have hlt := SL.lt hs0 (by simpa using hne)
    have hlen := hs.len
    rw [List.length_map] at hlen
    rw [hlen]
    refine r13_l2_ok hd (fun p hp => (cand_reg ho hE hd hri hp).2) (by omega) hs (by omega) (by have := gA.1; omega) c hex
end
section
variable {l : List Pr} {d : Pr} {H : Hp} {s : Sl}
theorem r13_ok (hs : SL H s l) (ho : offP l) (hd : num d) (hrm : roomP l d) : Ok (r13 s d.1 d.2 H) fun r H' => Gr H H' ∧ ∃ p, IsProd l d p ∧ r = pt p := by
  unfold r13
  refine Ok.box2 (.nil H) fun A gA c => Ok.bind (r31_ok (hs.gr gA) ho) fun w D ⟨gD, E, hi, hEm, hw⟩ => ?_
  have c := c.gr gD
  obtain ⟨q, hp, hq⟩ := sorted_perm hs ho
  have hc := chain_ok hq
  have heq := edge_eq hp hc (hc.ne (perm_ne ho hp)) hi hEm
  rw [← heq] at hw
  have hE := edgeP ho hp hq
  have hlr := fun x y => lines_reg (x := x) (y := y) hp hq (perm_ne ho hp)
  have hri := (room_iff (d := d) hlr (hE.lines ho).2).2 hrm
  obtain ⟨p0, _, hP, hqp, hp0, hg0, hmx⟩ := prod_ok ho hE hd hlr hrm
  rw [hw.len]
  refine Ok.mono (r13_l0_ok ho hE hd hri hw c ⟨p0, hp0, hg0⟩) fun r H' ⟨g, p, ⟨a1, a2, a3⟩, hr⟩ => ⟨g, p, ?_, hr⟩
  have e : gainq d p = gainq d p0 := Rat.le_antisymm (hmx p a1) (a3 p0 hp0)
  obtain ⟨b1, b2, b3⟩ := of_gainq a2
  obtain ⟨c1, c2, c3⟩ := of_gainq hg0
  refine ⟨(cand_reg ho hE hd hri a1).1, by grind, by grind, fun x y h1 h2 h3 => ?_⟩
  rw [← b3, e, c3]
  exact hP.max x y h1 h2 h3
end
end Go.Lt.P5

namespace Go.Lt.P5
open Go Go.Lt Go.Proofs
theorem qp_bd {l : List Pr} {d : Pr} {p : Rat × Rat} (ho : offP l) (hd : num d) (h : IsProd l d p) (hq : qp p) : bdP p := by
  have h1 := hq.1.2.2
  have h2 := hq.2.2.2
  exact bd_of ho hd ⟨h.reg, h.x, h.y⟩ (by omega) (by omega)
section
variable {k : Nat} {H : Hp} {v : Sl} {l : List Pr} {d : Pr}
theorem r4_ok (hv : SL H v l) (hb : l.length ≤ 1000) : Ok (r4 (appA (k + 3)) v d.1 d.2 H) fun r H' => Gr H H' ∧ RuleP (fun p => IsProd l d p ∧ (fq p.1).2 ≤ 60 ∧ (fq p.2).2 ≤ 60) l d r := by
  unfold r4
  refine Ok.box2 (.nil H) fun A gA c => ?_
  refine Ok.cld c (.tail _ (.head _)) rfl (Ok.cld c (.tail _ (.head _)) rfl (Ok.bind (r16_ok (k := k + 1) (d := d) (hv.gr gA) hb) fun r B ⟨gB, hr⟩ => ?_))
  have c := c.gr gB
  have bad : ∀ e : Int, RuleP (fun p => IsProd l d p ∧ (fq p.1).2 ≤ 60 ∧ (fq p.2).2 ≤ 60) l d (0, 0, 0, 0, e) → Ok ((B.sts ((H.push (.cells [.int .i64 d.1, .int .i64 d.2] false)).n) 0 [.int .i64 0, .int .i64 0, .int .i64 0, .int .i64 0]).bind fun H6 =>
      (H6.ldI .i64 ((H.push (.cells [.int .i64 d.1, .int .i64 d.2] false)).n) 0).bind fun x7 =>
      (H6.ldI .i64 ((H.push (.cells [.int .i64 d.1, .int .i64 d.2] false)).n) (0 + 1)).bind fun x8 =>
      (H6.ldI .i64 ((H.push (.cells [.int .i64 d.1, .int .i64 d.2] false)).n) (0 + 2)).bind fun x9 =>
      (H6.ldI .i64 ((H.push (.cells [.int .i64 d.1, .int .i64 d.2] false)).n) (0 + 3)).bind fun x10 =>
      some ((x7, x8, x9, x10, e), H6)) fun r H' => Gr H H' ∧ RuleP (fun p => IsProd l d p ∧ (fq p.1).2 ≤ 60 ∧ (fq p.2).2 ≤ 60) l d r := fun e hR => by
    refine Ok.cst c 0 rfl rfl fun C _ _ c => ?_
    exact Ok.cld c (.head _) rfl (Ok.cld c (.head _) rfl (Ok.cld c (.head _) rfl (Ok.cld c (.head _) rfl (Ok.ret ⟨c.g, hR⟩))))
  rcases hr with ⟨ho, hd, hrm, rfl⟩ | ⟨ho, hd, hrm, rfl⟩ | ⟨hno, rfl⟩
  · refine Ok.neg (by simp) (Ok.bind (r17_ok (k := k + 1) (hv.gr c.g) ho) fun w C ⟨gC, q, hp, hs, hw⟩ => ?_)
    have hE := edgeP ho hp hs
    have c := c.gr gC
    have hwlt := SL.lt hw (by have := hE.pos; intro e; rw [e] at this; simp at this)
    refine Ok.box c fun D gD c => Ok.own (r18_int (a := -1) (by decide) H0) fun X => Ok.alo c fun E gE c => ?_
    dsimp only
    rw [hw.len]
    have hlr := fun x y => lines_reg (x := x) (y := y) hp hs (perm_ne ho hp)
    refine Ok.mono (r4_l0_ok (k := k) hv ho hd hrm hp hs rfl hE (hw.gr (gD.trans gE)) (by have := gD.1; omega) (by omega) c) fun r H' ⟨g, o, g', h1, h2⟩ => ⟨g, ?_⟩
    obtain ⟨p, h3, h4, h5, _⟩ := prod_ok ho hE hd hlr hrm
    rw [h3] at h1
    injection h1 with h1 h6
    exact .inl ⟨ho, hd, hrm, p, ⟨h4, h5.1.2.2, h5.2.2.2⟩, qp_bd ho hd h4 h5, h2 p h1.symm⟩
  · exact Ok.pos (show (4 : Int) ≠ 0 by decide) (bad 4 (.inr (.inl ⟨ho, hd, hrm, rfl⟩)))
  · exact Ok.pos (show (2 : Int) ≠ 0 by decide) (bad 2 (.inr (.inr ⟨hno, rfl⟩)))
end
end Go.Lt.P5

namespace Go.Lt.P5
open Go Go.Lt Go.Proofs
theorem r9_spec (a b : Int) (H : Hp) : ∃ H', r9 a b H = some (decide (num (a, b)), H') := by
  have hg : (H.push (.cells [.int .i64 a, .int .i64 b] false)).get H.n = some (.cells [.int .i64 a, .int .i64 b] false) := by simp
  have h0 : (H.push (.cells [.int .i64 a, .int .i64 b] false)).ldI .i64 H.n (0 + (0 : Int).toNat * 1) = some a := ldI_get hg rfl
  have h1 : (H.push (.cells [.int .i64 a, .int .i64 b] false)).ldI .i64 H.n (0 + (1 : Int).toNat * 1) = some b := ldI_get hg rfl
  refine ⟨H.push (.cells [.int .i64 a, .int .i64 b] false), ?_⟩
  unfold r9
  simp only [lt, h0, h1, Option.bind_some]
  unfold num
  by_cases c1 : 0 ≤ a <;> by_cases c2 : a ≤ 30 <;> by_cases c3 : 0 ≤ b <;> simp [c1, c2, c3]
theorem r8_ok {H : Hp} {v : Sl} {l : List Pr} (hv : SL H v l) (hb : l.length < 9223372036854775808) : Ok (r8 v H) fun r H' => Gr H H' ∧ r = decide (offP l) := by
  unfold r8
  have hlen := hv.len
  have hcap := hv.cap
  have hopn := hv.opn
  rw [hlen]
  refine Ok.loop (L := fun K (s : Int) H2 => r8_l0 K v v l.length s H2) (fun m s H' => Gr H H' ∧ ∃ i : Nat, s = i ∧ i + m = l.length ∧ (∀ x ∈ l.take i, num x) ∧ (l.take i).Nodup) ?_ FUEL l.length 0 H (by unfold FUEL; omega) ⟨.refl _, 0, rfl, by omega, by simp, by simp⟩
  rintro K m s H1 ⟨g1, i, rfl, hm, hn, hd⟩ ih
  try dsimp only at *
  rw [r8_l0]
  by_cases h : i < l.length
  · have hg := hv.gr g1
    obtain ⟨D, hD, hD', gD, nD⟩ := sts2 H1 (.int .i64 l[i].1) (.int .i64 l[i].2) (.int .i64 0) (.int .i64 0)
    have gB := g1.trans gD
    have hgD := hv.gr gB
    obtain ⟨X, hX⟩ := r9_spec l[i].1 l[i].2 H0
    have hmem : l[i] ∈ l := List.getElem_mem h
    refine Ok.pos (by omega) (Ok.ck (by omega) (Ok.ld (hg.ldI (i := i) (j := 0) h rfl) (Ok.ld (hg.ldI (i := i) (j := 1) h rfl) (Ok.ld hD (Ok.ld (ldI_get hD' rfl) (Ok.ld (ldI_get hD' rfl) (Ok.ld hX ?_)))))))
    refine Ok.ite (fun hc => ?_) fun hc => Ok.ret ⟨gB, by rw [decide_eq_false (fun ho => hc (decide_eq_true (ho.2.2.1 _ hmem)))]⟩
    have hnum : num l[i] := of_decide_eq_true hc
    refine Ok.ck ⟨by omega, hopn⟩ ?_
    simp only [Int.toNat_natCast, Int.toNat_zero]
    have hs := hgD.cut (lo := 0) (hi := i) (by omega) (by omega)
    rw [List.drop_zero, Nat.sub_zero] at hs
    have hsl := hs.len
    rw [List.length_take, Nat.min_eq_left (by omega)] at hsl
    try dsimp only at hsl
    have hbn : H1.n < D.n := by rw [nD]; omega
    show Ok (r8_l1 _ FUEL v H1.n v l.length i (v.cut 2 0 i) ((v.cut 2 0 i).len : Int) 0 D) _
    rw [show (v.cut 2 0 i).len = i from hsl]
    generalize hw : v.cut 2 0 i = w at *
    refine Ok.loop (L := fun K2 (s : Int) H2 => r8_l1 (fun v1_ v2_ v3_ v4_ H_ => r8_l0 K v1_ v2_ v3_ v4_ H_) K2 v H1.n v l.length i w i s H2) (fun m s H' => Gr D H' ∧ ∃ j : Nat, s = j ∧ j + m = i ∧ l[i] ∉ l.take j) ?_ FUEL i 0 D (by unfold FUEL; omega) ⟨.refl _, 0, rfl, by omega, by simp⟩
    rintro K2 m2 s H2 ⟨g2, j, rfl, hm2, hnot⟩ ih2
    try dsimp only at *
    rw [r8_l1]
    have hD2 : H2.get H1.n = some (.cells [.int .i64 l[i].1, .int .i64 l[i].2] false) := by rw [g2.2 _ (by omega)]; exact hD'
    by_cases hj : j < i
    · have hjl : j < (l.take i).length := by rw [List.length_take]; omega
      have hs2 := hs.gr g2
      have eg : (l.take i)[j] = l[j] := by rw [List.getElem_take]
      obtain ⟨E, hE, hE', gE, nE⟩ := sts2 H2 (.int .i64 l[j].1) (.int .i64 l[j].2) (.int .i64 0) (.int .i64 0)
      have hD3 : E.get H1.n = some (.cells [.int .i64 l[i].1, .int .i64 l[i].2] false) := by rw [gE.2 _ (Hp.get_lt hD2)]; exact hD2
      refine Ok.pos (by omega) (Ok.ck (by omega) (Ok.ld (hs2.ldI (i := j) (j := 0) (n := l[j].1) hjl (by rw [eg]; rfl)) (Ok.ld (hs2.ldI (i := j) (j := 1) (n := l[j].2) hjl (by rw [eg]; rfl)) (Ok.ld hE (Ok.ld (ldI_get hD3 rfl) (Ok.ld (ldI_get hD3 rfl) (Ok.ld (ldI_get hE' rfl) (Ok.ld (ldI_get hE' rfl) ?_))))))))
      rw [keqs_two]
      refine Ok.ite (fun hc => ?_) fun hc => ?_
      · have he : l[i] = l[j] := of_decide_eq_true hc
        refine Ok.ret ⟨gB.trans (g2.trans gE), ?_⟩
        rw [decide_eq_false]
        intro ho
        exact List.pairwise_iff_getElem.1 ho.2.2.2 j i (by omega) h hj he.symm
      · rw [w64_succ (by omega)]
        refine ih2 (m2 - 1) _ _ (by omega) ⟨g2.trans gE, j + 1, rfl, by omega, ?_⟩
        rw [List.take_succ_eq_append_getElem (by omega), List.mem_append]
        rintro (c | c)
        · exact hnot c
        · rw [List.mem_singleton] at c
          exact hc (decide_eq_true c)
    · have : j = i := by omega
      subst this
      refine Ok.neg (by omega) ?_
      rw [w64_succ (by omega)]
      refine ih (m - 1) _ _ (by omega) ⟨gB.trans g2, j + 1, rfl, by omega, ?_, ?_⟩
      · rw [List.take_succ_eq_append_getElem h]
        intro x hx
        rcases List.mem_append.1 hx with hx | hx
        · exact hn x hx
        · rw [List.mem_singleton] at hx; subst hx; exact hnum
      · rw [List.take_succ_eq_append_getElem h]
        refine List.nodup_append.2 ⟨hd, by simp, fun x hx y hy e => ?_⟩
        rw [List.mem_singleton] at hy
        subst hy; subst e
        exact hnot hx
  · rw [List.take_of_length_le (by omega)] at hn hd
    refine Ok.neg (by omega) (Ok.ite (fun h1 => Ok.ret ⟨g1, decide_eq_decide.2 ⟨fun h8 => ⟨by omega, by omega, hn, hd⟩, fun ho => by have := ho.2.1; omega⟩⟩) fun h1 => Ok.ret ⟨g1, by rw [decide_eq_false (fun ho => by have := ho.1; omega)]⟩)
end Go.Lt.P5
