/- PLAIN LAWS OF WHAT IS COMPUTED, for the statement 'DealsEdges'. Nothing is asked of the input. -/
import Derived.Test.YtficeemoekikdaaU6VRe
set_option linter.unusedVariables false
set_option linter.unusedSimpArgs false
namespace Go.Lt.P5
open Go Go.Lt Go.Proofs
def colD (a o : Pr) (D : List Pr) : Prop := ∃ b ∈ D, col a o b
instance (a o : Pr) (D : List Pr) : Decidable (colD a o D) := by unfold colD; infer_instance
def colA (A : List Pr) (o : Pr) (D : List Pr) : Prop := ∃ a ∈ A, colD a o D
instance (A : List Pr) (o : Pr) (D : List Pr) : Decidable (colA A o D) := by unfold colA; infer_instance
/-- what the reference's first loop has found -/
def EI (l : List Pr) (x : Int) (E : List Pr) : Prop := E.Pairwise incP ∧ ∀ o, o ∈ E ↔ (o ∈ l ∧ lastP l o) ∧ o.1 < x
section
variable {Q : Sl → Hp → Prop}
theorem r31_l1_ok {n0 H : Hp} {v w : Sl} {l E : List Pr} {x : Nat} (hv : SL n0 v l) (hl8 : l.length ≤ 8) (hn : ∀ x ∈ l, num x) (hx : x < 31) (hE : EI l x E) (hEl : E.length ≤ x) (g : Gr n0 H) (ha : AccL n0.n H w E)
    {kt0 : Sl → Sl → Int → Hp → Option (Sl × Hp)} (k : ∀ w' H' E', AccL n0.n H' w' E' → Gr n0 H' → EI l (x + 1) E' → E'.length ≤ x + 1 → Ok (kt0 v w' ((x + 1 : Nat) : Int) H') Q) : Ok (r31_l1 kt0 FUEL v w x (-1) x v l.length 0 H) Q := by
  have hlen := hv.len
  refine Ok.loop (L := fun K (s : Int × Int) H2 => r31_l1 kt0 K v w x s.1 x v l.length s.2 H2) (fun m s H' => ∃ i : Nat, s.2 = i ∧ i + m = l.length ∧ Gr n0 H' ∧ AccL n0.n H' w E ∧ Best (l.take i) x s.1) ?_ FUEL l.length (-1, 0) H (by unfold FUEL; omega) ⟨0, rfl, by omega, g, ha, .inl ⟨rfl, by simp⟩⟩
  rintro K m ⟨b, s⟩ H2 ⟨i, rfl, hm, g2, ha2, hb⟩ ih
  try dsimp only at *
  rw [r31_l1]
  by_cases h : i < l.length
  · have hg := hv.gr g2
    have hxi := hn _ (List.getElem_mem h)
    obtain ⟨D, hD, hD', gD, nD⟩ := sts2 H2 (.int .i64 l[i].1) (.int .i64 l[i].2) (.int .i64 0) (.int .i64 0)
    have hb' := hb.add h (by unfold num at hxi; omega)
    refine Ok.pos (by omega) (Ok.ck (by omega) (Ok.ld (hg.ldI (i := i) (j := 0) h rfl) (Ok.ld (hg.ldI (i := i) (j := 1) h rfl) (Ok.ld hD (Ok.ld (ldI_get hD' rfl) ?_)))))
    refine Ok.ite (fun c => Ok.ld (ldI_get hD' rfl) ?_) fun c => ?_
    · rw [if_pos c] at hb'
      rw [w64_succ (by omega)]
      exact ih (m - 1) (_, _) D (by omega) ⟨i + 1, rfl, by omega, g2.trans gD, ha2.gr gD, hb'⟩
    · rw [if_neg c] at hb'
      rw [w64_succ (by omega)]
      exact ih (m - 1) (_, _) D (by omega) ⟨i + 1, rfl, by omega, g2.trans gD, ha2.gr gD, hb'⟩
  · rw [List.take_of_length_le (by omega)] at hb
    have none : ∀ H3, Gr n0 H3 → AccL n0.n H3 w E → (∀ o, o ∈ l → lastP l o → o.1 ≠ x) → Ok (r31_j3 kt0 v w x b x false H3) Q := fun H3 g3 ha3 hno => by
      unfold r31_j3
      refine Ok.neg (by simp) ?_
      rw [w64_succ (by omega)]
      refine k w H3 E ha3 g3 ⟨hE.1, fun o => ?_⟩ (by omega)
      rw [hE.2]
      constructor
      · rintro ⟨h1, h2⟩; exact ⟨h1, by omega⟩
      · rintro ⟨h1, h2⟩; have := hno o h1.1 h1.2; exact ⟨h1, by omega⟩
    refine Ok.neg (by omega) ?_
    rcases hb with ⟨rfl, h2⟩ | ⟨h1, h2⟩
    · exact Ok.neg (by omega) (none H2 g2 ha2 fun o ho _ => h2 o ho)
    · have hnb := hn _ h1
      have uniq : ∀ o, o ∈ l → lastP l o → o.1 = x → o = (↑x, b) := fun o ho hl he => by
        by_cases c : o = (↑x, b)
        · exact c
        · exact absurd ⟨fun e => c e.symm, by rw [he]; exact Int.le_refl _, h2 o ho he⟩ (hl _ h1).1
      refine Ok.pos (by unfold num at hnb; dsimp only at hnb; omega) (Ok.bind (r57_ok (o := (↑x, b)) (hv.gr g2) (by omega) hn hnb) fun r H3 ⟨g3, hr⟩ => ?_)
      subst hr
      have gB := g2.trans g3
      by_cases hl : lastP l (↑x, b)
      · rw [decide_eq_true hl]
        unfold r31_j3
        refine Ok.pos rfl (Ok.bind ((ha2.gr g3).push gB ((x : Int), b) rfl rfl (by omega)) fun w' H4 ⟨ha4, g4, _⟩ => ?_)
        rw [w64_succ (by omega)]
        refine k w' H4 _ ha4 g4 ⟨List.pairwise_append.2 ⟨hE.1, by simp, fun a ha c hc => ?_⟩, fun o => ?_⟩ (by simp; omega)
        · rw [List.mem_singleton] at hc
          subst hc
          exact ((hE.2 a).1 ha).2
        · rw [List.mem_append, List.mem_singleton, hE.2]
          constructor
          · rintro (⟨c1, c2⟩ | rfl)
            · exact ⟨c1, by omega⟩
            · exact ⟨⟨h1, hl⟩, by dsimp only; omega⟩
          · rintro ⟨c1, c2⟩
            by_cases e : o.1 = x
            · exact .inr (uniq o c1.1 c1.2 e)
            · exact .inl ⟨c1, by omega⟩
      · rw [decide_eq_false hl]
        refine none H3 gB (ha2.gr g3) fun o ho hlo e => hl ?_
        rw [← uniq o ho hlo e]
        exact hlo
theorem r31_l5_ok {n0 H : Hp} {v w t u z : Sl} {D L : List Pr} {ob ab : Nat} {o a : Pr} {flag : Bool} {iv ln i0 ln2 i2 : Int} (hz : SL H z D) (hl : D.length ≤ 1000) (hn : ∀ x ∈ D, num x) (ho : num o) (hna : num a) (g : Gr n0 H) (hac : AccL n0.n H w L) (hob : H.get ob = some (.cells [.int .i64 o.1, .int .i64 o.2] false)) (hab : H.get ab = some (.cells [.int .i64 a.1, .int .i64 a.2] false))
    {kt4 : Sl → Sl → Int → Nat → Bool → Sl → Int → Int → Sl → Int → Int → Hp → Option (Sl × Hp)} (k : ∀ H', Gr H H' → Ok (kt4 v w iv ob (flag || decide (colD a o D)) t ln i0 u ln2 (w64 (i2 + 1)) H') Q) : Ok (r31_l5 kt4 FUEL v w iv ob flag ab t ln i0 u ln2 i2 z D.length 0 H) Q := by
  have hlen := hz.len
  refine Ok.loop (L := fun K (s : Bool × Int) H2 => r31_l5 kt4 K v w iv ob s.1 ab t ln i0 u ln2 i2 z D.length s.2 H2) (fun m s H' => ∃ i : Nat, s.2 = i ∧ i + m = D.length ∧ Gr H H' ∧ s.1 = (flag || decide (colD a o (D.take i)))) ?_ FUEL D.length (flag, 0) H (by unfold FUEL; omega) ⟨0, rfl, by omega, .refl _, by simp [colD]⟩
  rintro K m ⟨f, s⟩ H2 ⟨i, rfl, hm, g2, hf⟩ ih
  try dsimp only at *
  subst hf
  rw [r31_l5]
  by_cases h : i < D.length
  · have hg := hz.gr g2
    have hx := hn _ (List.getElem_mem h)
    obtain ⟨E, hE, hE', gE, nE⟩ := sts2 H2 (.int .i64 D[i].1) (.int .i64 D[i].2) (.int .i64 0) (.int .i64 0)
    have gB := g2.trans gE
    have hoE : E.get ob = some (.cells [.int .i64 o.1, .int .i64 o.2] false) := by rw [gB.2 _ (Hp.get_lt hob)]; exact hob
    have haE : E.get ab = some (.cells [.int .i64 a.1, .int .i64 a.2] false) := by rw [gB.2 _ (Hp.get_lt hab)]; exact hab
    have ek : (flag || decide (colD a o (D.take (i + 1)))) = ((flag || decide (colD a o (D.take i))) || decide (col a o D[i])) := by
      rw [Bool.or_assoc]
      congr 1
      rw [← Bool.decide_or]
      exact decide_eq_decide.2 (exists_take h)
    refine Ok.pos (by omega) (Ok.ck (by omega) (Ok.ld (hg.ldI (i := i) (j := 0) h rfl) (Ok.ld (hg.ldI (i := i) (j := 1) h rfl) (Ok.ld hE ?_))))
    refine Ok.ite (fun c => ?_) fun c => ?_
    · rw [w64_succ (by omega)]
      exact ih (m - 1) (true, _) E (by omega) ⟨i + 1, rfl, by omega, gB, by rw [ek, c]; rfl⟩
    · refine Ok.ld (ldI_get hE' rfl) (Ok.ld (ldI_get haE rfl) (Ok.ld (ldI_get hoE rfl) (Ok.ld (ldI_get haE rfl) (Ok.ld (ldI_get hE' rfl) (Ok.ld (ldI_get haE rfl) (Ok.ld (ldI_get hoE rfl) (Ok.ld (ldI_get haE rfl) ?_)))))))
      unfold num at ho hna hx
      have b1 := mul_bd (A := 30) (B := 30) (x := D[i].1 - a.1) (y := o.2 - a.2) (by omega) (by omega) (by omega) (by omega)
      have b2 := mul_bd (A := 30) (B := 30) (x := D[i].2 - a.2) (y := o.1 - a.1) (by omega) (by omega) (by omega) (by omega)
      rw [w64_id (n := D[i].1 - a.1) (by omega) (by omega), w64_id (n := o.2 - a.2) (by omega) (by omega), w64_id (n := D[i].2 - a.2) (by omega) (by omega), w64_id (n := o.1 - a.1) (by omega) (by omega), w64_id (n := (D[i].1 - a.1) * (o.2 - a.2)) (by omega) (by omega), w64_id (n := (D[i].2 - a.2) * (o.1 - a.1)) (by omega) (by omega), w64_succ (by omega)]
      refine ih (m - 1) (_, _) E (by omega) ⟨i + 1, rfl, by omega, gB, ?_⟩
      rw [ek, Bool.eq_false_iff.2 c, Bool.false_or]
      rfl
  · rw [List.take_of_length_le (by omega)]
    exact Ok.neg (by omega) (k H2 g2)
theorem r31_l4_ok {n0 H : Hp} {v w t u : Sl} {E A L : List Pr} {ob : Nat} {o : Pr} {i0 : Nat} {ln i1 : Int} (hv : SL n0 v E) (hu : SL n0 u A) (hl : E.length ≤ 1000) (hla : A.length ≤ 1000) (hnE : ∀ x ∈ E, num x) (hnA : ∀ x ∈ A, num x) (ho : num o) (hi0 : i0 < E.length) (hL : L.length ≤ 1000) (g : Gr n0 H) (hac : AccL n0.n H w L) (hob : H.get ob = some (.cells [.int .i64 o.1, .int .i64 o.2] false))
    {kt2 : Sl → Sl → Sl → Int → Int → Hp → Option (Sl × Hp)} (k : ∀ w' H', Gr n0 H' → AccL n0.n H' w' (L ++ [o].filter fun o => !decide (colA A o (E.drop (i0 + 1)))) → Ok (kt2 v w' t ln (w64 (i1 + 1)) H') Q) : Ok (r31_l4 kt2 FUEL v w i0 ob false t ln i1 u A.length 0 H) Q := by
  have hlen := hu.len
  have hvl := hv.len
  have hvc := hv.cap
  have hvo := hv.opn
  refine Ok.loop (L := fun K (s : Bool × Int) H2 => r31_l4 kt2 K v w i0 ob s.1 t ln i1 u A.length s.2 H2) (fun m s H' => ∃ i : Nat, s.2 = i ∧ i + m = A.length ∧ Gr n0 H' ∧ AccL n0.n H' w L ∧ H'.get ob = some (.cells [.int .i64 o.1, .int .i64 o.2] false) ∧ s.1 = decide (colA (A.take i) o (E.drop (i0 + 1)))) ?_ FUEL A.length (false, 0) H (by unfold FUEL; omega) ⟨0, rfl, by omega, g, hac, hob, by simp [colA]⟩
  rintro K m ⟨f, s⟩ H2 ⟨i, rfl, hm, g2, ha2, hob2, hf⟩ ih
  try dsimp only at *
  subst hf
  rw [r31_l4]
  by_cases h : i < A.length
  · have hg := hu.gr g2
    have hx := hnA _ (List.getElem_mem h)
    obtain ⟨D, hD, hD', gD, nD⟩ := sts2 H2 (.int .i64 A[i].1) (.int .i64 A[i].2) (.int .i64 0) (.int .i64 0)
    have gB := g2.trans gD
    have hoD : D.get ob = some (.cells [.int .i64 o.1, .int .i64 o.2] false) := by rw [gD.2 _ (Hp.get_lt hob2)]; exact hob2
    refine Ok.pos (by omega) (Ok.ck (by omega) (Ok.ld (hg.ldI (i := i) (j := 0) h rfl) (Ok.ld (hg.ldI (i := i) (j := 1) h rfl) (Ok.ld hD ?_))))
    rw [w64_succ (by omega), hvl]
    simp only [Int.toNat_natCast]
    have hs := (hv.gr gB).cut (lo := i0 + 1) (hi := E.length) (by omega) (by omega)
    have hdl : (E.drop (i0 + 1)).take (E.length - (i0 + 1)) = E.drop (i0 + 1) := List.take_of_length_le (by simp)
    rw [hdl] at hs
    have hsl := hs.len
    refine Ok.ck ⟨by omega, hvo⟩ ?_
    have e2 : El.sz Pr = 2 := rfl
    rw [e2] at hs hsl
    rw [hsl]
    refine r31_l5_ok (n0 := n0) (a := A[i]) hs (by rw [List.length_drop]; omega) (fun x hx => hnE x (List.mem_of_mem_drop hx)) ho hx gB (ha2.gr gD) hoD hD' fun H3 g3 => ?_
    rw [w64_succ (by omega)]
    refine ih (m - 1) (_, _) H3 (by omega) ⟨i + 1, rfl, by omega, gB.trans g3, (ha2.gr gD).gr g3, by rw [g3.2 _ (Hp.get_lt hoD)]; exact hoD, ?_⟩
    show (decide (colA (A.take i) o (E.drop (i0 + 1))) || decide (colD A[i] o (E.drop (i0 + 1)))) = decide (colA (A.take (i + 1)) o (E.drop (i0 + 1)))
    rw [← Bool.decide_or]
    exact decide_eq_decide.2 (exists_take (P := fun a => colD a o (E.drop (i0 + 1))) h).symm
  · rw [List.take_of_length_le (by omega)]
    refine Ok.neg (by omega) ?_
    by_cases hb : colA A o (E.drop (i0 + 1))
    · rw [decide_eq_true hb]
      exact Ok.pos rfl (k w H2 g2 (by simpa [hb] using ha2))
    · rw [decide_eq_false hb]
      refine Ok.neg (by simp) (Ok.ld (ldI_get hob2 rfl) (Ok.ld (ldI_get hob2 rfl) (Ok.bind (ha2.push g2 o rfl rfl (by omega)) fun w' H3 ⟨ha3, g3, _⟩ => ?_)))
      refine k w' H3 g3 ?_
      have : ([o].filter fun o => !decide (colA A o (E.drop (i0 + 1)))) = [o] := by rw [List.filter_cons, decide_eq_false hb]; rfl
      rw [this]
      exact ha3
end
/-- Edge of the reference -/
theorem r31_ok {H : Hp} {v : Sl} {l : List Pr} (hv : SL H v l) (ho : offP l) : Ok (r31 v H) fun w H' => Gr H H' ∧ ∃ E : List Pr, E.Pairwise incP ∧ (∀ o, o ∈ E ↔ o ∈ l ∧ lastP l o) ∧ SL H' w (E.filter fun o => !decide (betw E o)) := by
  unfold r31
  have hlen := hv.len
  have hl8 := ho.2.1
  refine Ok.loop (L := fun K (s : Sl × Int) H2 => r31_l0 K v s.1 s.2 H2) (fun m s H' => ∃ x : Nat, s.2 = x ∧ x + m = 31 ∧ Gr H H' ∧ ∃ E, AccL H.n H' s.1 E ∧ EI l x E ∧ E.length ≤ x) ?_ FUEL 31 (⟨true, 0, 0, 0, 0, 0⟩, 0) H (by unfold FUEL; omega) ⟨0, rfl, by omega, .refl _, [], AccL.nilS, ⟨by simp, fun o => ?_⟩, by simp⟩
  rotate_left
  · simp only [List.not_mem_nil, false_iff]
    rintro ⟨h1, h2⟩
    have := ho.2.2.1 o h1.1
    unfold num at this
    omega
  rintro K m ⟨w, s⟩ H1 ⟨x, rfl, hm, g1, E, ha, hE, hEl⟩ ih
  try dsimp only at *
  rw [r31_l0]
  by_cases h : x < 31
  · refine Ok.pos (by omega) ?_
    rw [hlen]
    refine r31_l1_ok (n0 := H) hv hl8 ho.2.2.1 h hE hEl g1 ha fun w' H2 E' ha2 g2 hE2 hEl2 => ?_
    exact ih (m - 1) (w', _) H2 (by omega) ⟨x + 1, rfl, by omega, g2, E', ha2, by simpa using hE2, hEl2⟩
  · have hx : x = 31 := by omega
    subst hx
    have hmem : ∀ o, o ∈ E ↔ o ∈ l ∧ lastP l o := fun o => by
      rw [hE.2]
      constructor
      · exact fun c => c.1
      · intro c
        have := ho.2.2.1 o c.1
        unfold num at this
        exact ⟨c, by omega⟩
    refine Ok.neg (by omega) ?_
    have hw := ha.sl
    have hwl := hw.len
    have hwc := hw.cap
    have hwo := hw.opn
    have hnE : ∀ o ∈ E, num o := fun o hoE => ho.2.2.1 o ((hmem o).1 hoE).1
    refine Ok.mono (P := fun u H' => Gr H1 H' ∧ SL H' u (E.filter fun o => !decide (betw E o))) ?_ fun u H' h => ⟨g1.trans h.1, E, hE.1, hmem, h.2⟩
    rw [hwl]
    have hp := hE.1
    refine Ok.loop (L := fun K (s : Sl × Int) H2 => r31_l2 K w s.1 w E.length s.2 H2) (fun m s H' => ∃ i : Nat, s.2 = i ∧ i + m = E.length ∧ Gr H1 H' ∧ AccL H1.n H' s.1 ((E.take i).filter fun o => !decide (betw E o))) ?_ FUEL E.length (⟨true, 0, 0, 0, 0, 0⟩, 0) H1 (by unfold FUEL; omega) ⟨0, rfl, by omega, .refl _, by simpa using AccL.nilS⟩
    rintro K2 m2 ⟨u, s⟩ H2 ⟨i, rfl, hm2, g2, ha2⟩ ih2
    try dsimp only at *
    rw [r31_l2]
    by_cases hi : i < E.length
    · have hg := hw.gr g2
      obtain ⟨D, hD, hD', gD, nD⟩ := sts2 H2 (.int .i64 E[i].1) (.int .i64 E[i].2) (.int .i64 0) (.int .i64 0)
      have hfl := List.length_filter_le (fun o => !decide (betw E o)) (E.take i)
      rw [List.length_take] at hfl
      refine Ok.pos (by omega) (Ok.ck (by omega) (Ok.ld (hg.ldI (i := i) (j := 0) hi rfl) (Ok.ld (hg.ldI (i := i) (j := 1) hi rfl) (Ok.ld hD (Ok.ck ⟨by omega, hwo⟩ ?_)))))
      rw [Int.toNat_natCast, Int.toNat_zero]
      have hs := hw.cut (lo := 0) (hi := i) (by omega) (by omega)
      rw [List.drop_zero, Nat.sub_zero] at hs
      have hsl := hs.len
      have e2 : El.sz Pr = 2 := rfl
      rw [e2] at hs hsl
      rw [hsl]
      refine r31_l4_ok (n0 := H1) (o := E[i]) hw hs (by omega) (by rw [List.length_take]; omega) hnE (fun x hx => hnE x (List.mem_of_mem_take hx)) (hnE _ (List.getElem_mem hi)) hi (by omega) (g2.trans gD) (ha2.gr gD) hD' fun w' H3 g3 ha3 => ?_
      rw [w64_succ (by omega)]
      refine ih2 (m2 - 1) (w', _) H3 (by omega) ⟨i + 1, rfl, by omega, g3, ?_⟩
      rw [List.take_succ_eq_append_getElem hi, List.filter_append]
      have : ([E[i]].filter fun o => !decide (betw E o)) = [E[i]].filter fun o => !decide (colA (E.take i) o (E.drop (i + 1))) := by
        rw [List.filter_cons, List.filter_cons]
        have := betw_iff hp hi
        rw [decide_eq_decide.2 this]
        rfl
      rw [this]
      exact ha3
    · rw [List.take_of_length_le (by omega)] at ha2
      exact Ok.neg (by omega) (Ok.ret ⟨g2, ha2.sl⟩)
end Go.Lt.P5
