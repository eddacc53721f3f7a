/- PLAIN LAWS OF WHAT IS COMPUTED, for the statement 'DealsOthers'. Nothing is asked of the input. -/
import Derived.Test.YtficeemoekikdaaU14VAwk
import Derived.Test.YtficeemoekikdaaU14VCi
set_option linter.unusedVariables false
set_option linter.unusedSimpArgs false
namespace Go.Lt.P5
open Go Go.Lt Go.Proofs
def ltP (p q : Pr) : Bool := decide (p.1 < q.1 ∨ (p.1 = q.1 ∧ p.2 < q.2))
def cmpI (x y : Int) : Int := if x < y then -1 else if y < x then 1 else 0
def cmpP (p q : Pr) : Int := if cmpI p.1 q.1 ≠ 0 then cmpI p.1 q.1 else cmpI p.2 q.2
theorem cmpP_lt (p q : Pr) : cmpP p q < 0 ↔ ltP p q = true := by
  unfold cmpP cmpI ltP
  rw [decide_eq_true_iff]
  by_cases a : p.1 < q.1
  · rw [if_pos a, if_pos (by decide)]; omega
  · rw [if_neg a]
    by_cases b : q.1 < p.1
    · rw [if_pos b, if_pos (by decide)]; omega
    · rw [if_neg b, if_neg (by decide)]
      by_cases c : p.2 < q.2
      · rw [if_pos c]; omega
      · rw [if_neg c]
        by_cases d : q.2 < p.2
        · rw [if_pos d]; omega
        · rw [if_neg d]; omega
def CmpSays (a : App) (fv : AV) : Prop := ∀ H (p q : Pr), Ok (callv a fv [.agg [.int .i64 p.1, .int .i64 p.2], .agg [.int .i64 q.1, .int .i64 q.2]] H) fun r H' => Gr H H' ∧ r = .int .i64 (cmpP p q)
def at' (q : List Pr) (t : Nat) : Pr := q.getD t (0, 0)
theorem at_eq {q : List Pr} {t : Nat} (h : t < q.length) : q[t] = at' q t := by
  unfold at'
  rw [List.getD_eq_getElem?_getD, List.getElem?_eq_getElem h]; rfl
theorem at_set {q : List Pr} {j : Nat} (h : j < q.length) (x : Pr) (t : Nat) : at' (q.set j x) t = if t = j then x else at' q t := by
  unfold at'
  rw [List.getD_eq_getElem?_getD, List.getD_eq_getElem?_getD, List.getElem?_set]
  by_cases e : j = t
  · subst e; simp [h]
  · rw [if_neg e, if_neg (fun c => e c.symm)]
theorem ltP_asym {p q : Pr} (h : ltP p q = true) : ltP q p = false := by
  simp only [ltP, decide_eq_true_eq, decide_eq_false_iff_not] at *
  omega
theorem ltP_ntr {p q r : Pr} (h : ltP q p = false) (k : ltP r q = false) : ltP r p = false := by
  simp only [ltP, decide_eq_false_iff_not] at *
  omega
def so (q : List Pr) : Prop := ∀ t t', t < t' → t' < q.length → ltP (at' q t') (at' q t) = false
def sb (q : List Pr) (i j : Nat) : Prop := ∀ t t', t < t' → t' ≤ i → t' ≠ j → ltP (at' q t') (at' q t) = false
theorem sb_swap {q : List Pr} {i j : Nat} (hi : i < q.length) (hj : j + 1 ≤ i) (h : sb q i (j + 1)) (hl : ltP (at' q (j + 1)) (at' q j) = true) : sb ((q.set (j + 1) (at' q j)).set j (at' q (j + 1))) i j := by
  have e : ∀ t, at' ((q.set (j + 1) (at' q j)).set j (at' q (j + 1))) t = if t = j then at' q (j + 1) else if t = j + 1 then at' q j else at' q t := fun t => by
    rw [at_set (by simp; omega), at_set (by omega)]
  intro t t' h1 h2 h3
  rw [e, e, if_neg h3]
  by_cases c1 : t' = j + 1
  · subst c1
    rw [if_pos rfl]
    by_cases c2 : t = j
    · subst c2; rw [if_pos rfl]; exact ltP_asym hl
    · rw [if_neg c2, if_neg (by omega)]
      exact h t j (by omega) (by omega) (by omega)
  · rw [if_neg c1]
    by_cases c2 : t = j
    · subst c2; rw [if_pos rfl]; exact h (t + 1) t' (by omega) h2 c1
    · rw [if_neg c2]
      by_cases c3 : t = j + 1
      · subst c3; rw [if_pos rfl]; exact h j t' (by omega) h2 c1
      · rw [if_neg c3]; exact h t t' h1 h2 c1
theorem sb_stop {q : List Pr} {i j : Nat} (hj : j ≤ i) (h : sb q i j) (hs : 0 < j → ltP (at' q j) (at' q (j - 1)) = false) : ∀ t t', t < t' → t' ≤ i → ltP (at' q t') (at' q t) = false := by
  intro t t' h1 h2
  by_cases e : t' = j
  · subst e
    have := hs (by omega)
    by_cases e2 : t = t' - 1
    · subst e2; exact this
    · exact ltP_ntr (h t (t' - 1) (by omega) (by omega) (by omega)) this
  · exact h t t' h1 h2 e
section
variable {a : App} {fv : AV} {v : Sl} {Q : Unit → Hp → Prop}
theorem r89_l1_ok (hc : CmpSays a fv) {kt : Sl → Int → Int → AV → Int → Hp → Option (Unit × Hp)} {q : List Pr} (hb : q.length ≤ 1000000) {i : Nat} {n : Int} {H : Hp} (ho : Own H v q) (hi : i < q.length) (hs : sb q i i)
    (k : ∀ q' H', Own H' v q' → Only v.b H H' → q'.Perm q → (∀ t t', t < t' → t' ≤ i → ltP (at' q' t') (at' q' t) = false) → Ok (kt v 0 n fv ((i + 1 : Nat) : Int) H') Q) :
    Ok (r89_l1 a kt FUEL v 0 n fv i i H) Q := by
  refine Ok.loop (L := fun K (s : Int) H' => r89_l1 a kt K v 0 n fv i s H') (fun m s H' => ∃ j : Nat, s = j ∧ j ≤ i ∧ m = j ∧ ∃ q', Own H' v q' ∧ Only v.b H H' ∧ q'.Perm q ∧ sb q' i j) ?_ FUEL i i H (by unfold FUEL; omega) ⟨i, rfl, Nat.le_refl _, rfl, q, ho, .refl _ _, .refl _, hs⟩
  rintro K m s H1 ⟨j, rfl, hj, rfl, q', h1, g1, hp, hsb⟩ ih
  try dsimp only at *
  have hql := hp.length_eq
  have hvl := h1.len
  rw [r89_l1]
  have stop : (0 < m → ltP (at' q' m) (at' q' (m - 1)) = false) → ∀ kt1 H2, Own H2 v q' → Only v.b H H2 → Ok (r89_j2 a kt kt1 v 0 n fv i m false H2) Q := by
    intro h kt1 H2 o2 g2
    unfold r89_j2
    refine Ok.neg (by simp) ?_
    rw [w64_succ (by omega)]
    exact k q' H2 o2 g2 hp (sb_stop hj hsb h)
  by_cases h : 0 < m
  · obtain ⟨j, rfl⟩ : ∃ j, m = j + 1 := ⟨m - 1, by omega⟩
    have ej : w64 (((j + 1 : Nat) : Int) - 1) = (j : Int) := by rw [w64_id (by omega) (by omega)]; omega
    rw [ej]
    have hg := h1.sl
    refine Ok.pos (by omega) (Ok.ck (by omega) (Ok.ld (hg.ldI (i := j + 1) (j := 0) (by omega) rfl) (Ok.ld (hg.ldI (i := j + 1) (j := 1) (by omega) rfl) (Ok.ck (by omega) (Ok.ld (hg.ldI (i := j) (j := 0) (by omega) rfl) (Ok.ld (hg.ldI (i := j) (j := 1) (by omega) rfl) ?_))))))
    refine Ok.bind (hc H1 q'[j + 1] q'[j]) fun r H2 ⟨g2, hr⟩ => ?_
    subst hr
    refine Ok.ld rfl ?_
    have o2 := h1.gr g2
    have gg := g1.trans (Gr.only (b := v.b) g2)
    by_cases hl : cmpP q'[j + 1] q'[j] < 0
    · rw [decide_eq_true hl]
      unfold r89_j2
      rw [ej]
      have hg2 := o2.sl
      refine Ok.pos rfl (Ok.ck (by omega) (Ok.ld (hg2.ldI (i := j) (j := 0) (by omega) rfl) (Ok.ld (hg2.ldI (i := j) (j := 1) (by omega) rfl) (Ok.ck (by omega) (Ok.ld (hg2.ldI (i := j + 1) (j := 0) (by omega) rfl) (Ok.ld (hg2.ldI (i := j + 1) (j := 1) (by omega) rfl) (Ok.ck (by omega) ?_)))))))
      refine o2.put (j := j + 1) (by omega) q'[j] rfl rfl fun H3 o3 g3 n3 => Ok.ck (by omega) (o3.put (j := j) (by simp; omega) q'[j + 1] rfl rfl fun H4 o4 g4 n4 => ?_)
      dsimp only
      refine ih j _ H4 (by omega) ⟨j, rfl, by omega, rfl, _, o4, gg.trans (g3.trans g4), (swap_perm (by omega)).trans hp, ?_⟩
      rw [at_eq (show j < q'.length by omega), at_eq (show j + 1 < q'.length by omega)]
      refine sb_swap (by omega) (by omega) hsb ?_
      rw [← at_eq (show j < q'.length by omega), ← at_eq (show j + 1 < q'.length by omega)]
      exact (cmpP_lt _ _).1 hl
    · rw [decide_eq_false hl]
      refine stop (fun _ => ?_) _ H2 o2 gg
      rw [Nat.add_sub_cancel, ← at_eq (show j < q'.length by omega), ← at_eq (show j + 1 < q'.length by omega)]
      cases hb2 : ltP q'[j + 1] q'[j] with
      | false => rfl
      | true => exact absurd ((cmpP_lt _ _).2 hb2) hl
  · exact Ok.neg (by omega) (stop (fun h' => absurd h' h) _ H1 h1 g1)
/-- slices.insertionSortCmpFunc -/
theorem r89_ok (hc : CmpSays a fv) {q : List Pr} (hb : q.length ≤ 1000000) {H : Hp} (ho : Own H v q) :
    Ok (r89 a v 0 q.length fv H) fun _ H' => ∃ q', Own H' v q' ∧ Only v.b H H' ∧ q'.Perm q ∧ so q' := by
  unfold r89
  rw [show w64 (0 + 1) = ((1 : Nat) : Int) by decide]
  refine Ok.loop (L := fun K (s : Int) H' => r89_l0 a K v 0 q.length fv s H') (fun m s H' => ∃ i : Nat, s = i ∧ 1 ≤ i ∧ q.length ≤ i + m ∧ ∃ q', Own H' v q' ∧ Only v.b H H' ∧ q'.Perm q ∧ ∀ t t', t < t' → t' < i → ltP (at' q' t') (at' q' t) = false) ?_ FUEL q.length _ H (by unfold FUEL; omega) ⟨1, rfl, Nat.le_refl _, by omega, q, ho, .refl _ _, .refl _, fun t t' h1 h2 => by omega⟩
  rintro K m s H1 ⟨i, rfl, hi1, hm, q', h1, g1, hp, hs⟩ ih
  try dsimp only at *
  have hql := hp.length_eq
  rw [r89_l0]
  by_cases h : i < q.length
  · refine Ok.pos (by omega) (r89_l1_ok hc (by omega) h1 (by omega) (fun t t' a1 a2 a3 => hs t t' a1 (by omega)) fun q2 H2 o2 g2 p2 s2 => ?_)
    exact ih (m - 1) _ H2 (by omega) ⟨i + 1, rfl, by omega, by omega, q2, o2, g1.trans g2, p2.trans hp, fun t t' a1 a2 => s2 t t' a1 (by omega)⟩
  · exact Ok.neg (by omega) (Ok.ret ⟨q', h1, g1, hp, fun t t' a1 a2 => hs t t' a1 (by omega)⟩)
end
theorem r88_at {n : Nat} (hn : n ∈ [0, 1, 2, 3, 4, 5, 6, 7, 8, 9, 10, 11, 12]) (H : Hp) : r88 (n : Int) H = some (([0, 1, 2, 2, 3, 3, 3, 3, 4, 4, 4, 4, 4] : List Int).getD n 0, H) := by
  simp only [List.mem_cons, List.not_mem_nil, or_false] at hn
  rcases hn with rfl | rfl | rfl | rfl | rfl | rfl | rfl | rfl | rfl | rfl | rfl | rfl | rfl <;> kernel_rfl
theorem r88_small {n : Nat} (hn : n ≤ 12) (H : Hp) : ∃ x, r88 (IntKind.wrap .u64 (n : Int)) H = some (x, H) := by
  have e : IntKind.wrap .u64 (n : Int) = n := by
    simp only [IntKind.wrap, IntKind.signed, IntKind.bits]
    simp
    omega
  rw [e]
  exact ⟨_, r88_at (by simp; omega) H⟩
/-- slices.SortFunc of up to twelve pairs of one's own -/
theorem r83_ok {k : Nat} {fv : AV} (hc : CmpSays (appA (k + 1)) fv) {v : Sl} {q : List Pr} (hb : q.length ≤ 12) {H : Hp} (ho : Own H v q) :
    Ok (r83 (appA (k + 1)) v fv H) fun _ H' => ∃ q', Own H' v q' ∧ Only v.b H H' ∧ q'.Perm q ∧ so q' := by
  unfold r83
  have hl := ho.len
  rw [hl]
  obtain ⟨x, e⟩ := r88_small hb H
  refine Ok.ld e ?_
  unfold r87
  rw [show FUEL = 18446744073709551615 + 1 from rfl, r87_l0]
  refine Ok.bind (P := fun _ H' => ∃ q', Own H' v q' ∧ Only v.b H H' ∧ q'.Perm q ∧ so q') ?_ fun _ H' h => Ok.ret h
  rw [w64_id (by omega) (by omega)]
  exact Ok.pos (by omega) (Ok.bind (r89_ok hc (by omega) ho) fun _ H' h => Ok.ret h)
theorem so_lex {q : List Pr} (h : so q) (hd : q.Nodup) : q.Pairwise lexP := by
  rw [List.pairwise_iff_getElem]
  intro i j hi hj hij
  have h1 := h i j hij hj
  rw [← at_eq hi, ← at_eq hj] at h1
  have h2 := List.pairwise_iff_getElem.1 hd i j hi hj hij
  simp only [ltP, decide_eq_false_iff_not] at h1
  unfold lexP
  have : ¬ (q[i].1 = q[j].1 ∧ q[i].2 = q[j].2) := fun c => h2 (Prod.ext c.1 c.2)
  omega
theorem r80_spec (x y : Int) (H : Hp) : r80 x y H = some (cmpI x y, H) := by
  unfold r80 r85 cmpI
  by_cases a : x < y
  · simp [a]
  · by_cases b : y < x <;> simp [a, b]
theorem r75_two {H : Hp} {b c : Nat} {x y u w : Int} (hb : H.get b = some (.cells [.int .i64 x, .int .i64 y] false)) (hc : H.get c = some (.cells [.int .i64 u, .int .i64 w] false)) :
    r75 ⟨false, b, 0, 2, 2, 0⟩ ⟨false, c, 0, 2, 2, 0⟩ H = some (cmpP (x, y) (u, w), H) := by
  have e0 : H.ldI .i64 b (0 + (0 : Int).toNat * 1) = some x := ldI_get hb rfl
  have e1 : H.ldI .i64 b (0 + (1 : Int).toNat * 1) = some y := ldI_get hb rfl
  have f0 : H.ldI .i64 c (0 + (0 : Int).toNat * 1) = some u := ldI_get hc rfl
  have f1 : H.ldI .i64 c (0 + (1 : Int).toNat * 1) = some w := ldI_get hc rfl
  have s1 : w64 ((0 : Int) + 1) = 1 := by decide +kernel
  have s2 : w64 ((1 : Int) + 1) = 2 := by decide +kernel
  unfold r75
  rw [show FUEL = 18446744073709551613 + 1 + 1 + 1 from rfl, r75_l0]
  simp only [e0, f0, Option.bind_some, r80_spec, s1]
  rw [if_pos (by simp), ck, if_pos (by simp), if_neg (by simp), ck, if_pos (by simp)]
  unfold cmpP
  by_cases h : cmpI x u ≠ 0
  · rw [if_pos h, if_pos h]
  · rw [if_neg h, if_neg h, r75_l0]
    simp only [e1, f1, Option.bind_some, r80_spec, s2]
    rw [if_pos (by simp), ck, if_pos (by simp), if_neg (by simp), ck, if_pos (by simp)]
    by_cases h2 : cmpI y w ≠ 0
    · rw [if_pos h2]
    · rw [if_neg h2, r75_l0, if_neg (by simp), if_neg (by simp)]
      simp only [ne_eq, Classical.not_not] at h2
      rw [h2]
theorem says74 (k : Nat) : CmpSays (appA (k + 1)) (.fn 74 [] []) := by
  intro H p q
  show Ok ((r74 p.1 p.2 q.1 q.2 H).map fun p => (AV.int .i64 p.1, p.2)) _
  have h1 : Ok (r74 p.1 p.2 q.1 q.2 H) fun r H' => Gr H H' ∧ r = cmpP p q := by
    unfold r74
    have n1 : (H.push (.cells [.int .i64 p.1, .int .i64 p.2] false)).n = H.n + 1 := by simp
    rw [n1]
    have gA : Gr H ((H.push (.cells [.int .i64 p.1, .int .i64 p.2] false)).push (.cells [.int .i64 q.1, .int .i64 q.2] false)) := (Gr.push _ _).trans (.push _ _)
    have a0 : ((H.push (.cells [.int .i64 p.1, .int .i64 p.2] false)).push (.cells [.int .i64 q.1, .int .i64 q.2] false)).get H.n = some (.cells [.int .i64 p.1, .int .i64 p.2] false) := by rw [Hp.get_push_old _ _ (by simp)]; simp
    have a1 : ((H.push (.cells [.int .i64 p.1, .int .i64 p.2] false)).push (.cells [.int .i64 q.1, .int .i64 q.2] false)).get (H.n + 1) = some (.cells [.int .i64 q.1, .int .i64 q.2] false) := by rw [← n1, Hp.get_push_new]
    refine Ok.lt (Ok.ld (r75_two a0 a1) (Ok.ret ⟨gA, rfl⟩))
  obtain ⟨r, H', e, g, rfl⟩ := h1
  rw [e]
  exact Ok.ret ⟨g, rfl⟩
end Go.Lt.P5
