/- PLAIN LAWS OF WHAT IS COMPUTED, for the statement 'DealsScales'. Nothing is asked of the input. -/
import Derived.Test.YtficeemoekikdaaU8VEa
import Derived.Test.YtficeemoekikdaaLB
set_option linter.unusedVariables false
set_option linter.unusedSimpArgs false
namespace Go.Lt.P5
open Go Go.Lt Go.Proofs
/-- Swap of the reference -/
theorem r36_ok {H : Hp} {v : Sl} {l : List Pr} (hv : SL H v l) (hb : l.length ≤ 1000) : Ok (r36 v H) fun w H' => Gr H H' ∧ SL H' w (l.map swp) := by
  unfold r36
  have hlen := hv.len
  rw [hlen]
  refine Ok.loop (L := fun K (s : Sl × Int) H2 => r36_l0 K s.1 v l.length s.2 H2) (fun m s H' => Gr H H' ∧ ∃ i : Nat, s.2 = i ∧ i + m = l.length ∧ AccL H.n H' s.1 ((l.take i).map swp)) ?_ FUEL l.length (⟨true, 0, 0, 0, 0, 0⟩, 0) H (by unfold FUEL; omega) ⟨.refl _, 0, rfl, by omega, by simpa using AccL.nilS⟩
  rintro K m ⟨w, s⟩ H1 ⟨g1, i, rfl, hm, ha⟩ ih
  try dsimp only at *
  rw [r36_l0]
  by_cases h : i < l.length
  · have hg := hv.gr g1
    obtain ⟨E, hE, hE', gE, nE⟩ := sts2 H1 (.int .i64 l[i].1) (.int .i64 l[i].2) (.int .i64 0) (.int .i64 0)
    have gB := g1.trans gE
    refine Ok.pos (by omega) (Ok.ck (by omega) (Ok.ld (hg.ldI (i := i) (j := 0) h rfl) (Ok.ld (hg.ldI (i := i) (j := 1) h rfl) (Ok.ld hE (Ok.ld (ldI_get hE' rfl) (Ok.ld (ldI_get hE' rfl) ?_))))))
    refine Ok.bind ((ha.gr gE).push gB (swp l[i]) rfl rfl (by simp; omega)) fun w2 H3 ⟨ha3, g3, _⟩ => ?_
    rw [w64_succ (by omega)]
    refine ih (m - 1) (w2, _) H3 (by omega) ⟨g3, i + 1, rfl, by omega, ?_⟩
    rw [List.take_succ_eq_append_getElem h, List.map_append]
    exact ha3
  · rw [List.take_of_length_le (by omega)] at ha
    exact Ok.neg (by omega) (Ok.ret ⟨g1, ha.sl⟩)
/-- Scale of the reference -/
theorem r38_ok {H : Hp} {v : Sl} {l : List Pr} (hv : SL H v l) (hb : l.length ≤ 1000) (hn : ∀ x ∈ l, num x) {a b : Int} (ha : 1 ≤ a ∧ a ≤ 30) (hb2 : 1 ≤ b ∧ b ≤ 30) : Ok (r38 v a b H) fun r H' => Gr H H' ∧ if ∀ x ∈ l, x.1 * a ≤ 30 ∧ x.2 * b ≤ 30 then SL H' r.1 (l.map (scl a b)) ∧ r.2 = 0 else r = (⟨true, 0, 0, 0, 0, 0⟩, 4) := by
  unfold r38
  have hlen := hv.len
  rw [hlen]
  refine Ok.loop (L := fun K (s : Sl × Int) H2 => r38_l0 K a b s.1 v l.length s.2 H2) (fun m s H' => Gr H H' ∧ ∃ i : Nat, s.2 = i ∧ i + m = l.length ∧ AccL H.n H' s.1 ((l.take i).map (scl a b)) ∧ ∀ x ∈ l.take i, x.1 * a ≤ 30 ∧ x.2 * b ≤ 30) ?_ FUEL l.length (⟨true, 0, 0, 0, 0, 0⟩, 0) H (by unfold FUEL; omega) ⟨.refl _, 0, rfl, by omega, by simpa using AccL.nilS, by simp⟩
  rintro K m ⟨w, s⟩ H1 ⟨g1, i, rfl, hm, hac, hok⟩ ih
  try dsimp only at *
  rw [r38_l0]
  by_cases h : i < l.length
  · have hg := hv.gr g1
    obtain ⟨E, hE, hE', gE, nE⟩ := sts2 H1 (.int .i64 l[i].1) (.int .i64 l[i].2) (.int .i64 0) (.int .i64 0)
    have gB := g1.trans gE
    have hmem : l[i] ∈ l := List.getElem_mem h
    have hx := hn _ hmem
    unfold num at hx
    have m1 : 0 ≤ l[i].1 * a ∧ l[i].1 * a ≤ 30 * 30 := ⟨Int.mul_nonneg (by omega) (by omega), Int.mul_le_mul (by omega) (by omega) (by omega) (by omega)⟩
    have m2 : 0 ≤ l[i].2 * b ∧ l[i].2 * b ≤ 30 * 30 := ⟨Int.mul_nonneg (by omega) (by omega), Int.mul_le_mul (by omega) (by omega) (by omega) (by omega)⟩
    have bad : ¬ (l[i].1 * a ≤ 30 ∧ l[i].2 * b ≤ 30) → Ok (r38_j1 (fun v1_ v2_ v3_ v4_ v5_ v6_ H_ => r38_l0 K v1_ v2_ v3_ v4_ v5_ v6_ H_) a b w H1.n v l.length i true E) fun r H' => Gr H H' ∧ if ∀ x ∈ l, x.1 * a ≤ 30 ∧ x.2 * b ≤ 30 then SL H' r.1 (l.map (scl a b)) ∧ r.2 = 0 else r = (⟨true, 0, 0, 0, 0, 0⟩, 4) := fun hno => by
      unfold r38_j1
      simp only [if_neg (show ¬ ∀ x ∈ l, x.1 * a ≤ 30 ∧ x.2 * b ≤ 30 from fun c => hno (c _ hmem))]
      exact Ok.pos (by simp) (Ok.ret ⟨gB, rfl⟩)
    refine Ok.pos (by omega) (Ok.ck (by omega) (Ok.ld (hg.ldI (i := i) (j := 0) h rfl) (Ok.ld (hg.ldI (i := i) (j := 1) h rfl) (Ok.ld hE (Ok.ld (ldI_get hE' rfl) ?_)))))
    rw [w64_id (n := l[i].1 * a) (by omega) (by omega)]
    refine Ok.ite (fun hc => bad (by omega)) fun hc => Ok.ld (ldI_get hE' rfl) ?_
    rw [w64_id (n := l[i].2 * b) (by omega) (by omega)]
    by_cases hc2 : 30 < l[i].2 * b
    · rw [decide_eq_true hc2]
      exact bad (by omega)
    · rw [decide_eq_false hc2]
      unfold r38_j1
      refine Ok.neg (by simp) (Ok.ld (ldI_get hE' rfl) (Ok.ld (ldI_get hE' rfl) ?_))
      rw [w64_id (n := l[i].1 * a) (by omega) (by omega), w64_id (n := l[i].2 * b) (by omega) (by omega)]
      refine Ok.bind ((hac.gr gE).push gB (scl a b l[i]) rfl rfl (by simp; omega)) fun w2 H3 ⟨ha3, g3, _⟩ => ?_
      rw [w64_succ (by omega)]
      refine ih (m - 1) (w2, _) H3 (by omega) ⟨g3, i + 1, rfl, by omega, ?_, ?_⟩
      · rw [List.take_succ_eq_append_getElem h, List.map_append]
        exact ha3
      · rw [List.take_succ_eq_append_getElem h]
        intro x hx
        rcases List.mem_append.1 hx with hx | hx
        · exact hok x hx
        · rw [List.mem_singleton] at hx; subst hx; omega
  · rw [List.take_of_length_le (by omega)] at hac hok
    refine Ok.neg (by omega) (Ok.ret ⟨g1, ?_⟩)
    rw [if_pos hok]
    exact ⟨hac.sl, rfl⟩
theorem nodup_map_inj {α β : Type} {f : α → β} {l : List α} (hf : ∀ x ∈ l, ∀ y ∈ l, f x = f y → x = y) (h : l.Nodup) : (l.map f).Nodup := by
  induction l with
  | nil => simp
  | cons x l ih =>
    rw [List.nodup_cons] at h
    rw [List.map_cons, List.nodup_cons]
    refine ⟨fun hc => ?_, ih (fun a ha b hb => hf a (by simp [ha]) b (by simp [hb])) h.2⟩
    obtain ⟨y, hy, e⟩ := List.mem_map.1 hc
    have := hf y (by simp [hy]) x (by simp) e
    subst this
    exact h.1 hy
theorem off_swap {l : List Pr} (h : offP l) : offP (l.map swp) := by
  obtain ⟨h1, h2, h3, h4⟩ := h
  refine ⟨by simpa using h1, by simpa using h2, fun x hx => ?_, nodup_map_inj (fun x _ y _ e => ?_) h4⟩
  · obtain ⟨y, hy, rfl⟩ := List.mem_map.1 hx
    have := h3 y hy
    unfold num swp at *
    dsimp only
    omega
  · unfold swp at e
    obtain ⟨e1, e2⟩ := Prod.mk.inj e
    exact Prod.ext e2 e1
theorem off_erase {l : List Pr} (h : offP l) {i : Nat} (hi : i < l.length) : offP (l.eraseIdx i) ↔ l.length ≠ 1 := by
  obtain ⟨h1, h2, h3, h4⟩ := h
  have hl : (l.eraseIdx i).length = l.length - 1 := by rw [List.length_eraseIdx]; simp [hi]
  constructor
  · intro c e
    have := c.1
    omega
  · intro hne
    exact ⟨by omega, by omega, fun x hx => h3 x (List.mem_of_mem_eraseIdx hx), h4.sublist (List.eraseIdx_sublist l i)⟩
theorem off_scale {l : List Pr} (h : offP l) {a b : Int} (ha : 1 ≤ a ∧ a ≤ 30) (hb : 1 ≤ b ∧ b ≤ 30) : offP (l.map (scl a b)) ↔ ∀ x ∈ l, x.1 * a ≤ 30 ∧ x.2 * b ≤ 30 := by
  obtain ⟨h1, h2, h3, h4⟩ := h
  constructor
  · intro c x hx
    have := c.2.2.1 _ (List.mem_map.2 ⟨x, hx, rfl⟩)
    unfold num scl at this
    dsimp only at this
    omega
  · intro c
    refine ⟨by simpa using h1, by simpa using h2, fun y hy => ?_, nodup_map_inj (fun x _ y _ e => ?_) h4⟩
    · obtain ⟨x, hx, rfl⟩ := List.mem_map.1 hy
      have q := h3 x hx
      have q2 := c x hx
      unfold num scl at *
      have m1 : 0 ≤ x.1 * a := Int.mul_nonneg (by omega) (by omega)
      have m2 : 0 ≤ x.2 * b := Int.mul_nonneg (by omega) (by omega)
      dsimp only
      omega
    · unfold scl at e
      obtain ⟨e1, e2⟩ := Prod.mk.inj e
      exact Prod.ext (Int.eq_of_mul_eq_mul_right (by omega) e1) (Int.eq_of_mul_eq_mul_right (by omega) e2)
theorem awakeA (k : Nat) (H : Hp) : appA k 19 [] H = some (.bool true, H) := rfl
theorem scalesLaw {H : Hp} {v : Sl} {l : List Pr} (hv : SL H v l) (hb : l.length < 9223372036854775808) (a b d : Int) : Ok (r8 (appA 20) v a b d H) fun r _ => r = true := by
  unfold r8
  have ht : (l.take 11).length ≤ 1000 := by rw [List.length_take]; omega
  refine Ok.bind (r24_ok hv hb) fun w1 H1 ⟨g1, hw1, _⟩ => ?_
  refine Ok.bind (r33_ok 19 hw1 ht a b) fun rx H2 ⟨g2, h2⟩ => ?_
  have g12 := g1.trans g2
  refine Ok.bind (r24_ok (hv.gr g12) hb) fun w3 H3 ⟨g3, hw3, _⟩ => ?_
  refine Ok.bind (r34_ok 19 hw3 ht) fun ry H4 ⟨g4, h4⟩ => ?_
  have g14 := g12.trans (g3.trans g4)
  refine Ok.bind (r24_ok (hv.gr g14) hb) fun w5 H5 ⟨g5, hw5, _⟩ => ?_
  refine Ok.bind (r35_ok 19 hw5 ht d) fun rz H6 ⟨g6, h6⟩ => ?_
  have g16 := g14.trans (g5.trans g6)
  refine Ok.bind (r26_ok (hv.gr g16) hb) fun c H7 ⟨g7, hc⟩ => ?_
  subst hc
  by_cases ho : offP l
  · have hl8 := ho.2.1
    have htk : l.take 11 = l := List.take_of_length_le (by omega)
    rw [htk] at h2 h4 h6
    rw [if_pos ho, if_pos (off_swap ho)] at h4
    obtain ⟨hy, hye⟩ := h4
    have hlv := hv.len
    have g17 := g16.trans g7
    rw [decide_eq_true ho]
    refine Ok.pos rfl (Ok.bind (r36_ok (hv.gr g17) (by omega)) fun u H8 ⟨g8, hu⟩ => ?_)
    have gy := g5.trans (g6.trans (g7.trans g8))
    refine Ok.bind (r30_ok (hy.gr gy) hu (by simp; omega)) fun e H9 ⟨e9, he⟩ => ?_
    replace e9 := e9.symm
    subst e9 he
    refine Ok.pos (by simp) (Ok.neg (by rw [hye]; simp) (Ok.ld (awakeA 20 _) (Ok.ld rfl ?_)))
    -- what is left: of Less and of Scale
    have g18 := g17.trans g8
    -- Scale
    have fin : ∀ H9, Gr H9 H9 → Gr H H9 → Gr H2 H9 → Ok (r8_j6 (appA 20) v a b rx.1 rx.2 H9) fun r _ => r = true := fun H9 _ g9 g29 => by
      obtain ⟨x, e⟩ := rx
      dsimp only at h2 ⊢
      have bad : ¬ ((1 ≤ a ∧ a ≤ 30) ∧ 1 ≤ b ∧ b ≤ 30) → Ok (r8_j4 (appA 20) v a b x e true H9) fun r _ => r = true := fun hno => by
        rw [if_neg (fun c => hno c.2)] at h2
        injection h2 with hx1 hx2
        subst hx1 hx2
        unfold r8_j4
        exact Ok.pos rfl (Ok.pos rfl (Ok.ret rfl))
      unfold r8_j6
      refine Ok.ite (fun c => bad (by omega)) fun c1 => Ok.ite (fun c => bad (by omega)) fun c2 => Ok.ite (fun c => bad (by omega)) fun c3 => ?_
      by_cases c4 : 30 < b
      · rw [decide_eq_true c4]; exact bad (by omega)
      · rw [decide_eq_false c4]
        unfold r8_j4
        have hA : 1 ≤ a ∧ a ≤ 30 := by omega
        have hB : 1 ≤ b ∧ b ≤ 30 := by omega
        rw [if_pos ⟨ho, hA, hB⟩] at h2
        refine Ok.neg (by simp) (Ok.bind (r38_ok (hv.gr g9) (by omega) ho.2.2.1 hA hB) fun q H10 ⟨g10, hq⟩ => ?_)
        by_cases hs : ∀ x ∈ l, x.1 * a ≤ 30 ∧ x.2 * b ≤ 30
        · rw [if_pos ((off_scale ho hA hB).2 hs)] at h2
          rw [if_pos hs] at hq
          refine Ok.bind (r30_ok (h2.1.gr (g29.trans g10)) hq.1 (by simp; omega)) fun e2 H11 ⟨e11, he2⟩ => ?_
          subst e11 he2
          refine Ok.pos (by simp) (Ok.ret ?_)
          have z1 := h2.2
          have z2 := hq.2
          dsimp only at z1 z2 ⊢
          rw [z1, z2]; rfl
        · rw [if_neg (fun c => hs ((off_scale ho hA hB).1 c))] at h2
          rw [if_neg hs] at hq
          injection h2 with hx1 hx2
          subst hx1 hx2 hq
          refine Ok.bind (r30_ok (l := []) (l' := []) SL.nilS SL.nilS (by simp)) fun e2 H11 ⟨e11, he2⟩ => ?_
          subst e11 he2
          exact Ok.pos (by simp) (Ok.ret rfl)
    have g2_8 := g3.trans (g4.trans gy)
    obtain ⟨z, ez⟩ := rz
    dsimp only at h6 ⊢
    unfold r8_j0
    refine Ok.neg (by simp) ?_
    have outr : ¬ (0 ≤ d ∧ d < l.length) → ∀ t, t = true → Ok (r8_j2 (appA 20) v a b d rx.1 rx.2 z ez t H8) fun r _ => r = true := fun hno t ht2 => by
      subst ht2
      rw [if_neg (fun c => hno c.2)] at h6
      injection h6 with hz1 hz2
      subst hz1 hz2
      unfold r8_j2
      refine Ok.pos rfl (Ok.neg (by simp) ?_)
      unfold r8_j1
      exact Ok.neg (by simp) (fin _ (.refl _) g18 g2_8)
    refine Ok.ite (fun c => outr (by omega) _ rfl) fun c0 => ?_
    by_cases hd : d < l.length
    · obtain ⟨i, rfl⟩ : ∃ i : Nat, d = i := ⟨d.toNat, by omega⟩
      have hi : i < l.length := by omega
      rw [if_pos ⟨ho, by omega, hd⟩, Int.toNat_natCast] at h6
      rw [decide_eq_false (by omega)]
      unfold r8_j2
      refine Ok.neg (by simp) ?_
      by_cases h1 : l.length = 1
      · rw [if_neg (fun c => (off_erase ho hi).1 c h1)] at h6
        injection h6 with hz1 hz2
        subst hz1 hz2
        refine Ok.pos (by omega) (Ok.neg (by simp) ?_)
        unfold r8_j3
        exact Ok.neg (by simp) (fin _ (.refl _) g18 g2_8)
      · rw [if_pos ((off_erase ho hi).2 h1)] at h6
        obtain ⟨hz, rfl⟩ := h6
        have hnil : v.nil = false := hv.nonnil (by intro c; rw [c] at hd; simp at hd; omega)
        refine Ok.neg (by omega) (Ok.bind (r24_ok (hv.gr g18) hb) fun w9 H9 ⟨g9, _, _, hw9⟩ => ?_)
        obtain ⟨ho9, hw9b⟩ := hw9 hnil
        rw [htk] at ho9
        refine Ok.bind (P := fun u H' => SL H' u (l.eraseIdx i) ∧ Only w9.b H9 H') ?_ fun u H10 ⟨hu2, on⟩ => ?_
        · show Ok (delR 2 [.int .i64 0, .int .i64 0] w9 _ _ H9) _
          exact del_ok ho9 hi (by omega) rfl _ rfl (by rw [w64_succ (by omega)])
        · have g10 : Gr H8 H10 := on.gr g9 hw9b
          refine Ok.bind (r30_ok (hz.gr (g7.trans (g8.trans g10))) hu2 (by rw [List.length_eraseIdx]; split <;> omega)) fun e2 H11 ⟨e11, he2⟩ => ?_
          subst e11 he2
          refine Ok.pos (by simp) ?_
          unfold r8_j5
          exact Ok.neg (by simp) (fin _ (.refl _) (g18.trans g10) (g2_8.trans g10))
    · rw [decide_eq_true (by omega)]
      exact outr (by omega) _ rfl
  · have ho' : ¬ offP (l.take 11) := fun c => ho ((off11 l).1 c)
    rw [if_neg ho'] at h4
    rw [if_neg (fun c => ho' c.1)] at h2 h6
    subst h2 h4 h6
    rw [decide_eq_false ho]
    refine Ok.neg (by simp) (Ok.pos (by show w64 (w64 (((0 : Nat) : Int) + ((0 : Nat) : Int)) + ((0 : Nat) : Int)) = 0; decide +kernel) (Ok.pos rfl (Ok.pos rfl (Ok.pos rfl (Ok.ld (awakeA 20 _) (Ok.ld rfl (Ok.ret rfl)))))))
theorem lawCall8 (H : Hp) (xs : List AV) (_ : NoOwn H) (h : RdAs H [.sl (.rep 2 (.int .i64)), .int .i64, .int .i64, .int .i64] xs) : ∃ H1, CallSim Try.prog 8 xs H (.bool true) H1 := by
  obtain ⟨x, _, rfl, hx, y, _, rfl, hy, z, _, rfl, hz, u, _, rfl, hu, rfl⟩ := h
  obtain ⟨v, l, rfl, hv, hb⟩ := rd_sl (enc_rep2 enc_int) hx
  obtain ⟨a0, e0, _⟩ : Rd H (.int .i64) [y] := hy
  obtain ⟨a1, e1, _⟩ : Rd H (.int .i64) [z] := hz
  obtain ⟨a2, e2, _⟩ : Rd H (.int .i64) [u] := hu
  injection e0 with e0
  injection e1 with e1
  injection e2 with e2
  subst e0; subst e1; subst e2
  obtain ⟨b, H1, h1, rfl⟩ := scalesLaw hv (by unfold maxLen at hb; omega) a0 a1 a2
  exact ⟨H1, sim8 (happ := appASim 20) h1⟩
end Go.Lt.P5
