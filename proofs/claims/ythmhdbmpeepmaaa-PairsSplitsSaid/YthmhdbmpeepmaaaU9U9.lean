/- PLAIN LAWS OF WHAT IS COMPUTED, for the statement 'PairsSplits'. Nothing is asked of the input. -/
import Derived.Test.YthmhdbmpeepmaaaU9USpl2
import Derived.Test.YthmhdbmpeepmaaaU9UFirst
import Derived.Test.YthmhdbmpeepmaaaU9URd
set_option linter.unusedVariables false
namespace Go.Lt.P8
open Go Go.Lt Go.Proofs
/-- the pairs of places, by the reference -/
theorem r43_ok {row : List Int} {H : Hp} {v : Sl} (hv : SL H v row) (hr : refRow 1 row = true) : Ok (r43 v H) fun w H' => Gr H H' ∧ ∃ l, placesF 1 row = some l ∧ SL H' w (splitF l 0) := by
  have hp := placesF_ref (s := 1) (row := row) (.inl rfl)
  rw [if_pos hr] at hp
  obtain ⟨_, p2, p3, p4, p5, p6⟩ := placesF_some hp
  unfold r43
  have hlen := hv.len
  rw [half hlen (by omega)]
  have hall := hr
  unfold refRow at hall
  rw [Bool.and_eq_true, List.all_eq_true] at hall
  refine Ok.loop (L := fun K (s : Sl × Int) H2 => r43_l0 K v s.1 ((row.length / 2 : Nat) : Int) s.2 H2) (fun m s H' => ∃ i : Nat, s.2 = i ∧ i + m = row.length / 2 ∧ Gr H H' ∧ AccL H.n H' s.1 ((splitF ((List.range' 1 (row.length / 2)).map fun (k : Nat) => (occF row (k : Int) 0).getD 0 0) 0).take i)) ?_ FUEL (row.length / 2) (⟨true, 0, 0, 0, 0, 0⟩, 0) H (by unfold FUEL; omega) ⟨0, rfl, by omega, .refl _, by simp; exact .nilS⟩
  rintro K m ⟨w, s⟩ H1 ⟨i, rfl, hm, g, hw⟩ ih
  try dsimp only at *
  rw [r43_l0]
  by_cases h : i < row.length / 2
  · refine Ok.pos (by omega) ?_
    rw [w64_succ (by omega)]
    obtain ⟨w2, H2, e2, g2, i2⟩ := r78_spec (x := ((i + 1 : Nat) : Int)) (hv.gr g).is.ints (by omega)
    refine Ok.ld e2 ?_
    dsimp only
    have hk := hall.2 (i + 1) (by rw [List.mem_range'_1]; omega)
    unfold refK at hk
    rw [Bool.and_eq_true, beq_iff_eq, beq_iff_eq] at hk
    obtain ⟨hk1, hk2⟩ := hk
    have hwl := i2.ints.len
    rw [hk1] at hwl
    refine Ok.ck (by omega) (Ok.ld (i2.sl.ldI (i := 0) (j := 0) (by omega) rfl) (Ok.ck (by omega) (Ok.ld (i2.sl.ldI (i := 1) (j := 0) (by omega) rfl) ?_)))
    have hb0 : 0 ≤ (occF row ((i + 1 : Nat) : Int) 0)[0] ∧ (occF row ((i + 1 : Nat) : Int) 0)[0] < 100 := by
      obtain ⟨t, ht, e, _⟩ := occF_mem (List.getElem_mem (l := occF row ((i + 1 : Nat) : Int) 0) (n := 0) (by omega))
      omega
    rw [List.getD_eq_getElem?_getD, List.getElem?_eq_getElem (by omega), List.getD_eq_getElem?_getD, List.getElem?_eq_getElem (by omega)] at hk2
    simp only [Option.getD_some] at hk2
    rw [w64_id (n := (occF row ((i + 1 : Nat) : Int) 0)[0] + 1) (by omega) (by omega), w64_id (n := (occF row ((i + 1 : Nat) : Int) 0)[1] + 1) (by omega) (by omega)]
    have hsl := splitF_get ((List.range' 1 (row.length / 2)).map fun (k : Nat) => (occF row (k : Int) 0).getD 0 0) 0
    have hil : i < (splitF ((List.range' 1 (row.length / 2)).map fun (k : Nat) => (occF row (k : Int) 0).getD 0 0) 0).length := by rw [hsl.1]; simp; exact h
    have hge := hsl.2 i hil (by simp; exact h)
    refine Ok.bind ((hw.gr g2).push (g.trans g2) ((occF row ((i + 1 : Nat) : Int) 0)[0] + 1, (occF row ((i + 1 : Nat) : Int) 0)[1] + 1) rfl rfl (by simp; omega)) fun w3 H3 ⟨h1, g3, _⟩ => ?_
    refine ih (m - 1) (w3, _) H3 (by omega) ⟨i + 1, rfl, by omega, g3, ?_⟩
    rw [List.take_succ_eq_append_getElem hil, hge]
    have e3 : ((List.range' 1 (row.length / 2)).map fun (k : Nat) => (occF row (k : Int) 0).getD 0 0)[i]'(by simp; exact h) = (occF row ((i + 1 : Nat) : Int) 0)[0] := by
      simp only [List.getElem_map, List.getElem_range', Nat.one_mul]
      rw [Nat.add_comm 1 i, List.getD_eq_getElem?_getD, List.getElem?_eq_getElem (by omega)]
      rfl
    rw [e3]
    have e4 : (occF row ((i + 1 : Nat) : Int) 0)[0] + ((0 + i : Nat) : Int) + (2 : Int) = (occF row ((i + 1 : Nat) : Int) 0)[1] + 1 := by omega
    rw [e4]
    exact h1
  · refine Ok.neg (by omega) (Ok.ret ⟨g, _, hp, ?_⟩)
    have := hw.sl
    rw [List.take_of_length_le (by rw [(splitF_get _ _).1]; simp; omega)] at this
    exact this
/-- Turn -/
theorem r41_ok {s : Int} {row : List Int} {H : Hp} {v : Sl} (hv : SL H v row) (hb : row.length ≤ 1000) : Ok (r41 s v H) fun r H' => Gr H H' ∧ if placesF s row = none then r = (nilS, 2) else r.2 = 0 ∧ SL H' r.1 row.reverse := by
  unfold r41
  obtain ⟨w, ok, H1, e1, g1, h1⟩ := r81_spec (s := s) hv.is (by omega)
  refine Ok.ld e1 ?_
  cases hp : placesF s row with
  | none =>
    rw [hp] at h1
    rw [h1.2]
    exact Ok.neg (by simp) (Ok.ret ⟨g1, by simp; rfl⟩)
  | some l =>
    rw [hp] at h1
    rw [h1.1]
    obtain ⟨_, p2, p3, p4, p5, p6⟩ := placesF_some hp
    have h0 : row ≠ [] := fun e => by rw [e] at p2; simp at p2
    refine Ok.pos rfl ?_
    obtain ⟨w2, H2, e2, g2, i2, n2, b2⟩ := r36_is (hv.gr g1).is (by omega)
    obtain ⟨b1, b2, b3, b4⟩ := b2 (hv.nonnil h0)
    refine Ok.ld e2 ?_
    obtain ⟨H3, e3, g3, h3⟩ := r40_spec (Hb := H1) (v := w2) i2.ints.len b4 (by omega) h0 b1 g2 b3
    refine Ok.ld e3 (Ok.ret ⟨g1.trans g3, ?_⟩)
    rw [if_neg (by simp)]
    refine ⟨rfl, .of_get (by rw [encs_ints]; exact h3) b4 (by rw [i2.ints.len]; simp) i2.cap i2.opn (by rw [n2]; exact hv.nonnil h0)⟩
theorem half' {row : List Int} {v : Sl} (hlen : v.len = row.length) (hb : row.length < 9223372036854775808) : w64 (Int.tdiv (v.len : Int) 2) = ((row.length / 2 : Nat) : Int) := by
  rw [hlen, Int.tdiv_eq_ediv_of_nonneg (by omega), w64_id (by omega) (by omega)]
  omega
theorem r34_ok {s : Int} (hs1 : -9223372036854775808 ≤ s) (hs2 : s < 9223372036854775807 - 100) {row : List Int} {H : Hp} {v : Sl} (hv : SL H v row) (hb : row.length < 9223372036854775808) : Ok (r34 s v H) fun b H' => Gr H H' ∧ b = refRow s row := by
  by_cases hc : row.length < 4611686018427387904
  · obtain ⟨H', e, g⟩ := r34_spec hs1 hs2 hv.is.ints hc
    exact ⟨_, H', e, g, rfl⟩
  · unfold r34
    rw [half' hv.len hb]
    refine Ok.neg (by omega) (Ok.pos (by omega) ?_)
    unfold r34_j0
    refine Ok.pos rfl (Ok.ret ⟨.refl _, ?_⟩)
    unfold refRow
    rw [decide_eq_false (by omega)]
    rfl
theorem awake_ok {H : Hp} : Ok (r23 (app 10) H) fun b _ => b = true := by
  obtain ⟨H', e⟩ := awake10 H
  exact ⟨_, _, e, rfl⟩
theorem r25_ok {H : Hp} {v w : Sl} {l l' : List Int} (h : SL H v l) (h' : SL H w l') (hb : l.length ≤ 1000000) : Ok (r25 v w H) fun b H' => H' = H ∧ b = decide (l = l') :=
  ⟨_, _, r25_spec h.is.ints h'.is.ints (by omega), rfl, rfl⟩
theorem r31_ok {H : Hp} {v : Sl} {l : List Int} (h : SL H v l) : Ok (r31 v H) fun w H' => Gr H H' ∧ SL H' w (l.take 20) := by
  obtain ⟨w, H', e, g, i, _⟩ := r31_spec h.is
  exact ⟨w, H', e, g, i.sl⟩
abbrev T (b : Bool) (_ : Hp) : Prop := b = true
theorem split_part7 {pins : List Int} {H : Hp} {v1 v2 : Sl} {e : Int} (h1 : SL H v1 pins) (hl : pins.length < 9223372036854775808)
    (h2 : if (1 ≤ (pins.take 20).length ∧ (pins.take 20).length ≤ 6) ∧ pinsF (pins.take 20) = true then e = 0 ∧ IS H v2 (quarter (pins.take 20)) ∧ v2.nil = false else v2 = ⟨true, 0, 0, 0, 0, 0⟩ ∧ e = 2) :
    Ok (r9_j7 (app 10) v1 v2 e H) T := by
  unfold r9_j7
  have hlen := h1.len
  have bad : ∀ H', ¬ (((1 ≤ (pins.take 20).length ∧ (pins.take 20).length ≤ 6) ∧ pinsF (pins.take 20) = true)) → Ok (r9_j0 (app 10) v1 v2 e true H') T := by
    intro H' hc
    rw [if_neg hc] at h2
    obtain ⟨rfl, rfl⟩ := h2
    unfold r9_j0
    exact Ok.pos rfl (Ok.pos rfl (Ok.pos rfl (Ok.bind awake_ok fun b _ hb => Ok.ret hb)))
  refine Ok.ite (fun hc => bad _ fun h => ?_) fun hc1 => Ok.ite (fun hc => bad _ fun h => ?_) fun hc2 => ?_
  · have := h.1.1; simp at this; omega
  · have := h.1.2; simp at this; omega
  · have ht : pins.take 20 = pins := List.take_of_length_le (by omega)
    rw [ht] at h2 bad
    refine Ok.bind (r45_ok h1 (by omega)) fun b H1 ⟨g1, hb⟩ => ?_
    subst hb
    dsimp only
    cases hp : pinsF pins with
    | false => exact bad _ (by rw [hp]; simp)
    | true =>
      rw [if_pos ⟨⟨by omega, by omega⟩, hp⟩] at h2
      obtain ⟨rfl, i2, _⟩ := h2
      unfold r9_j0
      refine Ok.neg (by simp) ?_
      refine Ok.bind (r46_ok (h1.gr g1) (by omega) ((pinsF_iff pins).1 hp).rng) fun w H2 ⟨g2, i3⟩ => ?_
      refine Ok.bind (r25_ok (i2.sl.gr (g1.trans g2)) i3 (by rw [(quarter_get ((pinsF_iff pins).1 hp)).1]; omega)) fun b H3 ⟨_, hb⟩ => ?_
      subst hb
      exact Ok.pos (by simp) (Ok.pos rfl (Ok.bind awake_ok fun b _ hb => Ok.ret hb))
theorem splitsLaw {s : Int} {row pins : List Int} {H : Hp} {v w : Sl} (hv : SL H v row) (hw : SL H w pins) (hl : row.length < 9223372036854775808) (hl2 : pins.length < 9223372036854775808) : Ok (r9 (app 10) s v w H) T := by
  unfold r9
  refine Ok.bind (r31_ok hv) fun v1 H1 ⟨g1, i1⟩ => ?_
  refine Ok.bind (r37_ok i1 (by simp; omega)) fun ⟨p, e⟩ H2 ⟨g2, h2⟩ => ?_
  have g12 := g1.trans g2
  refine Ok.bind (r31_ok (hv.gr g12)) fun v3 H3 ⟨g3, i3⟩ => ?_
  refine Ok.bind (r41_ok (s := s) i3 (by simp; omega)) fun ⟨t, f⟩ H4 ⟨g4, h4⟩ => ?_
  have g14 := g12.trans (g3.trans g4)
  refine Ok.bind (r31_ok (hw.gr g14)) fun v5 H5 ⟨g5, i5⟩ => ?_
  obtain ⟨q, e6, H6, h6, g6, i6⟩ := r39_spec i5.is (by simp; omega)
  refine Ok.ld h6 ?_
  have g16 := g14.trans (g5.trans g6)
  have g36 := g3.trans (g4.trans (g5.trans g6))
  have g46 := g5.trans g6
  refine Ok.bind (r34_ok (s := 1) (by omega) (by omega) (hv.gr g16) hl) fun b H7 ⟨g7, hb⟩ => ?_
  subst hb
  dsimp only
  have last : ∀ H', Gr H6 H' → Ok (r9_j6 (app 10) s v w t f q e6 H') T := by
    intro H8 g8
    unfold r9_j6
    have hvl := hv.len
    have hS : Ok (r33 s H8) fun b H' => H' = H8 ∧ b = decide (s = 1 ∨ s = 2) := by
      unfold r33
      by_cases h1 : s = 1
      · rw [if_pos h1]; exact Ok.ret ⟨rfl, by simp [h1]⟩
      · rw [if_neg h1]; exact Ok.ret ⟨rfl, by simp [h1]⟩
    refine Ok.bind hS fun b H9 ⟨e9, hb⟩ => ?_
    subst e9 hb
    dsimp only
    have e7 : ∀ H', Gr H6 H' → Ok (r9_j7 (app 10) w q e6 H') T := fun H' g => by
      refine split_part7 (hw.gr (g16.trans g)) (by omega) ?_
      split
      · rename_i hc
        rw [if_pos hc] at i6
        exact ⟨i6.1, i6.2.1.gr g, i6.2.2⟩
      · rename_i hc
        rw [if_neg hc] at i6
        exact i6
    have none' : ∀ H', Gr H6 H' → placesF s (row.take 20) = none → Ok (r9_j3 (app 10) v w t f q e6 false H') T := by
      intro H' g hn
      rw [if_pos hn] at h4
      unfold r9_j3
      obtain ⟨rfl, rfl⟩ := Prod.mk.inj h4
      refine Ok.neg (by simp) (Ok.neg (by simp [nilS]) ?_)
      unfold r9_j2
      exact Ok.neg (by simp) (e7 _ g)
    refine Ok.ite (fun hc => ?_) fun hc => none' _ g8 ?_
    · have hs : s = 1 ∨ s = 2 := by simpa using hc
      refine Ok.bind (r34_ok (s := s) (by omega) (by omega) (hv.gr (g16.trans g8)) hl) fun b H10 ⟨g10, hb⟩ => ?_
      subst hb
      dsimp only
      have hp := placesF_ref (s := s) (row := row) hs
      cases hr : refRow s row with
      | false =>
        refine none' _ (g8.trans g10) ?_
        by_cases hle : row.length ≤ 20
        · rw [List.take_of_length_le hle, hp, hr]; rfl
        · rw [placesF_ref hs]
          have : refRow s (row.take 20) = false := by
            unfold refRow
            rw [decide_eq_false (by simp; omega)]; rfl
          rw [this]; rfl
      | true =>
        rw [hr] at hp
        obtain ⟨_, p2, p3, p4, p5, p6⟩ := placesF_some hp
        have ht : row.take 20 = row := List.take_of_length_le (by omega)
        rw [ht, if_neg (by rw [hp]; simp)] at h4
        obtain ⟨h4a, h4b⟩ := h4
        dsimp only at h4a h4b
        subst h4a
        unfold r9_j3
        refine Ok.pos rfl ?_
        refine Ok.bind (r44_ok (hv.gr (g16.trans (g8.trans g10))) (by omega)) fun x H11 ⟨g11, i11⟩ => ?_
        refine Ok.bind (r25_ok (h4b.gr (g46.trans (g8.trans (g10.trans g11)))) i11 (by simp; omega)) fun b H12 ⟨e12, hb⟩ => ?_
        subst e12 hb
        refine Ok.pos (by simp) ?_
        unfold r9_j1
        exact Ok.neg (by simp) (e7 _ (g8.trans (g10.trans g11)))
    · unfold placesF
      rw [if_neg]
      rintro ⟨h, _⟩
      exact hc (by simpa using h)
  have hp := placesF_ref (s := 1) (row := row) (.inl rfl)
  refine Ok.ite (fun hr => ?_) fun hr => ?_
  · rw [if_pos hr] at hp
    obtain ⟨_, p2, p3, p4, p5, p6⟩ := placesF_some hp
    have ht : row.take 20 = row := List.take_of_length_le (by omega)
    rw [ht, hp] at h2
    obtain ⟨he, h2⟩ := h2
    dsimp only at he h2
    subst he
    refine Ok.bind (r43_ok (hv.gr (g16.trans g7)) hr) fun x H8 ⟨g8, l', hl', i8⟩ => ?_
    rw [hp] at hl'
    injection hl' with hl'
    subst hl'
    have hprs := h2.gr (g36.trans (g7.trans g8))
    refine Ok.bind (r42_ok hprs i8 (by rw [(splitF_get _ _).1]; simp; omega)) fun b H9 ⟨e9, hb⟩ => ?_
    subst e9 hb
    refine Ok.pos (by simp) ?_
    unfold r9_j4
    exact Ok.neg (by simp) (last _ (g7.trans g8))
  · have hn : placesF 1 (row.take 20) = none := by
      by_cases hle : row.length ≤ 20
      · rw [List.take_of_length_le hle, hp, if_neg hr]
      · rw [placesF_ref (.inl rfl)]
        have : refRow 1 (row.take 20) = false := by
          unfold refRow
          rw [decide_eq_false (by simp; omega)]; rfl
        rw [this]; rfl
    rw [hn] at h2
    obtain ⟨rfl, rfl⟩ := Prod.mk.inj h2
    refine Ok.neg (by simp [nilS]) ?_
    unfold r9_j5
    exact Ok.neg (by simp) (last _ g7)
theorem lawCall9 (H : Hp) (xs : List AV) (_ : NoOwn H) (h : RdAs H [.int .i64, .sl (.int .i64), .sl (.int .i64)] xs) : ∃ H1, CallSim Try.prog 9 xs H (.bool true) H1 := by
  obtain ⟨x, _, rfl, hx, y, _, rfl, hy, z, _, rfl, hz, rfl⟩ := h
  obtain ⟨a0, e0, _⟩ : Rd H (.int .i64) [x] := hx
  injection e0 with e0
  subst e0
  obtain ⟨v, row, rfl, hv, hb, _⟩ := rd_ints hy
  obtain ⟨w, pins, rfl, hw, hb2, _⟩ := rd_ints hz
  obtain ⟨b, H1, h1, rfl⟩ := splitsLaw (s := a0) hv.sl hw.sl (by unfold maxLen at hb; omega) (by unfold maxLen at hb2; omega)
  exact ⟨H1, sim9 (happ := appSim 10) h1⟩
end Go.Lt.P8
