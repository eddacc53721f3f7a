/- PLAIN LAWS OF WHAT IS COMPUTED, for the statement 'PairsPins'. Nothing is asked of the input. -/
import Derived.Test.YthmhdbmpeepmaaaU10USl
import Derived.Test.YthmhdbmpeepmaaaU10UPlc
import Derived.Test.YthmhdbmpeepmaaaU10UQ
import Derived.Test.YthmhdbmpeepmaaaLLst
set_option linter.unusedVariables false
set_option linter.unusedSimpArgs false
namespace Go.Lt.P8
open Go Go.Lt Go.Proofs
/-- All of the reference -/
theorem r65_ok {l : List Int} {H : Hp} {v : Sl} (hv : SL H v l) (hb : l.length ≤ 1000) {n : Nat} (hn : n ≤ 1000) : Ok (r65 v n H) fun b H' => Gr H H' ∧ (b = true ↔ (∀ x : Nat, x < n → (occF l x 0).length = 1) ∧ l.length = n) := by
  unfold r65
  have hlen := hv.len
  refine Ok.loop (L := fun K (s : Int) H2 => r65_l0 K v n n s H2) (fun m s H' => ∃ i : Nat, s = i ∧ i + m = n ∧ Gr H H' ∧ ∀ x : Nat, x < i → (occF l x 0).length = 1) ?_ FUEL n 0 _ (by unfold FUEL; omega) ⟨0, rfl, by omega, .refl _, fun x h => by omega⟩
  rintro K m s H1 ⟨i, rfl, hm, g, hi⟩ ih
  try dsimp only at *
  rw [r65_l0]
  by_cases h : i < n
  · refine Ok.pos (by omega) ?_
    obtain ⟨w, H2, e2, g2, i2⟩ := r78_spec (x := (i : Int)) (hv.gr g).is.ints (by omega)
    refine Ok.ld e2 ?_
    have hw := i2.ints.len
    dsimp only
    by_cases h1 : (occF l i 0).length = 1
    · refine Ok.neg (by omega) ?_
      rw [w64_succ (by omega)]
      refine ih (m - 1) _ H2 (by omega) ⟨i + 1, rfl, by omega, g.trans g2, fun x hx => ?_⟩
      by_cases e : x = i
      · subst e; exact h1
      · exact hi x (by omega)
    · refine Ok.pos (by omega) (Ok.ret ⟨g.trans g2, ?_⟩)
      simp only [Bool.false_eq_true, false_iff]
      rintro ⟨a, b⟩
      exact h1 (a i h)
  · refine Ok.neg (by omega) (Ok.ret ⟨g, ?_⟩)
    rw [decide_eq_true_iff]
    constructor
    · intro e; exact ⟨fun x hx => hi x (by omega), by omega⟩
    · rintro ⟨_, e⟩; omega
section
variable {l : List Int} {v : Sl} {H : Hp} {Q : Bool → Hp → Prop}
theorem r45_l2_ok (hv : SL H v l) (hb : l.length ≤ 1000) (hr : ∀ i (h : i < l.length), 0 ≤ l[i] ∧ l[i] < l.length) {kt : Sl → Int → Int → Int → Hp → Option (Bool × Hp)} {d i lim : Nat} (hid : i + d < l.length)
    (k1 : (∀ j (hj : j < i), l[i + d] - l[i] ≠ l[j + d] - l[j]) → Ok (kt v d lim ((i + 1 : Nat) : Int) H) Q) (k2 : (∃ j, ∃ (hj : j < i), l[i + d] - l[i] = l[j + d] - l[j]) → Q false H) :
    Ok (r45_l2 kt FUEL v d i lim i i 0 H) Q := by
  have hlen := hv.len
  refine Ok.loop (L := fun K (s : Int) H2 => r45_l2 kt K v d i lim i i s H2) (fun m s H' => H' = H ∧ ∃ j : Nat, s = j ∧ j + m = i ∧ ∀ t (ht : t < i), t < j → l[i + d] - l[i] ≠ l[t + d] - l[t]) ?_ FUEL i 0 H (by unfold FUEL; omega) ⟨rfl, 0, rfl, by omega, fun t h h2 => by omega⟩
  rintro K m s H1 ⟨rfl, j, rfl, hm, hj⟩ ih
  try dsimp only at *
  rw [r45_l2]
  by_cases h : j < i
  · have b1 := hr (i + d) hid
    have b2 := hr i (by omega)
    have b3 := hr (j + d) (by omega)
    have b4 := hr j (by omega)
    rw [w64_id (n := (i : Int) + d) (by omega) (by omega), w64_id (n := (j : Int) + d) (by omega) (by omega), w64_succ (by omega)]
    have e1 : (i : Int) + d = ((i + d : Nat) : Int) := by omega
    have e2 : (j : Int) + d = ((j + d : Nat) : Int) := by omega
    rw [e1, e2]
    refine Ok.pos (by omega) (Ok.ck (by omega) (Ok.ld (hv.ldI (i := i + d) (j := 0) hid rfl) (Ok.ck (by omega) (Ok.ld (hv.ldI (i := i) (j := 0) (by omega) rfl) (Ok.ck (by omega) (Ok.ld (hv.ldI (i := j + d) (j := 0) (by omega) rfl) (Ok.ck (by omega) (Ok.ld (hv.ldI (i := j) (j := 0) (by omega) rfl) ?_))))))))
    rw [w64_id (n := l[i + d] - l[i]) (by omega) (by omega), w64_id (n := l[j + d] - l[j]) (by omega) (by omega)]
    refine Ok.ite (fun hc => Ok.ret (k2 ⟨j, h, hc⟩)) fun hc => ?_
    refine ih (m - 1) _ _ (by omega) ⟨rfl, j + 1, rfl, by omega, fun t ht ht2 => ?_⟩
    by_cases e : t = j
    · subst e; exact hc
    · exact hj t ht (by omega)
  · refine Ok.neg (by omega) ?_
    rw [w64_succ (by omega)]
    exact k1 fun t ht => hj t ht (by omega)
theorem r45_l1_ok (hv : SL H v l) (hb : l.length ≤ 1000) (hr : ∀ i (h : i < l.length), 0 ≤ l[i] ∧ l[i] < l.length) {kt : Sl → Int → Hp → Option (Bool × Hp)} {d : Nat} (hd : d ≤ l.length)
    (k1 : (∀ i j (hi : i + d < l.length) (hj : j < i), l[i + d] - l[i] ≠ l[j + d] - l[j]) → Ok (kt v ((d + 1 : Nat) : Int) H) Q) (k2 : (∃ i j, ∃ (hi : i + d < l.length) (hj : j < i), l[i + d] - l[i] = l[j + d] - l[j]) → Q false H) :
    Ok (r45_l1 kt FUEL v d ((l.length - d : Nat) : Int) 0 H) Q := by
  have hlen := hv.len
  refine Ok.loop (L := fun K (s : Int) H2 => r45_l1 kt K v d ((l.length - d : Nat) : Int) s H2) (fun m s H' => H' = H ∧ ∃ i0 : Nat, s = i0 ∧ i0 + m = l.length - d ∧ ∀ i j (hi : i + d < l.length) (hj : j < i), i < i0 → l[i + d] - l[i] ≠ l[j + d] - l[j]) ?_ FUEL (l.length - d) 0 H (by unfold FUEL; omega) ⟨rfl, 0, rfl, by omega, fun i j h h2 h3 => by omega⟩
  rintro K m s H1 ⟨rfl, i0, rfl, hm, hi⟩ ih
  try dsimp only at *
  rw [r45_l1]
  by_cases h : i0 < l.length - d
  · refine Ok.pos (by omega) ?_
    refine r45_l2_ok hv hb hr (i := i0) (by omega) (fun hg => ?_) fun ⟨j, hj, e⟩ => k2 ⟨i0, j, by omega, hj, e⟩
    refine ih (m - 1) _ _ (by omega) ⟨rfl, i0 + 1, rfl, by omega, fun i j h1 h2 h3 => ?_⟩
    by_cases e : i = i0
    · subst e; exact hg j h2
    · exact hi i j h1 h2 (by omega)
  · refine Ok.neg (by omega) ?_
    rw [w64_succ (by omega)]
    exact k1 fun i j h1 h2 => hi i j h1 h2 (by omega)
theorem r45_l0_ok (hv : SL H v l) (hb : l.length ≤ 1000) (hr : ∀ i (h : i < l.length), 0 ≤ l[i] ∧ l[i] < l.length) :
    Ok (r45_l0 FUEL v 1 H) fun b H' => H' = H ∧ (b = true ↔ ∀ d i j (hd : 0 < d) (hi : i + d < l.length) (hj : j < i), l[i + d] - l[i] ≠ l[j + d] - l[j]) := by
  have hlen := hv.len
  refine Ok.loop (L := fun K (s : Int) H2 => r45_l0 K v s H2) (fun m s H' => H' = H ∧ ∃ d0 : Nat, s = d0 ∧ d0 + m = l.length + 1 ∧ 1 ≤ d0 ∧ ∀ d i j (hd : 0 < d) (hi : i + d < l.length) (hj : j < i), d < d0 → l[i + d] - l[i] ≠ l[j + d] - l[j]) ?_ FUEL l.length 1 H (by unfold FUEL; omega) ⟨rfl, 1, rfl, by omega, by omega, fun d i j h h2 h3 => by omega⟩
  rintro K m s H1 ⟨rfl, d0, rfl, hm, hd1, hi⟩ ih
  try dsimp only at *
  rw [r45_l0]
  by_cases h : d0 < l.length
  · refine Ok.pos (by omega) ?_
    rw [w64_id (by omega) (by omega), show (v.len : Int) - d0 = ((l.length - d0 : Nat) : Int) by omega]
    refine r45_l1_ok hv hb hr (by omega) (fun hg => ?_) fun ⟨i, j, h1, h2, e⟩ => ⟨rfl, by
      simp only [Bool.false_eq_true, false_iff]
      intro hall
      exact hall d0 i j (by omega) h1 h2 e⟩
    refine ih (m - 1) _ _ (by omega) ⟨rfl, d0 + 1, rfl, by omega, by omega, fun d i j h0 h1 h2 h3 => ?_⟩
    by_cases e : d = d0
    · subst e; exact hg i j h1 h2
    · exact hi d i j h0 h1 h2 (by omega)
  · refine Ok.neg (by omega) (Ok.ret ⟨rfl, ?_⟩)
    simp only [true_iff]
    exact fun d i j h0 h1 h2 => hi d i j h0 h1 h2 (by omega)
end
theorem all_pins {l : List Int} : ((∀ x : Nat, x < l.length → (occF l x 0).length = 1) ∧ l.length = l.length) ↔ (∀ i (h : i < l.length), 0 ≤ l[i] ∧ l[i] < l.length) ∧ l.Nodup := by
  simp only [occ_count, and_true]
  constructor
  · intro h
    have hs := range_ints_nodup l.length
    have hsub : ∀ x ∈ ((List.range l.length).map fun (x : Nat) => (x : Int)), x ∈ l := by
      intro x hx
      obtain ⟨y, hy, rfl⟩ := List.mem_map.1 hx
      have := h y (by simpa using hy)
      exact List.count_pos_iff.1 (by omega)
    have hp : ((List.range l.length).map fun (x : Nat) => (x : Int)).Perm l := by
      refine perm_of_sub hs hsub (by simp)
    refine ⟨fun i hi => ?_, hp.nodup_iff.1 hs⟩
    have := hp.mem_iff.2 (List.getElem_mem hi)
    obtain ⟨y, hy, e⟩ := List.mem_map.1 this
    simp at hy
    omega
  · rintro ⟨h1, h2⟩ x hx
    have : (x : Int) ∈ l := onto h2 (fun y hy => by obtain ⟨i, hi, rfl⟩ := List.mem_iff_getElem.1 hy; exact h1 i hi) hx
    have h3 := List.nodup_iff_count.1 h2 (x : Int)
    have := List.count_pos_iff.2 this
    omega
theorem pins_ref {l : List Int} : Pins l ↔ ((∀ i (h : i < l.length), 0 ≤ l[i] ∧ l[i] < l.length) ∧ l.Nodup) ∧ ∀ d i j (hd : 0 < d) (hi : i + d < l.length) (hj : j < i), l[i + d] - l[i] ≠ l[j + d] - l[j] := by
  constructor
  · intro h
    refine ⟨⟨h.rng, h.nodup⟩, fun d i j hd hi hj e => ?_⟩
    have := h.arr (i + d) i (j + d) j hi (by omega) (by omega) (by omega) (by omega) e
    omega
  · rintro ⟨⟨h1, h2⟩, h3⟩
    refine ⟨h1, fun i j hi hj e => nodup_inj h2 hi hj e, fun i j i' j' hi hi' hj hj' e1 e2 => ?_⟩
    rcases Nat.lt_trichotomy i i' with hlt | rfl | hgt
    · have := h3 (i - j) j' j (by omega) (by omega) (by omega)
      simp only [show j' + (i - j) = i' by omega, show j + (i - j) = i by omega] at this
      exact absurd e2.symm this
    · rfl
    · have := h3 (i - j) j j' (by omega) (by omega) (by omega)
      simp only [show j' + (i - j) = i' by omega, show j + (i - j) = i by omega] at this
      exact absurd e2 this
/-- IsPins of the reference -/
theorem r45_ok {l : List Int} {H : Hp} {v : Sl} (hv : SL H v l) (hb : l.length ≤ 1000) : Ok (r45 v H) fun b H' => Gr H H' ∧ b = pinsF l := by
  unfold r45
  have hlen := hv.len
  rw [hlen]
  refine Ok.bind (r65_ok hv hb hb) fun b H1 ⟨g, hb1⟩ => ?_
  rw [all_pins] at hb1
  refine Ok.ite (fun hc => ?_) fun hc => Ok.ret ⟨g, ?_⟩
  · have h1 := hb1.1 hc
    refine (r45_l0_ok (hv.gr g) hb h1.1).mono fun b2 H2 ⟨e, h2⟩ => ⟨by rw [e]; exact g, ?_⟩
    rw [Bool.eq_iff_iff, h2, pinsF_iff, pins_ref]
    exact ⟨fun h => ⟨h1, h⟩, fun h => h.2⟩
  · dsimp only at hc
    rw [hb1] at hc
    symm
    rw [Bool.eq_false_iff]
    intro h
    rw [pinsF_iff, pins_ref] at h
    exact hc h.1
end Go.Lt.P8
