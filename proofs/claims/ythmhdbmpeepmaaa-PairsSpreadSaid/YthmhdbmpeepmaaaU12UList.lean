/- PLAIN LAWS OF WHAT IS COMPUTED, for the statement 'PairsSpread'. Nothing is asked of the input. -/
import Derived.Test.YthmhdbmpeepmaaaU12UIdx
set_option linter.unusedVariables false
set_option linter.unusedSimpArgs false
namespace Go.Lt.P8
open Go Go.Lt Go.Proofs

theorem ints_one (l : List Int) : (l.map (AV.int .i64)).all AV.one = true := by simp [AV.one]
theorem ints_new (H : Hp) (l : List Int) (ro : Bool) (cap opn : Nat) : Ints (H.push (.cells (l.map (.int .i64)) ro)) ⟨false, H.n, 0, l.length, cap, opn⟩ l :=
  .mk rfl fun i hi => by simp [Hp.ld, hi]

/-- slices.Clone of numbers -/
theorem r36_spec {H : Hp} {v : Sl} {l : List Int} (h : Ints H v l) (hb : l.length ≤ 4294967296) (hv : v.nil = true → l = []) :
    ∃ v' H', r36 v H = some (v', H') ∧ Gr H H' ∧ Ints H' v' l ∧ v'.nil = v.nil ∧ (v.nil = false → H.n ≤ v'.b) ∧ (v.nil = false → v'.b < H'.n) ∧ (v.nil = true → v' = ⟨true, 0, 0, 0, 0, 0⟩ ∧ l = []) := by
  unfold r36
  by_cases hn : v.nil = true
  · rw [if_pos hn]
    obtain rfl := hv hn
    exact ⟨_, _, rfl, .refl _, .nil rfl, hn.symm, fun e => by simp [hn] at e, fun e => by simp [hn] at e, fun _ => ⟨rfl, rfl⟩⟩
  · rw [if_neg hn]
    simp only [Bool.not_eq_true] at hn
    have h1 := (h.gr (Gr.push H (.cells [] false))).lds
    rw [Nat.mul_one, h1]
    simp only [Option.bind_some, ck, ints_one, if_true]
    have hlen := h.len
    unfold Hp.app
    simp only [Nat.zero_add]
    rw [if_pos (by omega)]
    by_cases h0 : v.len = 0
    · have hl0 : l = [] := List.length_eq_zero_iff.1 (by omega)
      subst hl0
      rw [if_pos (by omega)]
      simp only [Bool.false_eq_true, if_false, List.map_nil, Hp.sts, Option.map_some, Option.bind_some]
      exact ⟨_, _, rfl, .push _ _, .nil h0, hn.symm, fun _ => Nat.le_refl _, fun _ => by simp, fun e => by simp [hn] at e⟩
    · rw [if_neg (by omega)]
      simp only [Hp.lds, Option.bind_some, if_true, List.nil_append, hlen]
      exact ⟨_, _, rfl, (Gr.push _ _).trans (.push _ _), ints_new _ _ _ _ _, hn.symm, fun _ => by simp, fun _ => by simp, fun e => by simp [hn] at e⟩

/-- a slice of numbers as one meets it -/
structure IS (H : Hp) (v : Sl) (l : List Int) : Prop where
  ints : Ints H v l
  cap : v.len ≤ v.cap
  opn : v.opn = 0 ∨ v.opn = 1
  nil : v.nil = true → v = ⟨true, 0, 0, 0, 0, 0⟩ ∧ l = []
theorem IS.gr {H H' : Hp} (g : Gr H H') {v : Sl} {l : List Int} (h : IS H v l) : IS H' v l := ⟨h.ints.gr g, h.cap, h.opn, h.nil⟩
theorem IS.ofAcc {n0 : Nat} {H : Hp} {v : Sl} {l : List Int} (h : Acc n0 1 H v (l.map (.int .i64))) : IS H v l := by
  refine ⟨h.cs, ?_, ?_, ?_⟩ <;> rcases h with ⟨rfl, e⟩ | ⟨h1, h2, h3, h4, h5, h6, h7⟩
  · simp [nilS]
  · omega
  · simp [nilS]
  · omega
  · intro _; simp at e; exact ⟨rfl, e⟩
  · intro e; simp [h1] at e
theorem r36_is {H : Hp} {v : Sl} {l : List Int} (h : IS H v l) (hb : l.length ≤ 4294967296) : ∃ v' H', r36 v H = some (v', H') ∧ Gr H H' ∧ IS H' v' l ∧ v'.nil = v.nil ∧ (v.nil = false → H.n ≤ v'.b ∧ v'.b < H'.n ∧ H'.get v'.b = some (.cells (l.map (.int .i64)) false) ∧ v'.o = 0) := by
  unfold r36
  by_cases hn : v.nil = true
  · rw [if_pos hn]
    obtain ⟨rfl, rfl⟩ := h.nil hn
    exact ⟨_, _, rfl, .refl _, ⟨.nil rfl, by simp, by simp, fun _ => ⟨rfl, rfl⟩⟩, rfl, fun e => by simp at e⟩
  · rw [if_neg hn]
    simp only [Bool.not_eq_true] at hn
    have h1 := (h.ints.gr (Gr.push H (.cells [] false))).lds
    rw [Nat.mul_one, h1]
    simp only [Option.bind_some, ck, ints_one, if_true]
    have hlen := h.ints.len
    unfold Hp.app
    simp only [Nat.zero_add]
    rw [if_pos (by omega)]
    by_cases h0 : v.len = 0
    · have hl0 : l = [] := List.length_eq_zero_iff.1 (by omega)
      subst hl0
      rw [if_pos (by omega)]
      simp only [Bool.false_eq_true, if_false, List.map_nil, Hp.sts, Option.map_some, Option.bind_some]
      exact ⟨_, _, rfl, .push _ _, ⟨.nil h0, by simp; omega, by simp, fun e => by simp at e⟩, hn.symm, fun _ => ⟨Nat.le_refl _, by simp, by simp, rfl⟩⟩
    · rw [if_neg (by omega)]
      simp only [Hp.lds, Option.bind_some, if_true, List.nil_append, hlen]
      exact ⟨_, _, rfl, (Gr.push _ _).trans (.push _ _), ⟨ints_new _ _ _ _ _, by simp, by simp, fun e => by simp at e⟩, hn.symm, fun _ => ⟨by simp, by simp, by rw [Hp.get_push, if_pos (by simp)], rfl⟩⟩

theorem r25_loop {H : Hp} {v w : Sl} {l l' : List Int} (h : Ints H v l) (h' : Ints H w l') (he : l.length = l'.length) (hb : l.length < 4611686018427387904) : ∀ (m i k : Nat), i + m = l.length → m < k →
    r25_l0 k v w (v.len : Int) (i : Int) H = some (decide (l.drop i = l'.drop i), H) := by
  intro m
  induction m with
  | zero =>
    intro i k hi hk
    obtain ⟨k, rfl⟩ : ∃ j, k = j + 1 := ⟨k - 1, by omega⟩
    have hlen := h.len
    rw [r25_l0, if_neg (by omega), List.drop_eq_nil_of_le (by omega), List.drop_eq_nil_of_le (by omega)]
    rfl
  | succ m ih =>
    intro i k hi hk
    obtain ⟨k, rfl⟩ : ∃ j, k = j + 1 := ⟨k - 1, by omega⟩
    have hlen := h.len
    have hlen' := h'.len
    rw [r25_l0, if_pos (by omega)]
    simp only [ck, Int.toNat_natCast, Nat.mul_one]
    rw [if_pos (by omega), h.ldI (i := i) (by omega)]
    simp only [Option.bind_some]
    rw [if_pos (by omega), h'.ldI (i := i) (by omega)]
    simp only [Option.bind_some]
    rw [List.drop_eq_getElem_cons (l := l) (i := i) (by omega), List.drop_eq_getElem_cons (l := l') (i := i) (by omega)]
    by_cases hx : l[i]'(by omega) = l'[i]'(by omega)
    · rw [if_neg (by simpa using hx), w64_id (by omega) (by omega)]
      have := ih (i + 1) k (by omega) (by omega)
      rw [show ((i + 1 : Nat) : Int) = (i : Int) + 1 by push_cast; rfl] at this
      rw [this]
      simp only [hx, List.cons.injEq, true_and]
    · rw [if_pos (by simpa using hx)]
      simp only [List.cons.injEq, hx, false_and, decide_false]
/-- slices.Equal of numbers -/
theorem r25_spec {H : Hp} {v w : Sl} {l l' : List Int} (h : Ints H v l) (h' : Ints H w l') (hb : l.length < 4611686018427387904) : r25 v w H = some (decide (l = l'), H) := by
  unfold r25
  have hlen := h.len
  have hlen' := h'.len
  by_cases he : l.length = l'.length
  · rw [if_neg (by simp; omega)]
    have := r25_loop h h' he hb l.length 0 FUEL (by omega) (by unfold FUEL; omega)
    simpa using this
  · rw [if_pos (by simp; omega)]
    rw [decide_eq_false (fun e => he (by rw [e]))]
end Go.Lt.P8
