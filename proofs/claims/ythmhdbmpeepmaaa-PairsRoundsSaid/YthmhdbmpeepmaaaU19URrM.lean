/- PLAIN LAWS OF WHAT IS COMPUTED, for the statement 'PairsRounds'. Nothing is asked of the input. -/
import Derived.Test.YthmhdbmpeepmaaaU19URrS
set_option linter.unusedVariables false
set_option linter.unusedSimpArgs false
namespace Go.Lt.P8
open Go Go.Lt Go.Proofs
/-! ### rounds that are made -/
def condR (m r a b : Nat) : Bool := (decide (b = m) && decide (a = r)) || (decide (b < m) && decide (Int.tmod ((a : Int) + b) m = Int.tmod (2 * (r : Int)) m))
def condP (m r a b : Nat) : Bool := decide (Int.tmod ((a : Int) + b - 2 * (r : Int)) m = 0)
def selB (c : Nat → Nat → Bool) (a t : Nat) : List Pr := ((List.range' (a + 1) t).filter (c a)).map fun (b : Nat) => ((a : Int), (b : Int))
def rowB (c : Nat → Nat → Bool) (k a : Nat) : List Pr := (List.range a).flatMap fun a => selB c a (k - (a + 1))
theorem selB_succ (c : Nat → Nat → Bool) (a t : Nat) : selB c a (t + 1) = selB c a t ++ if c a (a + 1 + t) = true then [((a : Int), ((a + 1 + t : Nat) : Int))] else [] := by
  unfold selB
  rw [List.range'_concat, List.filter_append, List.map_append]
  congr 1
  rw [Nat.one_mul]
  by_cases h : c a (a + 1 + t) = true <;> simp [h]
theorem rowB_succ (c : Nat → Nat → Bool) (k a : Nat) : rowB c k (a + 1) = rowB c k a ++ selB c a (k - (a + 1)) := by
  unfold rowB
  rw [List.range_succ, List.flatMap_append]
  simp
theorem selB_len (c : Nat → Nat → Bool) (a t : Nat) : (selB c a t).length ≤ t := by
  unfold selB
  rw [List.length_map]
  exact Nat.le_trans (List.length_filter_le _ _) (by simp)
theorem rowB_len (c : Nat → Nat → Bool) (k : Nat) : ∀ a, (rowB c k a).length ≤ a * k := by
  intro a
  induction a with
  | zero => simp [rowB]
  | succ a ih =>
    rw [rowB_succ, List.length_append, Nat.add_mul]
    have := selB_len c a (k - (a + 1))
    omega
def roundsR (n : Nat) : List (List Pr) := (List.range (2 * n - 1)).map fun r => rowB (condR (2 * n - 1) r) (2 * n) (2 * n)
def rawP (n r : Nat) : List Pr := ((r : Int), ((2 * n - 1 : Nat) : Int)) :: rowB (condP (2 * n - 1) r) (2 * n - 1) (2 * n - 1)
theorem rows_same : ∀ n ∈ [1, 2, 3, 4], ∀ r ∈ List.range (2 * n - 1), (rawP n r).Perm (rowB (condR (2 * n - 1) r) (2 * n) (2 * n)) ∧ srt (rowB (condR (2 * n - 1) r) (2 * n) (2 * n)) = true ∧ (rawP n r).length ≤ 12 := by decide +kernel

section
variable {n : Nat} {Hb : Hp} {Q : Sl → Hp → Prop}
theorem r70_l2_ok (hn : n ≤ 4) {kt : Int → Sl → Int → Int → Sl → Int → Int → Int → Int → Hp → Option (Sl × Hp)} {v2 v5 : Sl} {r a : Nat} (hr : r ≤ 100) (ha : a < 2 * n) {x8 x9 x10 : Int} {x11 : Nat} (hx : x11 ≤ 100) {acc : List Pr} (hacc : acc.length ≤ 1000) {H : Hp} (h5 : AccL Hb.n H v5 acc) (g : Gr Hb H)
    (k : ∀ v5' H', AccL Hb.n H' v5' (acc ++ selB (condR (2 * n - 1) r) a (2 * n - (a + 1))) → Gr Hb H' → Ok (kt n v2 ((2 * n - 1 : Nat) : Int) r v5' x8 x9 x10 ((x11 + 1 : Nat) : Int) H') Q) :
    Ok (r70_l2 kt FUEL n v2 ((2 * n - 1 : Nat) : Int) r v5 a ((a + 1 : Nat) : Int) x8 x9 x10 x11 H) Q := by
  have e2n : w64 (2 * (n : Int)) = ((2 * n : Nat) : Int) := by rw [w64_id (by omega) (by omega)]; push_cast; rfl
  refine Ok.loop (L := fun K (s : Sl × Int) H' => r70_l2 kt K n v2 ((2 * n - 1 : Nat) : Int) r s.1 a s.2 x8 x9 x10 x11 H') (fun m s H' => ∃ t : Nat, s.2 = ((a + 1 + t : Nat) : Int) ∧ t + m = 2 * n - (a + 1) ∧ Gr Hb H' ∧ AccL Hb.n H' s.1 (acc ++ selB (condR (2 * n - 1) r) a t)) ?_ FUEL (2 * n - (a + 1)) (v5, _) H (by unfold FUEL; omega) ⟨0, rfl, by omega, g, by simpa [selB] using h5⟩
  rintro K m ⟨v5, s⟩ H1 ⟨t, hs, hm, g1, h1⟩ ih
  dsimp only at hs h1
  subst hs
  dsimp only
  rw [r70_l2, e2n]
  by_cases h : a + 1 + t < 2 * n
  · have go : ∀ b, b = condR (2 * n - 1) r a (a + 1 + t) → Ok (r70_j3 (fun v1_ v2_ v3_ v4_ v5_ v6_ v7_ v8_ v9_ v10_ v11_ H_ => r70_l2 kt K v1_ v2_ v3_ v4_ v5_ v6_ v7_ v8_ v9_ v10_ v11_ H_) n v2 ((2 * n - 1 : Nat) : Int) r v5 a ((a + 1 + t : Nat) : Int) x8 x9 x10 x11 b H1) Q := by
      intro b hb
      unfold r70_j3
      have hlen : (acc ++ selB (condR (2 * n - 1) r) a t).length ≤ 1100 := by have := selB_len (condR (2 * n - 1) r) a t; rw [List.length_append]; omega
      rw [w64_succ (by omega)]
      refine Ok.ite (fun hc => ?_) fun hc => ?_
      · refine Ok.bind (h1.push g1 ((a : Int), ((a + 1 + t : Nat) : Int)) rfl rfl (by omega)) fun v5' H2 ⟨h2, g2, _⟩ => ?_
        refine ih (m - 1) (v5', _) H2 (by omega) ⟨t + 1, rfl, by omega, g2, ?_⟩
        rw [selB_succ, if_pos (by rw [← hb, hc]), ← List.append_assoc]
        exact h2
      · refine ih (m - 1) (v5, _) H1 (by omega) ⟨t + 1, rfl, by omega, g1, ?_⟩
        rw [selB_succ, if_neg (by rw [← hb]; exact hc), List.append_nil]
        exact h1
    have e1 : w64 ((a : Int) + ((a + 1 + t : Nat) : Int)) = (a : Int) + ((a + 1 + t : Nat) : Int) := w64_id (by omega) (by omega)
    have e2 : w64 (2 * (r : Int)) = 2 * (r : Int) := w64_id (by omega) (by omega)
    rw [e1, e2]
    refine Ok.pos (by omega) (Ok.ite (fun h1' => Ok.ite (fun h2' => go _ ?_) fun h2' => Ok.ite (fun h3 => ?_) fun h3 => go _ ?_) fun h1' => Ok.ite (fun h3 => ?_) fun h3 => go _ ?_)
    · unfold condR; rw [decide_eq_true (by omega), decide_eq_true (by omega)]; rfl
    · exact absurd h3 (by omega)
    · unfold condR; rw [decide_eq_false (show ¬ a = r by omega), decide_eq_false (show ¬ a + 1 + t < 2 * n - 1 by omega)]; simp
    · refine Ok.ck (by omega) (Ok.ck (by omega) (go _ ?_))
      unfold condR; rw [decide_eq_false (show ¬ a + 1 + t = 2 * n - 1 by omega), decide_eq_true (show a + 1 + t < 2 * n - 1 by omega)]; simp
    · unfold condR; rw [decide_eq_false (show ¬ a + 1 + t = 2 * n - 1 by omega), decide_eq_false (show ¬ a + 1 + t < 2 * n - 1 by omega)]; simp
  · refine Ok.neg (by omega) ?_
    have : t = 2 * n - (a + 1) := by omega
    subst this
    rw [w64_succ (by omega)]
    exact k v5 H1 h1 g1
theorem r70_l1_ok (hn : n ≤ 4) {kt : Int → Sl → Int → Int → Int → Hp → Option (Sl × Hp)} {v2 : Sl} {r : Nat} (hr : r ≤ 100) {x6 : Int} {x7 : Nat} (hx : x7 ≤ 100) {ws : List Sl} {ls : List (List Pr)} (hls : ls.length ≤ 1000) {H0 H : Hp} (g0 : Gr H0 H) (h2 : AccS H0.n H v2 ws ls)
    (k : ∀ v2' ws' H', AccS H0.n H' v2' ws' (ls ++ [rowB (condR (2 * n - 1) r) (2 * n) (2 * n)]) → Gr H0 H' → Ok (kt n v2' ((2 * n - 1 : Nat) : Int) x6 ((x7 + 1 : Nat) : Int) H') Q) :
    Ok (r70_l1 kt FUEL n v2 ((2 * n - 1 : Nat) : Int) r ⟨true, 0, 0, 0, 0, 0⟩ x6 x7 ((2 * n : Nat) : Int) 0 H) Q := by
  refine Ok.loop (L := fun K (s : Sl × Int) H' => r70_l1 kt K n v2 ((2 * n - 1 : Nat) : Int) r s.1 x6 x7 ((2 * n : Nat) : Int) s.2 H') (fun m s H' => ∃ a : Nat, s.2 = a ∧ a + m = 2 * n ∧ Gr H H' ∧ AccL H.n H' s.1 (rowB (condR (2 * n - 1) r) (2 * n) a)) ?_ FUEL (2 * n) (_, 0) H (by unfold FUEL; omega) ⟨0, rfl, by omega, .refl _, by simp [rowB]; exact .nilS⟩
  rintro K m ⟨v5, s⟩ H1 ⟨a, hs, hm, g1, h1⟩ ih
  dsimp only at hs h1
  subst hs
  dsimp only
  rw [r70_l1]
  by_cases h : a < 2 * n
  · refine Ok.pos (by omega) ?_
    rw [w64_succ (by omega)]
    have hlen := rowB_len (condR (2 * n - 1) r) (2 * n) a
    have hm2 : a * (2 * n) ≤ 8 * 8 := Nat.mul_le_mul (by omega) (by omega)
    refine r70_l2_ok (Hb := H) hn hr h (by omega) (by omega) h1 g1 fun v5' H2 h3 g2 => ?_
    refine ih (m - 1) (v5', _) H2 (by omega) ⟨a + 1, rfl, by omega, g2, ?_⟩
    rw [rowB_succ]
    exact h3
  · have : a = 2 * n := by omega
    subst this
    refine Ok.neg (by omega) ?_
    have hne : v2.nil = false → v5.nil = false → v5.b ≠ v2.b := fun e1 e2 => by
      have hlt := h2.1.lt e1
      rcases h1 with ⟨rfl, _⟩ | ⟨_, _, _, _, hb, _⟩
      · simp [nilS] at e2
      · omega
    refine Ok.bind ((h2.gr g1).push (g0.trans g1) (h1.sl.hide hne) (by omega)) fun v2' H2 ⟨h3, g2, _⟩ => ?_
    rw [w64_succ (by omega)]
    exact k v2' _ H2 h3 g2
end
/-- Rounds of the reference -/
theorem r70_ok {n : Nat} (hn1 : 1 ≤ n) (hn : n ≤ 4) (H : Hp) : Ok (r70 n H) fun w H' => Gr H H' ∧ ∃ ws, SLL H' w ws (roundsR n) := by
  unfold r70
  have e1 : w64 (w64 (2 * (n : Int)) - 1) = ((2 * n - 1 : Nat) : Int) := by rw [w64_id (n := 2 * (n : Int)) (by omega) (by omega), w64_id (by omega) (by omega)]; omega
  rw [e1]
  refine Ok.loop (L := fun K (s : Sl × Int) H' => r70_l0 K n s.1 ((2 * n - 1 : Nat) : Int) ((2 * n - 1 : Nat) : Int) s.2 H') (fun m s H' => ∃ r : Nat, s.2 = r ∧ r + m = 2 * n - 1 ∧ Gr H H' ∧ ∃ ws, AccS H.n H' s.1 ws ((List.range r).map fun r => rowB (condR (2 * n - 1) r) (2 * n) (2 * n))) ?_ FUEL (2 * n - 1) (_, 0) H (by unfold FUEL; omega) ⟨0, rfl, by omega, .refl _, [], by simp; exact .nilS⟩
  rintro K m ⟨v2, s⟩ H1 ⟨r, hs, hm, g1, ws, h1⟩ ih
  dsimp only at hs h1
  subst hs
  dsimp only
  rw [r70_l0]
  by_cases h : r < 2 * n - 1
  · refine Ok.pos (by omega) ?_
    rw [show w64 (2 * (n : Int)) = ((2 * n : Nat) : Int) by rw [w64_id (by omega) (by omega)]; push_cast; rfl]
    refine r70_l1_ok hn (by omega) (by omega) (by simp; omega) g1 h1 fun v2' ws' H2 h2 g2 => ?_
    refine ih (m - 1) (v2', _) H2 (by omega) ⟨r + 1, rfl, by omega, g2, ws', ?_⟩
    rw [List.range_succ, List.map_append]
    exact h2
  · refine Ok.neg (by omega) (Ok.ret ⟨g1, ws, ?_⟩)
    have : r = 2 * n - 1 := by omega
    subst this
    exact h1.sll
end Go.Lt.P8
