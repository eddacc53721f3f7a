/- PLAIN LAWS OF WHAT IS COMPUTED, for the statement 'PairsSpread'. Nothing is asked of the input. -/
import Derived.Test.YthmhdbmpeepmaaaU12UThA
set_option linter.unusedVariables false
set_option linter.unusedSimpArgs false
namespace Go.Lt.P8
open Go Go.Lt Go.Proofs
abbrev tt2 : Nat → Nat → Bool := fun _ _ => true
theorem rowB_pre (c : Nat → Nat → Bool) (k a : Nat) : ∀ b, a ≤ b → ∃ rest, rowB c k b = rowB c k a ++ rest := by
  intro b
  induction b with
  | zero => intro h; have : a = 0 := by omega
            subst this; exact ⟨[], by simp⟩
  | succ b ih =>
    intro h
    by_cases e : a = b + 1
    · subst e; exact ⟨[], by simp⟩
    · obtain ⟨r, hr⟩ := ih (by omega)
      exact ⟨r ++ selB c b (k - (b + 1)), by rw [rowB_succ, hr, List.append_assoc]⟩
theorem selB_pre (c : Nat → Nat → Bool) (a t : Nat) : ∀ u, t ≤ u → ∃ rest, selB c a u = selB c a t ++ rest := by
  intro u
  induction u with
  | zero => intro h; have : t = 0 := by omega
            subst this; exact ⟨[], by simp⟩
  | succ u ih =>
    intro h
    by_cases e : t = u + 1
    · subst e; exact ⟨[], by simp⟩
    · obtain ⟨r, hr⟩ := ih (by omega)
      exact ⟨r ++ _, by rw [selB_succ, hr, List.append_assoc]⟩
/-- the pairs ahead of a pair, it, and the others -/
theorem allP_at {v a t : Nat} (h : a + 1 + t < v) : ∃ rest, allP v = (rowB tt2 v a ++ selB tt2 a t) ++ ((a : Int), ((a + 1 + t : Nat) : Int)) :: rest := by
  obtain ⟨r1, h1⟩ := rowB_pre tt2 v (a + 1) v (by omega)
  obtain ⟨r2, h2⟩ := selB_pre tt2 a (t + 1) (v - (a + 1)) (by omega)
  refine ⟨r2 ++ r1, ?_⟩
  unfold allP
  rw [show (fun (_ _ : Nat) => true) = tt2 from rfl, h1, rowB_succ, h2, selB_succ, if_pos rfl]
  simp
theorem firstP_at {v a t : Nat} {S : List Pr} (h : a + 1 + t < v) (hp : ∀ p ∈ rowB tt2 v a ++ selB tt2 a t, p ∈ S) (hn : ((a : Int), ((a + 1 + t : Nat) : Int)) ∉ S) : firstP v S = some ((a : Int), ((a + 1 + t : Nat) : Int)) := by
  obtain ⟨rest, e⟩ := allP_at h
  unfold firstP
  rw [e, List.find?_append]
  have : (rowB tt2 v a ++ selB tt2 a t).find? (fun p => decide (p ∉ S)) = none := by
    rw [List.find?_eq_none]
    intro p hm
    simpa using hp p hm
  rw [this, Option.none_or, List.find?_cons_of_pos (p := fun p => decide (p ∉ S)) (decide_eq_true hn)]
def fst3 : Option Pr → Int × Int × Bool
  | none => (0, 0, false)
  | some p => (p.1, p.2, true)
/-- together.first -/
theorem r95_ok {v : Nat} (hv : v ≤ 9) {H : Hp} {mb : Nat} {S : List Pr} (hm : MapP H mb S) : Ok (r95 mb v H) fun r H' => Gr H H' ∧ r = fst3 (firstP v S) := by
  unfold r95
  refine Ok.lt ?_
  have gp := Gr.push H (.cells [.int .i64 0, .int .i64 0] false)
  have hb0 : (H.push (.cells [.int .i64 0, .int .i64 0] false)).get H.n = some (.cells (encs [((0 : Int), (0 : Int))]) false) := by rw [Hp.get_push_new]; rfl
  refine Ok.loop (L := fun K (s : Int) H' => r95_l0 K mb v H.n v s H') (fun m s H' => ∃ a : Nat, s = a ∧ a + m = v ∧ Gr H H' ∧ H'.get H.n = some (.cells (encs [((0 : Int), (0 : Int))]) false) ∧ ∀ p ∈ rowB tt2 v a, p ∈ S) ?_ FUEL v 0 _ (by unfold FUEL; omega) ⟨0, rfl, by omega, gp, hb0, by simp [rowB]⟩
  rintro K m s H1 ⟨a, rfl, hma, g1, hb, hS⟩ ih
  try dsimp only at *
  rw [r95_l0]
  by_cases h : a < v
  · refine Ok.pos (by omega) ?_
    rw [w64_succ (by omega)]
    refine Ok.loop (L := fun K2 (s : Int) H' => r95_l1 (fun v1_ v2_ v3_ v4_ v5_ H_ => r95_l0 K v1_ v2_ v3_ v4_ v5_ H_) K2 mb v H.n a s v a H') (fun m s H' => ∃ t : Nat, s = ((a + 1 + t : Nat) : Int) ∧ t + m = v - (a + 1) ∧ Gr H H' ∧ H'.get H.n = some (.cells (encs [((0 : Int), (0 : Int))]) false) ∧ ∀ p ∈ selB tt2 a t, p ∈ S) ?_ FUEL (v - (a + 1)) _ H1 (by unfold FUEL; omega) ⟨0, rfl, by omega, g1, hb, by simp [selB]⟩
    rintro K2 m2 s H2 ⟨t, rfl, hmt, g2, hb2, hS2⟩ ih2
    try dsimp only at *
    rw [r95_l1]
    have hm2 : MapP H2 mb S := hm.keep (g2.2 _ (Hp.get_lt hm.1))
    by_cases h' : a + 1 + t < v
    · refine Ok.pos (by omega) ?_
      obtain ⟨D, hD, hD', gD, nD⟩ := sts2 H2 (.int .i64 (a : Int)) (.int .i64 ((a + 1 + t : Nat) : Int)) (.int .i64 0) (.int .i64 0)
      have hmD := hm2.keep (gD.2 _ (Hp.get_lt hm2.1))
      have hget := hmD.get ((a : Int), ((a + 1 + t : Nat) : Int))
      unfold pk at hget
      refine Ok.ld hD (Ok.ld (ldI_get hD' rfl) (Ok.ld (ldI_get hD' rfl) (Ok.ld hget ?_)))
      by_cases hp : ((a : Int), ((a + 1 + t : Nat) : Int)) ∈ S
      · rw [if_pos hp]
        refine Ok.ld rfl (Ok.pos rfl ?_)
        rw [w64_succ (by omega)]
        refine ih2 (m2 - 1) _ D (by omega) ⟨t + 1, rfl, by omega, g2.trans gD, by rw [gD.2 _ (Hp.get_lt hb2)]; exact hb2, fun p hpm => ?_⟩
        rw [selB_succ, if_pos rfl] at hpm
        rcases List.mem_append.1 hpm with hpm | hpm
        · exact hS2 p hpm
        · rw [List.mem_singleton] at hpm; rw [hpm]; exact hp
      · rw [if_neg hp]
        refine Ok.ld rfl (Ok.neg (by simp) (Ok.ld (ldI_get hD' rfl) (Ok.ld (ldI_get hD' rfl) ?_)))
        have hbD : D.get H.n = some (.cells (encs [((0 : Int), (0 : Int))]) false) := by rw [gD.2 _ (Hp.get_lt hb2)]; exact hb2
        have own : Own D ⟨false, H.n, 0, 1, 1, 0⟩ [((0 : Int), (0 : Int))] := ⟨rfl, rfl, rfl, Nat.le_refl _, .inl rfl, hbD⟩
        refine own.put (j := 0) (o := 0) (by simp) ((a : Int), ((a + 1 + t : Nat) : Int)) rfl rfl fun H3 o3 g3 n3 => ?_
        have s3 := o3.sl
        have l0 := s3.ldI (i := 0) (j := 0) (n := (a : Int)) (by simp) rfl
        have l1 := s3.ldI (i := 0) (j := 1) (n := ((a + 1 + t : Nat) : Int)) (by simp) rfl
        refine Ok.ld l0 (Ok.ld l1 (Ok.ret ⟨g3.gr (g2.trans gD) (Nat.le_refl _), ?_⟩))
        rw [firstP_at h' (fun p hpm => ?_) hp]
        · rfl
        · rcases List.mem_append.1 hpm with hpm | hpm
          · exact hS p hpm
          · exact hS2 p hpm
    · refine Ok.neg (by omega) ?_
      rw [w64_succ (by omega)]
      refine ih (m - 1) _ H2 (by omega) ⟨a + 1, rfl, by omega, g2, hb2, fun p hpm => ?_⟩
      have : t = v - (a + 1) := by omega
      subst this
      rw [rowB_succ] at hpm
      rcases List.mem_append.1 hpm with hpm | hpm
      · exact hS p hpm
      · exact hS2 p hpm
  · have : a = v := by omega
    subst this
    refine Ok.neg (by omega) ?_
    have own : Own H1 ⟨false, H.n, 0, 1, 1, 0⟩ [((0 : Int), (0 : Int))] := ⟨rfl, rfl, rfl, Nat.le_refl _, .inl rfl, hb⟩
    refine own.put (j := 0) (o := 0) (by simp) ((0 : Int), (0 : Int)) rfl rfl fun H3 o3 g3 n3 => ?_
    have s3 := o3.sl
    have l0 := s3.ldI (i := 0) (j := 0) (n := 0) (by simp) rfl
    have l1 := s3.ldI (i := 0) (j := 1) (n := 0) (by simp) rfl
    refine Ok.ld l0 (Ok.ld l1 (Ok.ret ⟨g3.gr g1 (Nat.le_refl _), ?_⟩))
    have : firstP a S = none := by
      unfold firstP
      rw [List.find?_eq_none]
      intro p hp
      simpa using hS p hp
    rw [this]
    rfl
/-- a triple laid in a block of its own -/
theorem sts3 (H : Hp) (x y z a b c : AV) : ∃ D, (H.push (.cells [a, b, c] false)).sts H.n 0 [x, y, z] = some D ∧ D.get H.n = some (.cells [x, y, z] false) ∧ Gr H D ∧ D.n = H.n + 1 := by
  obtain ⟨D, h1, h2, h3, h4⟩ := sts_blk (b := H.n) [x, y, z] 0 (H.push (.cells [a, b, c] false)) [a, b, c] (by simp) (by simp)
  refine ⟨D, h1, by simpa using h2, ⟨by rw [h3]; simp, fun d hd => ?_⟩, by rw [h3]; simp⟩
  rw [h4 d (by omega), Hp.get_push_old _ _ hd]
end Go.Lt.P8
