/- PLAIN LAWS OF WHAT IS COMPUTED, for the statement 'PairsCosts'. Nothing is asked of the input. -/
import Derived.Test.YthmhdbmpeepmaaaU15UCmp
import Derived.Test.YthmhdbmpeepmaaaU15UPd
import Derived.Test.YthmhdbmpeepmaaaU15UOk
import Derived.Test.YthmhdbmpeepmaaaU15UIs2
set_option linter.unusedVariables false
set_option linter.unusedSimpArgs false
namespace Go.Lt
theorem u64_rng (n : Int) : 0 ≤ IntKind.wrap .u64 n ∧ IntKind.wrap .u64 n < 18446744073709551616 := by
  simp only [IntKind.wrap, IntKind.signed, IntKind.bits]
  simp
  omega
end Go.Lt
namespace Go.Lt.P8
open Go Go.Lt Go.Proofs
def welchF (p g : Int) : Nat → Int → List Int → Option (List Int)
  | 0, _, out => some out
  | m + 1, x, out => if w64 ((Int.tmod (w64 (x * g)) p) - 1) ∈ out then none else welchF p g m (Int.tmod (w64 (x * g)) p) (out ++ [w64 ((Int.tmod (w64 (x * g)) p) - 1)])
/-- Welch -/
theorem r27_ok (p g : Int) (H : Hp) : Ok (r27 p g H) fun r H' => Gr H H' ∧ match (if (p = 2 ∨ p = 3 ∨ p = 5 ∨ p = 7) ∧ 1 ≤ g ∧ g < p then welchF p g (p - 1).toNat 1 [] else none) with
    | none => r.2 = 2
    | some l => r.2 = 0 ∧ SL H' r.1 l := by
  unfold r27
  have gp := Gr.push H (.cells [.int .i64 2, .int .i64 3, .int .i64 5, .int .i64 7] false)
  have hs : SL (H.push (.cells [.int .i64 2, .int .i64 3, .int .i64 5, .int .i64 7] false)) ⟨false, H.n, 0, 4, 4, 0⟩ [(2 : Int), 3, 5, 7] := .of_get (ro := false) (by rw [Hp.get_push_new]; rfl) rfl rfl (Nat.le_refl _) (.inl rfl) rfl
  refine Ok.ld (r77_spec hs.is.ints (by decide) p) ?_
  have bad : ¬ ((p = 2 ∨ p = 3 ∨ p = 5 ∨ p = 7) ∧ 1 ≤ g ∧ g < p) → Ok (r27_j0 p g true (H.push (.cells [.int .i64 2, .int .i64 3, .int .i64 5, .int .i64 7] false))) fun r H' => Gr H H' ∧ match (if (p = 2 ∨ p = 3 ∨ p = 5 ∨ p = 7) ∧ 1 ≤ g ∧ g < p then welchF p g (p - 1).toNat 1 [] else none) with
      | none => r.2 = 2
      | some l => r.2 = 0 ∧ SL H' r.1 l := by
    intro hc
    rw [if_neg hc]
    unfold r27_j0
    exact Ok.pos rfl (Ok.ret ⟨gp, rfl⟩)
  refine Ok.ite (fun hc => ?_) fun hc => bad fun h => hc (by simpa using h.1)
  have hp : p = 2 ∨ p = 3 ∨ p = 5 ∨ p = 7 := by simpa using hc
  refine Ok.ite (fun h1 => bad (by omega)) fun h1 => ?_
  by_cases h2 : p ≤ g
  · rw [decide_eq_true h2]; exact bad (by omega)
  rw [decide_eq_false h2, if_pos ⟨hp, by omega, by omega⟩]
  unfold r27_j0
  refine Ok.neg (by simp) ?_
  dsimp only
  generalize hH1 : H.push (.cells [.int .i64 2, .int .i64 3, .int .i64 5, .int .i64 7] false) = H1 at *
  obtain ⟨n, hn⟩ : ∃ n : Nat, p - 1 = n := ⟨(p - 1).toNat, by omega⟩
  rw [hn, w64_id (by omega) (by omega), Int.toNat_natCast]
  refine Ok.loop (L := fun K (s : Sl × Int × Int) H' => r27_l1 K p g s.1 s.2.1 n s.2.2 H') (fun m s H' => ∃ i : Nat, s.2.2 = i ∧ i + m = n ∧ Gr H1 H' ∧ ∃ out, AccL H1.n H' s.1 out ∧ out.length = i ∧ welchF p g n 1 [] = welchF p g m s.2.1 out) ?_ FUEL n (⟨true, 0, 0, 0, 0, 0⟩, 1, 0) H1 (by unfold FUEL; omega)
    ⟨0, rfl, by omega, .refl _, [], .nilS, rfl, rfl⟩
  rintro K m ⟨v3, x, s⟩ H2 ⟨i, rfl, hm, g2, out, h2, hol, hw⟩ ih
  try dsimp only at *
  rw [r27_l1]
  by_cases h : i < n
  · obtain ⟨m, rfl⟩ : ∃ k, m = k + 1 := ⟨m - 1, by omega⟩
    rw [welchF] at hw
    refine Ok.pos (by omega) (Ok.ck (by omega) (Ok.ld (r77_spec h2.sl.is.ints (by omega) _) ?_))
    refine Ok.ite (fun hc => ?_) fun hc => ?_
    · rw [if_pos (by simpa using hc)] at hw
      rw [hw]
      exact Ok.ret ⟨gp.trans g2, rfl⟩
    · rw [if_neg (by simpa using hc)] at hw
      refine Ok.bind (h2.push g2 _ rfl rfl (by omega)) fun v3' H3 ⟨h3, g3, _⟩ => ?_
      rw [w64_succ (by omega)]
      exact ih m (v3', _, _) H3 (by omega) ⟨i + 1, rfl, by omega, g3, _, h3, by simp [hol], hw⟩
  · have : m = 0 := by omega
    subst this
    rw [welchF] at hw
    rw [hw]
    exact Ok.neg (by omega) (Ok.ret ⟨gp.trans g2, rfl, h2.sl⟩)
theorem welch_pins : ∀ p ∈ [(2 : Int), 3, 5, 7], ∀ g ∈ [(1 : Int), 2, 3, 4, 5, 6], (decide (p ≤ g) || (welchF p g (p - 1).toNat 1 []).all (fun l => pinsF l && decide ((l.length : Int) = p - 1 ∧ 1 ≤ l.length ∧ l.length ≤ 6))) = true := by decide +kernel
def upB : List (List Int) → Bool
  | a :: b :: r => decide (cmpL a b < 0) && upB (b :: r)
  | _ => true
theorem upB_get : ∀ {ls : List (List Int)}, upB ls = true → ∀ i (h : i + 1 < ls.length), cmpL ls[i] ls[i + 1] < 0 := by
  intro ls
  induction ls with
  | nil => intro _ i h; simp at h
  | cons a r ih =>
    intro hu i h
    cases r with
    | nil => simp at h
    | cons b r =>
      rw [upB, Bool.and_eq_true] at hu
      cases i with
      | zero => simpa using hu.1
      | succ i => exact ih hu.2 i (by simpa using h)
theorem pinsAll_facts : ∀ n ∈ [1, 2, 3, 4, 5, 6], upB (pinsAll n) = true ∧ (pinsAll n).length = [0, 1, 2, 4, 12, 40, 116].getD n 0 := by decide +kernel
theorem expand_iff {n : Nat} : ∀ {k : Nat} {l : List Int}, l ∈ expand n k [[]] ↔ l.length = k ∧ (∀ x ∈ l, 0 ≤ x ∧ x < n) ∧ l.Nodup := by
  intro k
  induction k with
  | zero =>
    intro l
    simp only [expand, List.mem_singleton]
    constructor
    · rintro rfl; simp
    · rintro ⟨h, _⟩; exact List.length_eq_zero_iff.1 h
  | succ k ih =>
    intro l
    rw [expand_succ, List.mem_flatMap]
    constructor
    · rintro ⟨m, hm, hl⟩
      obtain ⟨h1, h2, h3⟩ := ih.1 hm
      unfold ext at hl
      obtain ⟨x, hx, rfl⟩ := List.mem_map.1 hl
      rw [List.mem_filter] at hx
      have hx1 := List.mem_range.1 hx.1
      have hx2 := of_decide_eq_true hx.2
      refine ⟨by simp [h1], fun y hy => ?_, ?_⟩
      · rcases List.mem_append.1 hy with hy | hy
        · exact h2 y hy
        · rw [List.mem_singleton] at hy; omega
      · rw [List.nodup_append]
        exact ⟨h3, by simp, by rintro a ha b hb rfl; rw [List.mem_singleton] at hb; exact hx2 (hb ▸ ha)⟩
    · rintro ⟨h1, h2, h3⟩
      have h0 : l ≠ [] := fun e => by rw [e] at h1; simp at h1
      obtain ⟨m, x, rfl⟩ : ∃ m x, l = m ++ [x] := ⟨l.dropLast, l.getLast h0, (List.dropLast_concat_getLast h0).symm⟩
      rw [List.nodup_append] at h3
      have hx := h2 x (by simp)
      refine ⟨m, ih.2 ⟨by simpa using h1, fun y hy => h2 y (by simp [hy]), h3.1⟩, ?_⟩
      unfold ext
      refine List.mem_map.2 ⟨x.toNat, ?_, by rw [Int.toNat_of_nonneg hx.1]⟩
      rw [List.mem_filter, List.mem_range]
      refine ⟨by omega, ?_⟩
      rw [decide_eq_true_iff, Int.toNat_of_nonneg hx.1]
      exact fun hm => h3.2.2 x hm x (by simp) rfl
theorem pinsAll_iff {n : Nat} {l : List Int} : l ∈ pinsAll n ↔ l.length = n ∧ pinsF l = true := by
  unfold pinsAll
  rw [List.mem_filter, expand_iff]
  constructor
  · rintro ⟨⟨h, _⟩, h2⟩; exact ⟨h, h2⟩
  · rintro ⟨h, h2⟩
    have hp := (pinsF_iff l).1 h2
    exact ⟨⟨h, fun x hx => by obtain ⟨i, hi, rfl⟩ := List.mem_iff_getElem.1 hx; have := hp.rng i hi; omega, hp.nodup⟩, h2⟩
end Go.Lt.P8
