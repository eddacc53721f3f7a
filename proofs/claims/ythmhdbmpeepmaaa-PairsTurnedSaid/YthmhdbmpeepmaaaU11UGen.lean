/- PLAIN LAWS OF WHAT IS COMPUTED, for the statement 'PairsTurned'. Nothing is asked of the input. -/
import Derived.Test.YthmhdbmpeepmaaaU11URv
set_option linter.unusedVariables false
set_option linter.unusedSimpArgs false
namespace Go.Lt.P8
open Go Go.Lt Go.Proofs
theorem cmp_self : ∀ (l : List Int), cmpL l l = 0 := by
  intro l
  induction l with
  | nil => rfl
  | cons x l ih => rw [cmpL, if_neg (by omega), if_neg (by omega)]; exact ih
theorem cmp_lt : ∀ (t : Nat) (h r : List Int), t < h.length → t < r.length → (∀ p, p < t → h.getD p 0 = r.getD p 0) → h.getD t 0 < r.getD t 0 → cmpL h r = -1 := by
  intro t
  induction t with
  | zero =>
    intro h r h1 h2 _ hl
    cases h with
    | nil => simp at h1
    | cons x h =>
      cases r with
      | nil => simp at h2
      | cons y r => rw [cmpL, if_pos (by simpa using hl)]
  | succ t ih =>
    intro h r h1 h2 he hl
    cases h with
    | nil => simp at h1
    | cons x h =>
      cases r with
      | nil => simp at h2
      | cons y r =>
        have e0 : x = y := by have := he 0 (by omega); simpa using this
        rw [cmpL, if_neg (by omega), if_neg (by omega)]
        exact ih h r (by simpa using h1) (by simpa using h2) (fun p hp => by have := he (p + 1) (by omega); simpa using this) (by simpa using hl)
theorem RowV.val {n s : Nat} {r : List Int} (hs : 1 ≤ s) (h : RowV n s r) {p : Nat} (hp : p < 2 * n) : ∃ k : Nat, 1 ≤ k ∧ k ≤ n ∧ r.getD p 0 = k := by
  apply Classical.byContradiction
  intro hc
  obtain ⟨hl, h⟩ := h
  have hks : ((List.range' 1 n).map fun (x : Nat) => (x : Int)).Nodup := nodup_map (f := fun (x : Nat) => (x : Int)) (fun a b e => by simp only [Int.natCast_inj] at e; exact e) (List.nodup_range' (step := 1))
  have hx : r.getD p 0 ∉ ((List.range' 1 n).map fun (x : Nat) => (x : Int)) := by
    intro hm
    obtain ⟨k, hk, e⟩ := List.mem_map.1 hm
    rw [List.mem_range'_1] at hk
    exact hc ⟨k, hk.1, by omega, e.symm⟩
  have hle := counts_le (List.nodup_cons.2 ⟨hx, hks⟩) r
  have hge := sum_ge (f := fun k => r.count k) (ks := (List.range' 1 n).map fun (x : Nat) => (x : Int)) (fun j hj => by
    obtain ⟨m, hm, rfl⟩ := List.mem_map.1 hj
    rw [List.mem_range'_1] at hm
    obtain ⟨b, hb, f1, f2⟩ := h m hm.1 (by omega)
    exact occ_many (ps := [(b : Int), ((b + (m + s - 1) : Nat) : Int)]) (by simp; omega) (by
      intro q hq
      simp only [List.mem_cons, List.not_mem_nil, or_false] at hq
      rcases hq with rfl | rfl
      · exact ⟨by omega, by omega, by simpa using f1⟩
      · exact ⟨by omega, by omega, by rw [Int.toNat_natCast]; exact f2⟩))
  have h1 : 1 ≤ r.count (r.getD p 0) := List.count_pos_iff.2 (by rw [getD_at (by omega)]; exact List.getElem_mem _)
  simp only [List.length_map, List.length_range'] at hge
  rw [List.map_cons, List.sum_cons] at hle
  omega
theorem orb_nat {M k : Nat} (hM : M < 2 ^ 40) (hk : k < 40) : orb (M : Int) (k : Int) = ((M ||| 2 ^ k : Nat) : Int) ∧ M ||| 2 ^ k < 2 ^ 40 := by
  have h1 : 2 ^ k < 2 ^ 40 := Nat.pow_lt_pow_right (by omega) hk
  unfold orb
  rw [shl_one (by omega), bits_or_nat (by omega) (by omega)]
  exact ⟨rfl, Nat.or_lt_two_pow hM h1⟩
theorem gen_agree {n : Nat} {s : Int} (hs : 1 ≤ s) : ∀ (f : Nat) (P : List Int) (u : Int), ∀ h ∈ gen n s f P u, ∀ p, P.getD p 0 ≠ 0 → h.getD p 0 = P.getD p 0 := by
  intro f
  induction f with
  | zero => intro P u h hh; simp [gen] at hh
  | succ f ih =>
    intro P u h hh p hp
    rw [gen] at hh
    rcases idxF_cases 0 P 0 (Int.le_refl 0) with ⟨e, _⟩ | ⟨t, ht, e, e0, _⟩
    · rw [e, if_pos (by decide)] at hh
      rw [List.mem_singleton] at hh
      rw [hh]
    · rw [e, if_neg (by omega)] at hh
      obtain ⟨k, hk, hh⟩ := List.mem_flatMap.1 hh
      rw [List.mem_range'_1] at hk
      unfold genK at hh
      split at hh
      · simp at hh
      · rename_i hc
        simp only [not_or] at hc
        have c3 : P.getD (0 + (t : Int) + k + s - 1).toNat 0 = 0 := Classical.byContradiction hc.2.2
        have hpt : p ≠ t := fun e' => by subst e'; rw [getD_at ht] at hp; exact hp e0
        have hpj : p ≠ (0 + (t : Int) + k + s - 1).toNat := fun e' => by rw [e'] at hp; exact hp c3
        have htt : (0 + (t : Int)).toNat = t := by omega
        have e2 : ((P.set (0 + (t : Int)).toNat (k : Int)).set (0 + (t : Int) + k + s - 1).toNat (k : Int)).getD p 0 = P.getD p 0 := by
          have hj : (0 + (t : Int) + k + s - 1).toNat < (P.set (0 + (t : Int)).toNat (k : Int)).length := by simp; omega
          rw [gD_set _ _ _ _ _ hj, if_neg hpj, htt, gD_set _ _ _ _ _ ht, if_neg hpt]
        rw [← e2]
        exact ih _ _ h hh p (by rw [e2]; exact hp)
theorem flat_head {α : Type} {F : Nat → List α} : ∀ (m j k0 : Nat), j ≤ k0 → k0 < j + m → F k0 ≠ [] → ∃ k h rest rest', j ≤ k ∧ k ≤ k0 ∧ (List.range' j m).flatMap F = h :: rest ∧ F k = h :: rest' := by
  intro m
  induction m with
  | zero => intro j k0 h1 h2; omega
  | succ m ih =>
    intro j k0 h1 h2 h3
    rw [List.range'_succ, List.flatMap_cons]
    cases hF : F j with
    | nil =>
      by_cases e : j = k0
      · subst e; exact absurd hF h3
      · obtain ⟨k, h, rest, rest', a, b, c, d⟩ := ih (j + 1) k0 (by omega) (by omega) h3
        exact ⟨k, h, rest, rest', by omega, b, by rw [c]; rfl, d⟩
    | cons h rest => exact ⟨j, h, _, rest, Nat.le_refl _, h1, rfl, hF⟩
theorem count_two {P : List Int} {i j : Nat} (hi : i < P.length) (hj : j < P.length) (hij : i ≠ j) (h0 : P.getD i 0 = 0) (h1 : P.getD j 0 = 0) {k : Int} (hk : k ≠ 0) : ((P.set i k).set j k).count 0 + 2 = P.count 0 := by
  have a := count_set0 P i k hi (by rw [getD_at hi] at h0; exact h0) hk
  have b := count_set0 (P.set i k) j k (by simpa using hj) (by rw [List.getElem_set_ne hij]; rw [getD_at hj] at h1; exact h1) hk
  omega
theorem gen_head {n s : Nat} (hs : s = 1 ∨ s = 2) (hn : n ≤ 8) {r : List Int} (hr : RowV n s r) {a : Nat → Nat} (ha : ∀ k, 1 ≤ k → k ≤ n → a k + (k + s - 1) < 2 * n ∧ r.getD (a k) 0 = k ∧ r.getD (a k + (k + s - 1)) 0 = k) :
    ∀ (f : Nat) (P : List Int) (M : Nat), P.length = 2 * n → M < 2 ^ 40 → (∀ p, P.getD p 0 ≠ 0 → P.getD p 0 = r.getD p 0) →
      (∀ k, 1 ≤ k → k ≤ n → (M.testBit k = true → P.getD (a k) 0 ≠ 0 ∧ P.getD (a k + (k + s - 1)) 0 ≠ 0) ∧ (M.testBit k = false → P.getD (a k) 0 = 0 ∧ P.getD (a k + (k + s - 1)) 0 = 0)) →
      P.count 0 < 2 * f → ∃ h rest, gen n s f P M = h :: rest ∧ cmpL h r ≤ 0 := by
  intro f
  induction f with
  | zero => intro P M _ _ _ _ h; omega
  | succ f ih =>
    intro P M hl hM h1 h2 hf
    have hrl := hr.1
    rw [gen]
    rcases idxF_cases 0 P 0 (Int.le_refl 0) with ⟨e, e0⟩ | ⟨t, ht, e, e0, eb⟩
    · rw [e, if_pos (by decide)]
      refine ⟨P, [], rfl, ?_⟩
      have : P = r := by
        apply List.ext_getElem (by omega)
        intro p hp hp2
        have := h1 p (by rw [getD_at hp]; intro c; exact e0 (c ▸ List.getElem_mem hp))
        rwa [getD_at hp, getD_at hp2] at this
      rw [this, cmp_self]
      omega
    · rw [e, if_neg (by omega)]
      obtain ⟨k0, k1, k2, hk⟩ := hr.val (by omega) (p := t) (by omega)
      obtain ⟨a1, a2, a3⟩ := ha k0 k1 k2
      have p0 : P.getD t 0 = 0 := by rw [getD_at ht]; exact e0
      have hta : t = a k0 := by
        rcases hr.two (by omega) k1 k2 a1 a2 a3 (by omega) hk with h | h
        · exact h
        · exfalso
          cases hb : M.testBit k0 with
          | true => exact ((h2 k0 k1 k2).1 hb).2 (h ▸ p0)
          | false =>
            have := ((h2 k0 k1 k2).2 hb).1
            have hlt : a k0 < t := by omega
            rw [getD_at (by omega)] at this
            exact eb (a k0) hlt this
      have hbit : M.testBit k0 = false := by
        cases hb : M.testBit k0 with
        | true => exact absurd p0 (hta ▸ ((h2 k0 k1 k2).1 hb).1)
        | false => rfl
      have p1 := ((h2 k0 k1 k2).2 hbit).2
      have ej : (0 + (t : Int) + (k0 : Int) + (s : Int) - 1).toNat = a k0 + (k0 + s - 1) := by omega
      obtain ⟨o1, o2⟩ := orb_nat hM (k := k0) (by omega)
      have hK : genK (gen n s f) s P M (0 + (t : Int)) k0 = gen n s f ((P.set (a k0) k0).set (a k0 + (k0 + s - 1)) k0) ((M ||| 2 ^ k0 : Nat) : Int) := by
        unfold genK
        rw [if_neg, ej, o1, show (0 + (t : Int)).toNat = a k0 by omega]
        rintro (c | c | c)
        · rw [bitq, bit_nat (by omega) (by omega)] at c; rw [hbit] at c; cases c
        · omega
        · rw [ej] at c; exact c p1
      have hg : ∀ q, ((P.set (a k0) (k0 : Int)).set (a k0 + (k0 + s - 1)) k0).getD q 0 = if q = a k0 + (k0 + s - 1) ∨ q = a k0 then (k0 : Int) else P.getD q 0 := by
        intro q
        rw [gD_set _ _ _ _ _ (by simp; omega), gD_set _ _ _ _ _ (by omega)]
        by_cases c1 : q = a k0 + (k0 + s - 1)
        · simp [c1]
        · by_cases c2 : q = a k0
          · simp [c2]
          · simp [c1, c2]
      obtain ⟨h, rest, hgen, hcmp⟩ := ih ((P.set (a k0) k0).set (a k0 + (k0 + s - 1)) k0) (M ||| 2 ^ k0) (by simp [hl]) o2
        (fun q hq => by
          rw [hg] at hq ⊢
          split
          · rename_i c
            rcases c with c | c
            · rw [c, a3]
            · rw [c, a2]
          · rename_i c
            rw [if_neg c] at hq
            exact h1 q hq)
        (fun k kk1 kk2 => by
          obtain ⟨b1, b2, b3⟩ := ha k kk1 kk2
          rw [Nat.testBit_or, Nat.testBit_two_pow, hg, hg]
          by_cases ek : k0 = k
          · subst ek
            simp
            omega
          · have n1 : ¬ (a k = a k0 + (k0 + s - 1) ∨ a k = a k0) := by
              rintro (c | c)
              · rw [c, a3] at b2; omega
              · rw [c, a2] at b2; omega
            have n2 : ¬ (a k + (k + s - 1) = a k0 + (k0 + s - 1) ∨ a k + (k + s - 1) = a k0) := by
              rintro (c | c)
              · rw [c, a3] at b3; omega
              · rw [c, a2] at b3; omega
            rw [if_neg n1, if_neg n2]
            simp only [ek, decide_false, Bool.or_false]
            exact h2 k kk1 kk2)
        (by
          have := count_two (P := P) (i := a k0) (j := a k0 + (k0 + s - 1)) (by omega) (by omega) (by omega) (hta ▸ p0) p1 (k := (k0 : Int)) (by omega)
          omega)
      obtain ⟨k, h', rst, rst', c1, c2, c3, c4⟩ := flat_head (F := fun k => genK (gen n s f) s P M (0 + (t : Int)) k) n 1 k0 k1 (by omega) (by rw [hK, hgen]; simp)
      refine ⟨h', rst, c3, ?_⟩
      by_cases ek : k = k0
      · subst ek
        try dsimp only at c4
        rw [hK, hgen] at c4
        injection c4 with c4 _
        rw [← c4]; exact hcmp
      · try dsimp only at c4
        have hm : h' ∈ genK (gen n s f) s P M (0 + (t : Int)) k := by rw [c4]; simp
        unfold genK at hm
        split at hm
        · simp at hm
        · rename_i hc
          simp only [not_or] at hc
          have c3 : P.getD (0 + (t : Int) + k + s - 1).toNat 0 = 0 := Classical.byContradiction hc.2.2
          have hj : (0 + (t : Int) + k + s - 1).toNat < P.length := by omega
          have hjt : t < (0 + (t : Int) + k + s - 1).toNat := by omega
          have hlen := gen_mem _ _ _ _ _ _ hm
          simp only [List.length_set] at hlen
          have hag := gen_agree (by omega) _ _ _ _ hm
          rw [show (0 + (t : Int)).toNat = t by omega] at hag
          have := cmp_lt t h' r (by omega) (by omega) (fun p hp => by
            have hne : P.getD p 0 ≠ 0 := by rw [getD_at (by omega)]; exact eb p hp
            have e2 : ((P.set t (k : Int)).set (0 + (t : Int) + k + s - 1).toNat (k : Int)).getD p 0 = P.getD p 0 := by
              rw [gD_set _ _ _ _ _ (by simpa using hj), if_neg (by omega), gD_set _ _ _ _ _ ht, if_neg (by omega)]
            rw [hag p (by rw [e2]; exact hne), e2]
            exact h1 p hne) (by
            have e2 : ((P.set t (k : Int)).set (0 + (t : Int) + k + s - 1).toNat (k : Int)).getD t 0 = k := by
              rw [gD_set _ _ _ _ _ (by simpa using hj), if_neg (by omega), gD_set _ _ _ _ _ ht, if_pos rfl]
            rw [hag t (by rw [e2]; omega), e2, hk]
            omega)
          omega
/-- THE FIRST ROW DOES NOT COME BEHIND ANY -/
theorem first_le {n s : Nat} (hs : s = 1 ∨ s = 2) (hn : n ≤ 8) {r : List Int} (hr : RowV n s r) {f : Nat} (hf : n < f) : ∃ h rest, gen n s f (zeros n) 0 = h :: rest ∧ cmpL h r ≤ 0 := by
  have hc : ∀ k : Nat, ∃ a : Nat, 1 ≤ k → k ≤ n → a + (k + s - 1) < 2 * n ∧ r.getD a 0 = k ∧ r.getD (a + (k + s - 1)) 0 = k := fun k => by
    by_cases h : 1 ≤ k ∧ k ≤ n
    · obtain ⟨a, ha⟩ := hr.2 k h.1 h.2
      exact ⟨a, fun _ _ => ha⟩
    · exact ⟨0, fun h1 h2 => absurd ⟨h1, h2⟩ h⟩
  have hz : ∀ p, (zeros n).getD p 0 = 0 := fun p => by
    by_cases h : p < (zeros n).length
    · rw [getD_at h]; simp [zeros]
    · rw [List.getD_eq_getElem?_getD, List.getElem?_eq_none (by omega)]; rfl
  exact gen_head hs hn hr (a := fun k => Classical.choose (hc k)) (fun k h1 h2 => Classical.choose_spec (hc k) h1 h2) f (zeros n) 0 (by simp [zeros]) (by decide) (fun p h => absurd (hz p) h)
    (fun k _ _ => ⟨fun h => by simp at h, fun _ => ⟨hz _, hz _⟩⟩) (by simp [zeros]; omega)
end Go.Lt.P8
