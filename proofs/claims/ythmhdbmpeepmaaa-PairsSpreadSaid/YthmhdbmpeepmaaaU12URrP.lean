/- PLAIN LAWS OF WHAT IS COMPUTED, for the statement 'PairsSpread'. Nothing is asked of the input. -/
import Derived.Test.YthmhdbmpeepmaaaLB
import Derived.Test.YthmhdbmpeepmaaaLB
set_option linter.unusedVariables false
set_option linter.unusedSimpArgs false
namespace Go.Lt.P8
open Go Go.Lt
abbrev Pr := Int × Int
def inP (n : Nat) (p : Pr) : Prop := 0 ≤ p.1 ∧ p.1 < p.2 ∧ p.2 < 2 * (n : Int)
instance (n : Nat) (p : Pr) : Decidable (inP n p) := by unfold inP; infer_instance
def setP (P : Nat) (p : Pr) : Nat := P ||| (2 ^ p.1.toNat ||| 2 ^ p.2.toNat)
/-- a round as the program sees it -/
def rdP (n : Nat) : List Pr → List Pr → Nat → Option (List Pr × Nat)
  | [], S, P => some (S, P)
  | p :: ps, S, P => if ¬ inP n p ∨ p ∈ S then none else rdP n ps (S ++ [p]) (setP P p)
/-- a round as the reference sees it -/
def rdR (n : Nat) : List Pr → List Pr → Nat → Option Int → Option (List Pr)
  | [], S, _, _ => some S
  | p :: ps, S, P, q => if ¬ inP n p ∨ p ∈ S ∨ P.testBit p.1.toNat = true ∨ P.testBit p.2.toNat = true ∨ q.any (fun y => decide (p.1 ≤ y)) = true then none else rdR n ps (S ++ [p]) (setP P p) (some p.1)
def ltP (p q : Pr) : Bool := decide (p.1 < q.1 ∨ (p.1 = q.1 ∧ p.2 < q.2))
/-- in order -/
def srt : List Pr → Bool
  | a :: b :: r => !ltP b a && srt (b :: r)
  | _ => true
def isRF (n : Nat) : List (List Pr) → List Pr → Bool
  | [], _ => true
  | r :: rs, S => if r.length = n ∧ srt r = true then match rdP n r S 0 with
      | none => false
      | some (S', P) => if P = 2 ^ (2 * n) - 1 then isRF n rs S' else false
    else false
def isRR (n : Nat) : List (List Pr) → List Pr → Bool
  | [], _ => true
  | r :: rs, S => if r.length = n then match rdR n r S 0 none with
      | none => false
      | some S' => isRR n rs S'
    else false
def both (r : List Pr) : List Int := r.flatMap fun p => [p.1, p.2]
theorem both_mem {r : List Pr} {x : Int} : x ∈ both r ↔ ∃ p ∈ r, x = p.1 ∨ x = p.2 := by simp [both]
theorem both_len (r : List Pr) : (both r).length = 2 * r.length := by
  induction r with
  | nil => rfl
  | cons p r ih => simp only [both, List.flatMap_cons, List.length_append, List.length_cons, List.length_nil] at *; omega
theorem rdP_some {n : Nat} : ∀ (r S : List Pr) (P : Nat) (S' : List Pr) (P' : Nat), rdP n r S P = some (S', P') ↔ (∀ p ∈ r, inP n p) ∧ (∀ p ∈ r, p ∉ S) ∧ r.Nodup ∧ S' = S ++ r ∧ P' = r.foldl setP P := by
  intro r
  induction r with
  | nil =>
    intro S P S' P'
    simp only [rdP, Option.some.injEq, Prod.mk.injEq, List.not_mem_nil, false_implies, implies_true, List.nodup_nil, List.append_nil, List.foldl_nil, true_and]
    exact ⟨fun h => ⟨h.1.symm, h.2.symm⟩, fun h => ⟨h.1.symm, h.2.symm⟩⟩
  | cons p r ih =>
    intro S P S' P'
    rw [rdP]
    by_cases h : ¬ inP n p ∨ p ∈ S
    · rw [if_pos h]
      constructor
      · intro c; cases c
      · rintro ⟨a, b, _⟩
        rcases h with h | h
        · exact absurd (a p (by simp)) h
        · exact absurd h (b p (by simp))
    · rw [if_neg h, ih]
      simp only [not_or, Classical.not_not] at h
      constructor
      · rintro ⟨a, b, c, d, e⟩
        refine ⟨fun q hq => ?_, fun q hq => ?_, List.nodup_cons.2 ⟨fun hp => b p hp (by simp), c⟩, by rw [d]; simp, e⟩
        · rcases List.mem_cons.1 hq with rfl | hq
          · exact h.1
          · exact a q hq
        · rcases List.mem_cons.1 hq with rfl | hq
          · exact h.2
          · intro hs; exact b q hq (by simp [hs])
      · rintro ⟨a, b, c, d, e⟩
        rw [List.nodup_cons] at c
        refine ⟨fun q hq => a q (by simp [hq]), fun q hq hs => ?_, c.2, by rw [d]; simp, e⟩
        rcases List.mem_append.1 hs with hs | hs
        · exact b q (by simp [hq]) hs
        · rw [List.mem_singleton] at hs
          subst hs
          exact c.1 hq
theorem setP_bit {P : Nat} {p : Pr} {n : Nat} (h : inP n p) (x : Nat) : (setP P p).testBit x = (P.testBit x || decide ((x : Int) = p.1 ∨ (x : Int) = p.2)) := by
  unfold inP at h
  unfold setP
  rw [Nat.testBit_or, Nat.testBit_or, Nat.testBit_two_pow, Nat.testBit_two_pow]
  rw [Bool.eq_iff_iff]
  simp only [Bool.or_eq_true, decide_eq_true_eq]
  have h1 : p.1.toNat = x ↔ (x : Int) = p.1 := by omega
  have h2 : p.2.toNat = x ↔ (x : Int) = p.2 := by omega
  rw [h1, h2]
theorem fold_bit {n : Nat} : ∀ (r : List Pr) (P : Nat), (∀ p ∈ r, inP n p) → ∀ x : Nat, (r.foldl setP P).testBit x = true ↔ P.testBit x = true ∨ (x : Int) ∈ both r := by
  intro r
  induction r with
  | nil => intro P _ x; simp [both]
  | cons p r ih =>
    intro P h x
    rw [List.foldl_cons, ih _ (fun q hq => h q (by simp [hq])), setP_bit (h p (by simp))]
    have : both (p :: r) = [p.1, p.2] ++ both r := rfl
    rw [this]
    simp only [Bool.or_eq_true, decide_eq_true_eq, List.mem_append, List.mem_cons, List.not_mem_nil, or_false]
    exact or_assoc
theorem both_rng {n : Nat} {r : List Pr} (h : ∀ p ∈ r, inP n p) {x : Int} (hx : x ∈ both r) : 0 ≤ x ∧ x < 2 * (n : Int) := by
  obtain ⟨p, hp, e⟩ := both_mem.1 hx
  have := h p hp
  unfold inP at this
  omega
theorem full_iff {n : Nat} {r : List Pr} (h : ∀ p ∈ r, inP n p) (hl : r.length = n) : r.foldl setP 0 = 2 ^ (2 * n) - 1 ↔ (both r).Nodup := by
  have hb := both_len r
  have hrng : ∀ x ∈ both r, x ∈ (List.range (2 * n)).map fun (x : Nat) => (x : Int) := fun x hx => by
    have := both_rng h hx
    exact List.mem_map.2 ⟨x.toNat, by simp; omega, by omega⟩
  constructor
  · intro e
    have hs : ∀ x ∈ (List.range (2 * n)).map fun (x : Nat) => (x : Int), x ∈ both r := by
      intro x hx
      obtain ⟨y, hy, rfl⟩ := List.mem_map.1 hx
      have := (fold_bit r 0 h y)
      rw [e, Nat.testBit_two_pow_sub_one] at this
      simpa using this.1 (by simpa using hy)
    exact (perm_of_sub (range_ints_nodup (2 * n)) hs (by simp; omega)).nodup_iff.1 (range_ints_nodup _)
  · intro hn
    have hp := perm_of_sub hn hrng (by simp; omega)
    apply Nat.eq_of_testBit_eq
    intro x
    rw [Nat.testBit_two_pow_sub_one, Bool.eq_iff_iff, fold_bit r 0 h, hp.mem_iff]
    simp
    exact ⟨fun ⟨a, h1, h2⟩ => by omega, fun h => ⟨x, h, rfl⟩⟩
theorem rdR_some {n : Nat} : ∀ (r S : List Pr) (P : Nat) (q : Option Int) (S' : List Pr), rdR n r S P q = some S' ↔ (∀ p ∈ r, inP n p) ∧ (∀ p ∈ r, p ∉ S) ∧ (both r).Nodup ∧ (∀ x ∈ both r, P.testBit x.toNat = false) ∧ r.Pairwise (fun a b => a.1 < b.1) ∧ (∀ y, q = some y → ∀ p ∈ r, y < p.1) ∧ S' = S ++ r := by
  intro r
  induction r with
  | nil => intro S P q S'; simp only [rdR, Option.some.injEq, both]; simp; exact eq_comm
  | cons p r ih =>
    intro S P q S'
    rw [rdR]
    have eb : both (p :: r) = p.1 :: p.2 :: both r := rfl
    by_cases h : ¬ inP n p ∨ p ∈ S ∨ P.testBit p.1.toNat = true ∨ P.testBit p.2.toNat = true ∨ q.any (fun y => decide (p.1 ≤ y)) = true
    · rw [if_pos h]
      constructor
      · intro c; cases c
      · rintro ⟨a, b, c, d, e, f, _⟩
        exfalso
        rcases h with h | h | h | h | h
        · exact h (a p (by simp))
        · exact b p (by simp) h
        · rw [d p.1 (by rw [eb]; simp)] at h; cases h
        · rw [d p.2 (by rw [eb]; simp)] at h; cases h
        · cases q with
          | none => simp at h
          | some y =>
            have := f y rfl p (by simp)
            simp at h
            omega
    · rw [if_neg h, ih]
      simp only [not_or, Classical.not_not] at h
      obtain ⟨h1, h2, h3, h4, h5⟩ := h
      have h1' := h1
      unfold inP at h1'
      rw [eb, List.nodup_cons, List.nodup_cons, List.pairwise_cons]
      constructor
      · rintro ⟨a, b, c, d, e, f, g⟩
        have hd : ∀ x ∈ both r, P.testBit x.toNat = false ∧ x ≠ p.1 ∧ x ≠ p.2 := fun x hx => by
          have h0 := d x hx
          have hr := both_rng a hx
          rw [setP_bit h1, Bool.or_eq_false_iff, decide_eq_false_iff_not, Int.toNat_of_nonneg hr.1] at h0
          exact ⟨h0.1, fun e => h0.2 (.inl e), fun e => h0.2 (.inr e)⟩
        refine ⟨fun x hx => ?_, fun x hx => ?_, ⟨?_, ?_, c⟩, fun x hx => ?_, ⟨fun x hx => f p.1 rfl x hx, e⟩, fun y hy x hx => ?_, by rw [g]; simp⟩
        · rcases List.mem_cons.1 hx with rfl | hx
          · exact h1
          · exact a x hx
        · rcases List.mem_cons.1 hx with rfl | hx
          · exact h2
          · intro hs; exact b x hx (by simp [hs])
        · intro hm
          rcases List.mem_cons.1 hm with e | hm
          · omega
          · exact (hd p.1 hm).2.1 rfl
        · intro hm; exact (hd p.2 hm).2.2 rfl
        · rcases List.mem_cons.1 hx with rfl | hx
          · simpa using h3
          · rcases List.mem_cons.1 hx with rfl | hx
            · simpa using h4
            · exact (hd x hx).1
        · subst hy
          simp at h5
          rcases List.mem_cons.1 hx with rfl | hx
          · exact h5
          · have := f p.1 rfl x hx; omega
      · rintro ⟨a, b, ⟨c1, c2, c3⟩, d, ⟨e1, e2⟩, f, g⟩
        refine ⟨fun x hx => a x (by simp [hx]), fun x hx hs => ?_, c3, fun x hx => ?_, e2, fun y hy x hx => ?_, by rw [g]; simp⟩
        · rcases List.mem_append.1 hs with hs | hs
          · exact b x (by simp [hx]) hs
          · rw [List.mem_singleton] at hs
            subst hs
            exact c1 (List.mem_cons_of_mem _ (both_mem.2 ⟨_, hx, .inl rfl⟩))
        · have hr := both_rng (fun x hx => a x (List.mem_cons_of_mem _ hx)) hx
          rw [setP_bit h1, Bool.or_eq_false_iff, decide_eq_false_iff_not, Int.toNat_of_nonneg hr.1]
          refine ⟨d x (by simp [hx]), ?_⟩
          rintro (e | e)
          · subst e; exact c1 (List.mem_cons_of_mem _ hx)
          · subst e; exact c2 hx
        · injection hy with hy
          subst hy
          exact e1 x hx
theorem srt_iff : ∀ {r : List Pr}, srt r = true ↔ r.Pairwise (fun a b => ltP b a = false) := by
  have tr : ∀ {a b c : Pr}, ltP b a = false → ltP c b = false → ltP c a = false := by
    intro a b c h1 h2
    simp only [ltP, decide_eq_false_iff_not] at *
    omega
  intro r
  induction r with
  | nil => simp [srt]
  | cons a r ih =>
    cases r with
    | nil => simp [srt]
    | cons b r =>
      rw [srt, Bool.and_eq_true, ih, List.pairwise_cons (a := a)]
      constructor
      · rintro ⟨h1, h2⟩
        refine ⟨fun x hx => ?_, h2⟩
        have h1' : ltP b a = false := by simpa using h1
        rcases List.mem_cons.1 hx with rfl | hx
        · exact h1'
        · exact tr h1' ((List.pairwise_cons.1 h2).1 x hx)
      · rintro ⟨h1, h2⟩
        exact ⟨by simpa using h1 b (by simp), h2⟩
theorem both_inj : ∀ {r : List Pr}, (both r).Nodup → r.Pairwise (fun a b => a.1 ≠ b.1) := by
  intro r
  induction r with
  | nil => simp
  | cons p r ih =>
    intro h
    have eb : both (p :: r) = p.1 :: p.2 :: both r := rfl
    rw [eb, List.nodup_cons, List.nodup_cons] at h
    refine List.pairwise_cons.2 ⟨fun q hq e => ?_, ih h.2.2⟩
    exact h.1 (List.mem_cons_of_mem _ (both_mem.2 ⟨q, hq, .inl e⟩))
/-- both see the same -/
theorem round_eq {n : Nat} {r S S' : List Pr} (hl : r.length = n) : (srt r = true ∧ rdP n r S 0 = some (S', 2 ^ (2 * n) - 1)) ↔ rdR n r S 0 none = some S' := by
  rw [rdP_some, rdR_some, srt_iff]
  constructor
  · rintro ⟨s, a, b, c, d, e⟩
    have hn := (full_iff a hl).1 e.symm
    refine ⟨a, b, hn, fun x hx => (by simp), ?_, fun y hy => (by cases hy), d⟩
    refine (s.and (both_inj hn)).imp fun {x y} h => ?_
    have := h.1
    simp only [ltP, decide_eq_false_iff_not] at this
    have := h.2
    omega
  · rintro ⟨a, b, c, d, e, f, g⟩
    refine ⟨e.imp fun {x y} h => by simp only [ltP, decide_eq_false_iff_not]; omega, a, b, ?_, g, ((full_iff a hl).2 c).symm⟩
    rw [List.nodup_iff_pairwise_ne]
    exact e.imp fun {x y} h e => by subst e; omega
theorem isR_eq {n : Nat} : ∀ (l : List (List Pr)) (S : List Pr), isRF n l S = isRR n l S := by
  intro l
  induction l with
  | nil => intro S; rfl
  | cons r l ih =>
    intro S
    rw [isRF, isRR]
    by_cases hl : r.length = n
    · rw [if_pos hl]
      cases h : rdR n r S 0 none with
      | some S' =>
        obtain ⟨h1, h2⟩ := (round_eq hl).2 h
        rw [if_pos ⟨hl, h1⟩, h2]
        simp only [if_true]
        exact ih S'
      | none =>
        by_cases hs : srt r = true
        · rw [if_pos ⟨hl, hs⟩]
          cases h2 : rdP n r S 0 with
          | none => rfl
          | some q =>
            obtain ⟨S', P⟩ := q
            simp only
            by_cases e : P = 2 ^ (2 * n) - 1
            · subst e
              have := (round_eq hl).1 ⟨hs, h2⟩
              rw [h] at this; cases this
            · rw [if_neg e]
        · rw [if_neg (fun c => hs c.2)]
    · rw [if_neg (fun c => hl c.1), if_neg hl]
end Go.Lt.P8
