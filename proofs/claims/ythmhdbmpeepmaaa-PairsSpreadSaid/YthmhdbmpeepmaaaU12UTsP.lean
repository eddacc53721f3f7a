/- PLAIN LAWS OF WHAT IS COMPUTED, for the statement 'PairsSpread'. Nothing is asked of the input. -/
import Derived.Test.YthmhdbmpeepmaaaU12UThP
set_option linter.unusedVariables false
set_option linter.unusedSimpArgs false
namespace Go.Lt.P8
open Go Go.Lt
/-- the players of a triple, as bits -/
def msk (t : Tr) : Nat := 2 ^ t.1.toNat ||| 2 ^ t.2.1.toNat ||| 2 ^ t.2.2.toNat
/-- spreads: what is begun is gone on with -/
def spF (v : Nat) (l : List Tr) : Nat → List Int → Nat → Nat → List (List Int)
  | 0, _, _, _ => []
  | f + 1, q, a, b => if b = 2 ^ v - 1 then [q] else (List.range' a (l.length - a)).flatMap fun (i : Nat) => if msk (l[i]?.getD (0, 0, 0)) &&& b = 0 then spF v l f (q ++ [(i : Int)]) (i + 1) (b ||| msk (l[i]?.getD (0, 0, 0))) else []
/-- the part of it that lies behind i steps -/
def spG (v : Nat) (l : List Tr) (f : Nat) (q : List Int) (a b i : Nat) : List (List Int) :=
  (List.range' a (i - a)).flatMap fun (i : Nat) => if msk (l[i]?.getD (0, 0, 0)) &&& b = 0 then spF v l f (q ++ [(i : Int)]) (i + 1) (b ||| msk (l[i]?.getD (0, 0, 0))) else []
theorem spG_none (v : Nat) (l : List Tr) (f : Nat) (q : List Int) (a b : Nat) : spG v l f q a b a = [] := by simp [spG]
theorem spG_succ {v : Nat} {l : List Tr} {f : Nat} {q : List Int} {a b i : Nat} (h : a ≤ i) (hi : i < l.length) : spG v l f q a b (i + 1) = spG v l f q a b i ++ if msk l[i] &&& b = 0 then spF v l f (q ++ [(i : Int)]) (i + 1) (b ||| msk l[i]) else [] := by
  unfold spG
  rw [show i + 1 - a = (i - a) + 1 by omega, List.range'_1_concat, List.flatMap_append, show a + (i - a) = i by omega]
  simp [List.getElem?_eq_getElem hi]
theorem spF_spG {v : Nat} {l : List Tr} {f : Nat} {q : List Int} {a b : Nat} (h : ¬ b = 2 ^ v - 1) : spF v l (f + 1) q a b = spG v l f q a b l.length := by
  rw [spF, if_neg h]; rfl
theorem spF_len {v : Nat} {l : List Tr} : ∀ (f : Nat) (q : List Int) (a b : Nat), a ≤ l.length → (spF v l f q a b).length ≤ 2 ^ (l.length - a) := by
  intro f
  induction f with
  | zero => intro q a b _; simp [spF]
  | succ f ih =>
    intro q a b ha
    by_cases h : b = 2 ^ v - 1
    · rw [spF, if_pos h]
      exact Nat.one_le_two_pow
    · rw [spF_spG h]
      have key : ∀ t, a + t ≤ l.length → (spG v l f q a b (a + t)).length + 2 ^ (l.length - (a + t)) ≤ 2 ^ (l.length - a) := by
        intro t
        induction t with
        | zero => intro _; simp [spG]
        | succ t iht =>
          intro ht
          have := iht (by omega)
          rw [← Nat.add_assoc, spG_succ (by omega) (by omega), List.length_append]
          have h2 : (if msk l[a + t] &&& b = 0 then spF v l f (q ++ [((a + t : Nat) : Int)]) (a + t + 1) (b ||| msk l[a + t]) else []).length ≤ 2 ^ (l.length - (a + t + 1)) := by
            split
            · exact ih _ _ _ (by omega)
            · simp
          have h3 : 2 ^ (l.length - (a + t)) = 2 * 2 ^ (l.length - (a + t + 1)) := by
            rw [show l.length - (a + t) = (l.length - (a + t + 1)) + 1 by omega, Nat.pow_succ]; omega
          omega
      have := key (l.length - a) (by omega)
      rw [show a + (l.length - a) = l.length by omega] at this
      exact Nat.le_trans (Nat.le_add_right _ _) this
theorem spG_len {v : Nat} {l : List Tr} {f : Nat} {q : List Int} {a b i : Nat} (ha : a ≤ i) (hi : i ≤ l.length) (hl : l.length ≤ 12) : (spG v l f q a b i).length ≤ 4096 := by
  have key : ∀ t, a + t ≤ l.length → (spG v l f q a b (a + t)).length + 2 ^ (l.length - (a + t)) ≤ 2 ^ (l.length - a) := by
    intro t
    induction t with
    | zero => intro _; simp [spG]
    | succ t iht =>
      intro ht
      have := iht (by omega)
      rw [← Nat.add_assoc, spG_succ (by omega) (by omega), List.length_append]
      have h2 : (if msk l[a + t] &&& b = 0 then spF v l f (q ++ [((a + t : Nat) : Int)]) (a + t + 1) (b ||| msk l[a + t]) else []).length ≤ 2 ^ (l.length - (a + t + 1)) := by
        split
        · exact spF_len _ _ _ _ (by omega)
        · simp
      have h3 : 2 ^ (l.length - (a + t)) = 2 * 2 ^ (l.length - (a + t + 1)) := by
        rw [show l.length - (a + t) = (l.length - (a + t + 1)) + 1 by omega, Nat.pow_succ]; omega
      omega
  have := key (i - a) (by omega)
  rw [show a + (i - a) = i by omega] at this
  have h4 : 2 ^ (l.length - a) ≤ 2 ^ 12 := Nat.pow_le_pow_right (by omega) (by omega)
  exact Nat.le_trans (Nat.le_add_right _ _) (Nat.le_trans this h4)
theorem spF_len12 {v : Nat} {l : List Tr} {f : Nat} {q : List Int} {a b : Nat} (ha : a ≤ l.length) (hl : l.length ≤ 12) : (spF v l f q a b).length ≤ 4096 := by
  have h1 := spF_len (v := v) (l := l) f q a b ha
  have h4 : 2 ^ (l.length - a) ≤ 2 ^ 12 := Nat.pow_le_pow_right (by omega) (by omega)
  omega
theorem spF_els {v : Nat} {l : List Tr} : ∀ (f : Nat) (q : List Int) (a b : Nat), q.length ≤ a → a ≤ l.length → ∀ s ∈ spF v l f q a b, s.length ≤ l.length := by
  intro f
  induction f with
  | zero => intro q a b _ _ s hs; simp [spF] at hs
  | succ f ih =>
    intro q a b hq ha s hs
    by_cases h : b = 2 ^ v - 1
    · rw [spF, if_pos h, List.mem_singleton] at hs
      subst hs; omega
    · rw [spF, if_neg h] at hs
      obtain ⟨i, hi, hs⟩ := List.mem_flatMap.1 hs
      rw [List.mem_range'_1] at hi
      split at hs
      · exact ih _ _ _ (by simp; omega) (by omega) s hs
      · simp at hs
theorem msk_lt {v : Nat} {t : Tr} (hv : v ≤ 9) (h : inT v t) : msk t < 512 := by
  unfold inT at h
  unfold msk
  have p : ∀ x : Int, 0 ≤ x → x < v → 2 ^ x.toNat < 2 ^ 9 := fun x h1 h2 => Nat.pow_lt_pow_right (by omega) (by omega)
  exact Nat.or_lt_two_pow (Nat.or_lt_two_pow (p _ (by omega) (by omega)) (p _ (by omega) (by omega))) (p _ (by omega) (by omega))
end Go.Lt.P8
