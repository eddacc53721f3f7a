/- PLAIN LAWS OF WHAT IS COMPUTED, for the statement 'PairsSpread'. Nothing is asked of the input. -/
import Derived.Test.YthmhdbmpeepmaaaU12UTg0
import Derived.Test.YthmhdbmpeepmaaaU12UThI
import Derived.Test.YthmhdbmpeepmaaaLB
set_option linter.unusedVariables false
set_option linter.unusedSimpArgs false
namespace Go.Lt.P8
open Go Go.Lt Go.Proofs
theorem r52_own {l : List Tr} {H : Hp} {v : Sl} (hv : SL H v l) (hn : v.nil = false) (hb : l.length < 9223372036854775808) : Ok (r52 v H) fun w H' => Gr H H' ∧ Own H' w (l.take 16) ∧ H.n ≤ w.b := by
  unfold r52
  have h1 := hv.len
  have hc := hv.cap
  have ho := hv.opn
  have e : (if 16 < (v.len : Int) then (16 : Int) else (v.len : Int)) = ((min 16 l.length : Nat) : Int) := by
    by_cases h : 16 < (v.len : Int)
    · rw [if_pos h]; omega
    · rw [if_neg h]; omega
  rw [e]
  refine Ok.ck ⟨by omega, ho⟩ ?_
  rw [Int.toNat_natCast]
  have hs := hv.cut (lo := 0) (hi := min 16 l.length) (by omega) (by omega)
  have hl : (l.drop 0).take (min 16 l.length - 0) = l.take 16 := by
    rw [List.drop_zero, Nat.sub_zero]
    by_cases h : 16 ≤ l.length
    · rw [Nat.min_eq_left h]
    · rw [Nat.min_eq_right (by omega), List.take_of_length_le (by omega), List.take_of_length_le (by omega)]
  rw [hl] at hs
  have hcn : (v.cut 3 0 (min 16 l.length)).nil = false := by simp [Sl.cut, hn]
  show Ok ((cloneR 3 _ H).bind fun p2 => some (p2.1, p2.2)) _
  exact Ok.bind (clone_ok hs (by simp; omega) rfl) fun w H2 ⟨g2, _, _, hw⟩ => Ok.ret ⟨g2, hw hcn⟩
/-- counts -/
def cntB (v : Nat) (S : List Int) : List AV := (List.range v).map fun (x : Nat) => AV.int .i64 ((S.count (x : Int) : Nat) : Int)
theorem cntB_len (v : Nat) (S : List Int) : (cntB v S).length = v := by simp [cntB]
theorem cntB_get {v : Nat} {S : List Int} {x : Nat} (h : x < v) : (cntB v S)[x]? = some (.int .i64 ((S.count (x : Int) : Nat) : Int)) := by
  unfold cntB
  rw [List.getElem?_map, List.getElem?_range h]
  rfl
theorem cntB_nil (v : Nat) : zerosA [.int .i64 0] v = cntB v [] := by
  unfold zerosA cntB
  apply List.map_congr_left
  intro i _
  simp [Nat.mod_one]
theorem cntB_set {v : Nat} {S : List Int} {x : Nat} (h : x < v) : (cntB v S).set x (.int .i64 (((S.count (x : Int) : Nat) : Int) + 1)) = cntB v (S ++ [(x : Int)]) := by
  apply List.ext_getElem
  · simp [cntB]
  · intro t h1 h2
    rw [List.getElem_set]
    unfold cntB
    simp only [List.getElem_map, List.getElem_range, List.count_append, List.count_singleton]
    by_cases e : x = t
    · subst e; simp
    · rw [if_neg e]
      have : ¬ ((x : Int) = (t : Int)) := by omega
      simp [this]
structure G16 (v : Nat) (l : List Tr) : Prop where
  len : l.length = v * (v - 1) / 6
  ok : areF v (l.take 16) = true
  cnt : ∀ x, x < v → 2 * (flat3 l).count (x : Int) = v - 1
  less : ∀ i, i < l.length → areF v (l.eraseIdx i) = false
  rng : ∀ x ∈ flat3 l, 0 ≤ x ∧ x < (v : Int)
theorem good16_iff {v : Nat} {l : List Tr} (h : good16 v l = true) : G16 v l := by
  unfold good16 at h
  simp only [Bool.and_eq_true, beq_iff_eq, List.all_eq_true, List.mem_range, Bool.not_eq_true', decide_eq_true_eq] at h
  obtain ⟨⟨⟨⟨h1, h2⟩, h3⟩, h4⟩, h5⟩ := h
  exact ⟨h1, h2, h3, h4, h5⟩
theorem grow_cases {v : Nat} (hv : 3 ≤ v ∧ v ≤ 9) : (growF v 13 [] = none ∧ v ≠ 3 ∧ v ≠ 7 ∧ v ≠ 9) ∨ ((v = 3 ∨ v = 7 ∨ v = 9) ∧ ∃ l, growF v 13 [] = some l ∧ G16 v l) := by
  have : v = 3 ∨ v = 4 ∨ v = 5 ∨ v = 6 ∨ v = 7 ∨ v = 8 ∨ v = 9 := by omega
  have some_ : ∀ v, (growF v 13 []).any (good16 v) = true → ∃ l, growF v 13 [] = some l ∧ G16 v l := fun v h => by
    cases hg : growF v 13 [] with
    | none => rw [hg] at h; cases h
    | some l => rw [hg] at h; exact ⟨l, rfl, good16_iff h⟩
  rcases this with rfl | rfl | rfl | rfl | rfl | rfl | rfl
  · exact .inr ⟨.inl rfl, some_ _ good3⟩
  · exact .inl ⟨grow4, by omega⟩
  · exact .inl ⟨grow5, by omega⟩
  · exact .inl ⟨grow6, by omega⟩
  · exact .inr ⟨.inr (.inl rfl), some_ _ good7⟩
  · exact .inl ⟨grow8, by omega⟩
  · exact .inr ⟨.inr (.inr rfl), some_ _ good9⟩
theorem flat3_append (a b : List Tr) : flat3 (a ++ b) = flat3 a ++ flat3 b := by unfold flat3; rw [List.flatMap_append]
theorem flat3_len (l : List Tr) : (flat3 l).length = 3 * l.length := by
  induction l with
  | nil => rfl
  | cons t l ih => rw [show flat3 (t :: l) = list3 t ++ flat3 l from rfl, List.length_append, ih]; simp [list3]; omega
end Go.Lt.P8
