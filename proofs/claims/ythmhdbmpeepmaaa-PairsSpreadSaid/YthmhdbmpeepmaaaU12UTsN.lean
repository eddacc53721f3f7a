/- PLAIN LAWS OF WHAT IS COMPUTED, for the statement 'PairsSpread'. Nothing is asked of the input. -/
import Derived.Test.YthmhdbmpeepmaaaU12UTsM
set_option linter.unusedVariables false
set_option linter.unusedSimpArgs false
namespace Go.Lt.P8
open Go Go.Lt
theorem getD_msk (l : List Tr) (i : Nat) : (l.map msk)[i]?.getD 1 = msk (l[i]?.getD (0, 0, 0)) := by
  rw [List.getElem?_map]
  cases l[i]? <;> rfl
theorem spM_eq (v : Nat) (l : List Tr) : ∀ (f : Nat) (q : List Int) (a b : Nat), spM v (l.map msk) f q a b = spF v l f q a b := by
  intro f
  induction f with
  | zero => intro q a b; rfl
  | succ f ih =>
    intro q a b
    rw [spM, spF, List.length_map]
    split
    · rfl
    · congr 1
      funext i
      rw [getD_msk]
      split
      · exact ih _ _ _
      · rfl
theorem msk_bit {v : Nat} {t : Tr} (h : inT v t) (x : Int) (hx : x ∈ list3 t) : (msk t).testBit x.toNat = true := by
  unfold msk
  simp only [list3, List.mem_cons, List.not_mem_nil, or_false] at hx
  simp only [Nat.testBit_or, Nat.testBit_two_pow]
  rcases hx with rfl | rfl | rfl <;> simp
theorem plW_msk {v : Nat} {t : Tr} {m : Nat} (h : inT v t) (hd : msk t &&& m = 0) : plW m (list3 t) = some (m ||| msk t) := by
  have hf : ∀ x ∈ list3 t, m.testBit x.toNat = false := fun x hx => by
    have h1 := msk_bit h x hx
    have h2 : (msk t &&& m).testBit x.toNat = false := by rw [hd]; simp
    rw [Nat.testBit_and, h1, Bool.true_and] at h2
    exact h2
  unfold inT at h
  have f1 := hf t.1 (by simp [list3])
  have f2 := hf t.2.1 (by simp [list3])
  have f3 := hf t.2.2 (by simp [list3])
  have e1 : t.1.toNat ≠ t.2.1.toNat := by omega
  have e2 : t.1.toNat ≠ t.2.2.toNat := by omega
  have e3 : t.2.1.toNat ≠ t.2.2.toNat := by omega
  unfold list3 msk
  simp only [plW, f1, Nat.testBit_or, Nat.testBit_two_pow, f2, f3, e1, e2, e3, Bool.or_false, decide_false, Bool.false_eq_true, if_false]
  simp only [Nat.or_assoc]
theorem spWM_ok {v : Nat} {l : List Tr} (hr : ∀ t ∈ l, inT v t) : ∀ (s : List Int) (p : Int) (m r : Nat), -1 ≤ p → spWM (l.map msk) p m s = some r → spW l p m s = some r := by
  intro s
  induction s with
  | nil => intro p m r _ h; exact h
  | cons x s ih =>
    intro p m r hp h
    rw [spWM, List.length_map] at h
    rw [spW]
    by_cases hc : p < x ∧ x < l.length
    · rw [if_pos hc, getD_msk] at h
      rw [if_pos hc]
      have hx : x.toNat < l.length := by omega
      rw [List.getElem?_eq_getElem hx] at h ⊢
      simp only [Option.getD_some] at h ⊢
      by_cases hd : msk l[x.toNat] &&& m = 0
      · rw [if_pos hd] at h
        rw [plW_msk (hr _ (List.getElem_mem hx)) hd]
        exact ih _ _ _ (by omega) h
      · rw [if_neg hd] at h; cases h
    · rw [if_neg hc] at h; cases h
/-- pairs as bits -/
def cod (p : Pr) : Nat := 9 * p.1.toNat + p.2.toNat
def pmk : List Pr → Nat
  | [] => 0
  | p :: S => 2 ^ cod p ||| pmk S
def sm (p : Pr) : Prop := 0 ≤ p.1 ∧ p.1 < p.2 ∧ p.2 < 9
theorem cod_inj {p q : Pr} (hp : sm p) (hq : sm q) (h : cod p = cod q) : p = q := by
  unfold sm at *
  unfold cod at h
  exact Prod.ext (by omega) (by omega)
theorem pmk_bit : ∀ {S : List Pr}, (∀ q ∈ S, sm q) → ∀ {p : Pr}, sm p → (pmk S).testBit (cod p) = decide (p ∈ S) := by
  intro S
  induction S with
  | nil => intro _ p _; simp [pmk]
  | cons x S ih =>
    intro h p hp
    rw [pmk, Nat.testBit_or, Nat.testBit_two_pow, ih (fun q hq => h q (by simp [hq])) hp]
    by_cases e : x = p
    · subst e; simp
    · have : cod x ≠ cod p := fun c => e (cod_inj (h x (by simp)) hp c)
      simp [this, Ne.symm e]
theorem pmk_append (a b : List Pr) : pmk (a ++ b) = pmk a ||| pmk b := by
  induction a with
  | nil => simp [pmk]
  | cons x a ih => rw [List.cons_append, pmk, pmk, ih, Nat.or_assoc]
theorem codes_eq : ∀ v ∈ [3, 4, 5, 6, 7, 8, 9], codes v = (allP v).map cod := by decide +kernel
theorem allP_sm {v : Nat} (hv : v ≤ 9) {p : Pr} (h : p ∈ allP v) : sm p := by
  have := allP_mem.1 h
  exact ⟨this.1, this.2.1, by omega⟩
theorem firstP_codes {v : Nat} (hv : 3 ≤ v ∧ v ≤ 9) {S : List Pr} (hS : ∀ q ∈ S, sm q) : (codes v).find? (fun c => !(pmk S).testBit c) = (firstP v S).map cod := by
  rw [codes_eq v (by simp; omega), List.find?_map]
  unfold firstP
  congr 1
  have key : ∀ (l : List Pr), (∀ p ∈ l, sm p) → l.find? ((fun c => !(pmk S).testBit c) ∘ cod) = l.find? fun p => decide (p ∉ S) := by
    intro l
    induction l with
    | nil => intro _; rfl
    | cons x l ih =>
      intro h
      rw [List.find?_cons, List.find?_cons, ih (fun p hp => h p (by simp [hp]))]
      simp only [Function.comp, pmk_bit hS (h x (by simp))]
      by_cases e : x ∈ S <;> simp [e]
  exact key _ fun p hp => allP_sm hv.2 hp
theorem flatMap_congr2 {α β : Type} {f g : α → List β} : ∀ {l : List α}, (∀ x ∈ l, f x = g x) → l.flatMap f = l.flatMap g := by
  intro l
  induction l with
  | nil => intro _; rfl
  | cons x l ih => intro h; rw [List.flatMap_cons, List.flatMap_cons, h x (by simp), ih fun y hy => h y (by simp [hy])]
theorem allE_eq {v : Nat} (hv : 3 ≤ v ∧ v ≤ 9) : ∀ (f : Nat) (l : List Tr), (∀ q ∈ pairs3 l, sm q) → allE v (codes v) f (pmk (pairs3 l)) (l.map msk) = (allF v f l).map (·.map msk) := by
  intro f
  induction f with
  | zero => intro l _; rfl
  | succ f ih =>
    intro l hl
    rw [allE, allF, firstP_codes hv hl]
    cases hp : firstP v (pairs3 l) with
    | none => rfl
    | some p =>
      have hps := allP_sm hv.2 (List.mem_of_find?_eq_some hp)
      have hpm := allP_mem.1 (List.mem_of_find?_eq_some hp)
      have hs := hps
      unfold sm at hs
      have hpn : p ∉ pairs3 l := by
        have := List.find?_some hp
        simpa using this
      obtain ⟨⟨x, y⟩, e⟩ : ∃ q : Nat × Nat, p = ((q.1 : Int), (q.2 : Int)) := ⟨(p.1.toNat, p.2.toNat), Prod.ext (by simp; omega) (by simp; omega)⟩
      subst e
      dsimp only at hs
      simp only [Option.map_some, cod, Int.toNat_natCast]
      have h1 : (9 * x + y) % 9 = y := by omega
      have h2 : (9 * x + y) / 9 = x := by omega
      rw [h1, h2, List.map_flatMap]

      refine flatMap_congr2 fun z hz => ?_
      rw [List.mem_range'_1] at hz
      have q1 : sm ((x : Int), (z : Int)) := ⟨by dsimp only; omega, by dsimp only; omega, by dsimp only; omega⟩
      have q2 : sm ((y : Int), (z : Int)) := ⟨by dsimp only; omega, by dsimp only; omega, by dsimp only; omega⟩
      have b1 := pmk_bit hl q1
      have b2 := pmk_bit hl q2
      simp only [cod, Int.toNat_natCast] at b1 b2
      rw [b1, b2]
      have hany : ((prs3 ((x : Int), (y : Int), (z : Int))).any fun q => decide (q ∈ pairs3 l)) = (decide (((x : Int), (z : Int)) ∈ pairs3 l) || decide (((y : Int), (z : Int)) ∈ pairs3 l)) := by
        simp only [prs3, List.any_cons, List.any_nil, Bool.or_false]
        rw [decide_eq_false hpn, Bool.false_or]
      rw [hany]
      by_cases hc : (decide (((x : Int), (z : Int)) ∈ pairs3 l) || decide (((y : Int), (z : Int)) ∈ pairs3 l)) = true
      · rw [if_pos hc, if_pos hc]; rfl
      · rw [if_neg hc, if_neg hc, force_eq, force_eq]
        have := ih (l ++ [((x : Int), (y : Int), (z : Int))]) (fun q hq => by
          rw [pairs3_append] at hq
          rcases List.mem_append.1 hq with hq | hq
          · exact hl q hq
          · simp only [pairs3, List.flatMap_cons, List.flatMap_nil, List.append_nil, prs3, List.mem_cons, List.not_mem_nil, or_false] at hq
            rcases hq with rfl | rfl | rfl
            · exact hps
            · exact q1
            · exact q2)
        rw [← this, pairs3_append, pmk_append, List.map_append]
        congr 1
        simp only [pairs3, List.flatMap_cons, List.flatMap_nil, List.append_nil, prs3, pmk, cod, Int.toNat_natCast, Nat.or_zero, Nat.or_assoc]
/-- what all valid triples answer -/
structure Good12 (v : Nat) (l : List Tr) (S : List (List Int)) : Prop where
  all : ∀ s ∈ S, spW l (-1) 0 s = some (2 ^ v - 1)
  up : adjC S = true
  nine : v = 9 → S.length = 4 ∧ ∀ i, i < l.length → S.flatten.count (i : Int) = 1
  less : v ≠ 9 → S.length = v % 7 / 3
theorem good12_ok {v : Nat} (hv : 3 ≤ v ∧ v ≤ 9) {l : List Tr} (h : ThreesV v l) : Good12 v l (spF v l 13 [] 0 0) := by
  have h1 := all_in hv h 13 [] l rfl (by simp)
  have h2 : l.map msk ∈ allE v (codes v) 13 0 [] := by
    have := allE_eq hv 13 [] (by simp [pairs3])
    simp only [pairs3, List.flatMap_nil, pmk, List.map_nil] at this
    rw [this]
    exact List.mem_map.2 ⟨l, h1, rfl⟩
  have hg : goodM v (l.map msk) = true := by
    by_cases h9 : v = 9
    · subst h9; exact List.all_eq_true.1 all12_9 _ h2
    · exact List.all_eq_true.1 (all12 v (by simp; omega)) _ h2
  unfold goodM at hg
  rw [spM_eq, List.length_map] at hg
  generalize spF v l 13 [] 0 0 = S at *
  rw [Bool.and_eq_true, Bool.and_eq_true] at hg
  obtain ⟨⟨g1, g2⟩, g3⟩ := hg
  refine ⟨fun s hs => ?_, g2, fun h9 => ?_, fun h9 => ?_⟩
  · have := List.all_eq_true.1 g1 s hs
    rw [beq_iff_eq] at this
    exact spWM_ok h.rng s _ _ _ (by omega) this
  · rw [if_pos h9, Bool.and_eq_true, beq_iff_eq] at g3
    refine ⟨g3.1, fun i hi => ?_⟩
    have := List.all_eq_true.1 g3.2 i (List.mem_range.2 hi)
    rwa [beq_iff_eq] at this
  · rw [if_neg h9, beq_iff_eq] at g3
    exact g3
end Go.Lt.P8
