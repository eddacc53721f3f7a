/- PLAIN LAWS OF WHAT IS COMPUTED, for the statement 'PairsSpread'. Nothing is asked of the input. -/
import Derived.Test.YthmhdbmpeepmaaaU12UTsP
import Derived.Test.YthmhdbmpeepmaaaU12UThP
set_option linter.unusedVariables false
set_option linter.unusedSimpArgs false
namespace Go.Lt.P8
open Go Go.Lt
/-- all triples that go on with some -/
def allF (v : Nat) : Nat → List Tr → List (List Tr)
  | 0, _ => []
  | f + 1, l => match firstP v (pairs3 l) with
    | none => [l]
    | some p => (List.range' (p.2.toNat + 1) (v - (p.2.toNat + 1))).flatMap fun (z : Nat) =>
      if (prs3 (p.1, p.2, (z : Int))).any (fun q => decide (q ∈ pairs3 l)) = true then [] else allF v f (l ++ [(p.1, p.2, (z : Int))])
def lexP (p q : Pr) : Prop := p.1 < q.1 ∨ (p.1 = q.1 ∧ p.2 < q.2)
instance (p q : Pr) : Decidable (lexP p q) := by unfold lexP; infer_instance
theorem allP_up : ∀ v ∈ [3, 4, 5, 6, 7, 8, 9], (allP v).Pairwise lexP := by decide +kernel
theorem firstP_le {v : Nat} (hv : 3 ≤ v ∧ v ≤ 9) {S : List Pr} {p q : Pr} (h : firstP v S = some p) (hq : q ∈ allP v) (hn : q ∉ S) : p = q ∨ lexP p q := by
  have hu := allP_up v (by simp; omega)
  unfold firstP at h
  obtain ⟨_, as, bs, he, has⟩ := List.find?_eq_some_iff_append.1 h
  rw [he] at hq hu
  rcases List.mem_append.1 hq with hq | hq
  · have := has q hq
    simp at this
    exact absurd this hn
  · rcases List.mem_cons.1 hq with rfl | hq
    · exact .inl rfl
    · exact .inr ((List.pairwise_cons.1 (List.pairwise_append.1 hu).2.1).1 q hq)
theorem cmpT_lt {s t : Tr} : cmpT s t < 0 ↔ s.1 < t.1 ∨ (s.1 = t.1 ∧ (s.2.1 < t.2.1 ∨ (s.2.1 = t.2.1 ∧ s.2.2 < t.2.2))) := by
  unfold cmpT list3
  simp only [cmpL]
  by_cases a1 : s.1 < t.1
  · simp [a1]
  · by_cases a2 : t.1 < s.1
    · simp [a1, a2]; omega
    · by_cases b1 : s.2.1 < t.2.1
      · simp [a1, a2, b1]; try omega
      · by_cases b2 : t.2.1 < s.2.1
        · simp [a1, a2, b1, b2]; try omega
        · by_cases c1 : s.2.2 < t.2.2
          · simp [a1, a2, b1, b2, c1]; try omega
          · by_cases c2 : t.2.2 < s.2.2
            · simp [a1, a2, b1, b2, c1, c2]; try omega
            · simp [a1, a2, b1, b2, c1, c2]; try omega
theorem adjF_app {q : Option Tr} : ∀ {a b : List Tr}, adjF q (a ++ b) → ∃ q', adjF q' b := by
  intro a
  induction a generalizing q with
  | nil => intro b h; exact ⟨q, h⟩
  | cons x a ih => intro b h; exact ih h.2
theorem adjF_le : ∀ {l : List Tr} {u : Tr}, adjF (some u) l → ∀ t ∈ l, cmpT u t < 0 := by
  intro l
  induction l with
  | nil => intro u _ t ht; simp at ht
  | cons x l ih =>
    intro u h t ht
    have h1 := h.1 u rfl
    rcases List.mem_cons.1 ht with rfl | ht
    · exact h1
    · have h2 := ih h.2 t ht
      rw [cmpT_lt] at *
      omega
theorem all_in {v : Nat} (hv : 3 ≤ v ∧ v ≤ 9) {L : List Tr} (hL : ThreesV v L) : ∀ (f : Nat) (a b : List Tr), L = a ++ b → 13 ≤ a.length + f → L ∈ allF v f a := by
  intro f
  induction f with
  | zero =>
    intro a b e h
    have := hL.len hv
    rw [e, List.length_append] at this
    omega
  | succ f ih =>
    intro a b e h
    have hon := hL.once
    rw [e, pairs3_append] at hon
    obtain ⟨_, hb2, hab⟩ := List.nodup_append.1 hon
    rw [allF]
    cases hp : firstP v (pairs3 a) with
    | none =>
      cases b with
      | nil => simp [e]
      | cons t b =>
        exfalso
        have hin := hL.rng t (by rw [e]; simp)
        have h1 := prs3_all hin (t.1, t.2.1) (by simp [prs3])
        unfold firstP at hp
        have h2 := List.find?_eq_none.1 hp _ h1
        simp at h2
        exact hab _ h2 _ (by rw [pairs3_cons]; simp [prs3]) rfl
    | some p =>
      have hpm := List.mem_of_find?_eq_some hp
      have hpn : p ∉ pairs3 a := by
        have := List.find?_some hp
        simpa using this
      have hpb : p ∈ pairs3 b := by
        have := hL.every p hpm
        rw [e, pairs3_append] at this
        exact (List.mem_append.1 this).resolve_left hpn
      cases b with
      | nil => simp [pairs3] at hpb
      | cons u b =>
        have hin := hL.rng u (by rw [e]; simp)
        have hin' := hin
        unfold inT at hin'
        have hup := hL.up
        rw [e] at hup
        obtain ⟨q', hq'⟩ := adjF_app hup
        have hle := adjF_le hq'.2
        have hu1 : (u.1, u.2.1) ∉ pairs3 a := fun c => hab _ c _ (by rw [pairs3_cons]; simp [prs3]) rfl
        have h1 := firstP_le hv hp (prs3_all hin (u.1, u.2.1) (by simp [prs3])) hu1
        -- the pair is that of the next one
        have hpu : p = (u.1, u.2.1) := by
          rcases h1 with h1 | h1
          · exact h1
          · exfalso
            unfold lexP at h1
            dsimp only at h1
            obtain ⟨t, ht, hpt⟩ := List.mem_flatMap.1 hpb
            have htin := hL.rng t (by rw [e]; exact List.mem_append_right _ ht)
            have htin' := htin
            unfold inT at htin'
            have hut : u.1 < t.1 ∨ (u.1 = t.1 ∧ u.2.1 ≤ t.2.1) := by
              rcases List.mem_cons.1 ht with rfl | ht
              · exact .inr ⟨rfl, Int.le_refl _⟩
              · have := cmpT_lt.1 (hle t ht)
                omega
            simp only [prs3, List.mem_cons, List.not_mem_nil, or_false] at hpt
            rcases hpt with rfl | rfl | rfl <;> dsimp only at h1 <;> omega
        rw [List.mem_flatMap]
        obtain ⟨z, hz⟩ : ∃ z : Nat, u.2.2 = z := ⟨u.2.2.toNat, by omega⟩
        have hu : u = (p.1, p.2, (z : Int)) := by rw [hpu, ← hz]
        refine ⟨z, by rw [List.mem_range'_1, hpu]; dsimp only; omega, ?_⟩
        rw [← hu, if_neg]
        · exact ih _ b (by rw [e]; simp) (by rw [List.length_append]; simp; omega)
        · rw [List.any_eq_true]
          rintro ⟨q, hq1, hq2⟩
          exact hab q (of_decide_eq_true hq2) q (by rw [pairs3_cons]; exact List.mem_append_left _ hq1) rfl
/-- players that come once -/
def plW : Nat → List Int → Option Nat
  | m, [] => some m
  | m, x :: xs => if m.testBit x.toNat then none else plW (m ||| 2 ^ x.toNat) xs
/-- a spread, walked -/
def spW (l : List Tr) : Int → Nat → List Int → Option Nat
  | _, m, [] => some m
  | p, m, x :: xs => if p < x ∧ x < l.length then (plW m (list3 (l[x.toNat]?.getD (0, 0, 0)))).bind fun m' => spW l x m' xs else none
def adjC : List (List Int) → Bool
  | a :: b :: r => decide (cmpL a b < 0) && adjC (b :: r)
  | _ => true
def good12 (v : Nat) (l : List Tr) : Bool :=
  (spF v l 13 [] 0 0).all (fun s => spW l (-1) 0 s == some (2 ^ v - 1)) && adjC (spF v l 13 [] 0 0) &&
  if v = 9 then (spF v l 13 [] 0 0).length == 4 && (List.range l.length).all fun i => (spF v l 13 [] 0 0).flatten.count (i : Int) == 1 else (spF v l 13 [] 0 0).length == v % 7 / 3
/-! the same in numbers -/
def force {α : Type} (n : Nat) (f : Nat → α) : α := match n with
  | 0 => f 0
  | k + 1 => f (k + 1)
theorem force_eq {α : Type} (n : Nat) (f : Nat → α) : force n f = f n := by cases n <;> rfl
def codes (v : Nat) : List Nat := (List.range v).flatMap fun a => (List.range' (a + 1) (v - (a + 1))).map fun b => 9 * a + b
def allE (v : Nat) (cs : List Nat) : Nat → Nat → List Nat → List (List Nat)
  | 0, _, _ => []
  | f + 1, m, M => match cs.find? fun c => !m.testBit c with
    | none => [M]
    | some c => (List.range' (c % 9 + 1) (v - (c % 9 + 1))).flatMap fun z =>
      if (m.testBit (9 * (c / 9) + z) || m.testBit (9 * (c % 9) + z)) = true then [] else
        force (m ||| 2 ^ c ||| 2 ^ (9 * (c / 9) + z) ||| 2 ^ (9 * (c % 9) + z)) fun m' => force (2 ^ (c / 9) ||| 2 ^ (c % 9) ||| 2 ^ z) fun t => allE v cs f m' (M ++ [t])
def spM (v : Nat) (M : List Nat) : Nat → List Int → Nat → Nat → List (List Int)
  | 0, _, _, _ => []
  | f + 1, q, a, b => if b = 2 ^ v - 1 then [q] else (List.range' a (M.length - a)).flatMap fun (i : Nat) => if (M[i]?.getD 1) &&& b = 0 then spM v M f (q ++ [(i : Int)]) (i + 1) (b ||| (M[i]?.getD 1)) else []
def spWM (M : List Nat) : Int → Nat → List Int → Option Nat
  | _, m, [] => some m
  | p, m, x :: xs => if p < x ∧ x < M.length then (if (M[x.toNat]?.getD 1) &&& m = 0 then spWM M x (m ||| (M[x.toNat]?.getD 1)) xs else none) else none
def goodM (v : Nat) (M : List Nat) : Bool :=
  (spM v M 13 [] 0 0).all (fun s => spWM M (-1) 0 s == some (2 ^ v - 1)) && adjC (spM v M 13 [] 0 0) &&
  if v = 9 then (spM v M 13 [] 0 0).length == 4 && (List.range M.length).all fun i => (spM v M 13 [] 0 0).flatten.count (i : Int) == 1 else (spM v M 13 [] 0 0).length == v % 7 / 3
end Go.Lt.P8
