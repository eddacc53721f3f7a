/- PLAIN LAWS OF WHAT IS COMPUTED, for the statement 'PairsSpread'. Nothing is asked of the input. -/
import Derived.Test.YthmhdbmpeepmaaaU12UThB
set_option linter.unusedVariables false
set_option linter.unusedSimpArgs false
namespace Go.Lt.P8
open Go Go.Lt Go.Proofs
/-- before of the reference -/
theorem r92_ok (s t : Tr) (H : Hp) : Ok (r92 s.1 s.2.1 s.2.2 t.1 t.2.1 t.2.2 H) fun b H' => Gr H H' ∧ b = decide (cmpT s t < 0) := by
  unfold r92
  refine Ok.lt ?_
  generalize hB : (H.push (.cells [.int .i64 s.1, .int .i64 s.2.1, .int .i64 s.2.2] false)).push (.cells [.int .i64 t.1, .int .i64 t.2.1, .int .i64 t.2.2] false) = B
  have n1 : (H.push (.cells [.int .i64 s.1, .int .i64 s.2.1, .int .i64 s.2.2] false)).n = H.n + 1 := by simp
  rw [n1]
  have gB : Gr H B := by rw [← hB]; exact (Gr.push _ _).trans (.push _ _)
  have b0 : B.get H.n = some (.cells [.int .i64 s.1, .int .i64 s.2.1, .int .i64 s.2.2] false) := by rw [← hB, Hp.get_push_old _ _ (by simp)]; simp
  have b1 : B.get (H.n + 1) = some (.cells [.int .i64 t.1, .int .i64 t.2.1, .int .i64 t.2.2] false) := by rw [← hB, ← n1, Hp.get_push_new]
  clear hB
  refine Ok.ld (ldI_get b0 rfl) (Ok.ld (ldI_get b0 rfl) (Ok.ld (ldI_get b0 rfl) ?_))
  have step : ∀ (K : Nat) (i : Int) (x y : Int), 0 ≤ i → i < 3 → apart false 1 [.int .i64 s.1, .int .i64 s.2.1, .int .i64 s.2.2] (i.toNat * 1) = some (.int .i64 x) → B.ldI .i64 (H.n + 1) (0 + (i : Int).toNat * 1) = some y →
      r92_l0 (K + 1) (H.n + 1) s.1 s.2.1 s.2.2 i B = if x ≠ y then some (decide (x < y), B) else r92_l0 K (H.n + 1) s.1 s.2.1 s.2.2 (w64 (i + 1)) B := by
    intro K i x y h0 h3 ha hl
    rw [r92_l0, if_pos h3, ck, if_pos ⟨h0, by simpa using h3⟩, ha]
    simp only [Option.bind_some, AV.asI, if_true]
    rw [ck, if_pos ⟨h0, by simpa using h3⟩, hl]
    simp only [Option.bind_some, ck]
    rw [if_pos (show (0 : Int) ≤ i ∧ i < ((3 : Nat) : Int) from ⟨h0, by simpa using h3⟩)]
  rw [show FUEL = 18446744073709551612 + 1 + 1 + 1 + 1 from rfl, step _ 0 s.1 t.1 (by decide) (by decide) rfl (ldI_get b1 rfl)]
  have hc : cmpT s t = if s.1 < t.1 then -1 else if t.1 < s.1 then 1 else if s.2.1 < t.2.1 then -1 else if t.2.1 < s.2.1 then 1 else if s.2.2 < t.2.2 then -1 else if t.2.2 < s.2.2 then 1 else 0 := by
    simp [cmpT, list3, cmpL]
  refine Ok.ite (fun h => Ok.ret ⟨gB, ?_⟩) fun h => ?_
  · rw [hc]
    by_cases a : s.1 < t.1
    · simp [a]
    · have : t.1 < s.1 := by omega
      simp [a, this]
  rw [show w64 (0 + 1) = 1 by decide, step _ 1 s.2.1 t.2.1 (by decide) (by decide) rfl (ldI_get b1 rfl)]
  have e1 : s.1 = t.1 := Classical.byContradiction h
  refine Ok.ite (fun h => Ok.ret ⟨gB, ?_⟩) fun h => ?_
  · rw [hc, if_neg (by omega), if_neg (by omega)]
    by_cases a : s.2.1 < t.2.1
    · simp [a]
    · have : t.2.1 < s.2.1 := by omega
      simp [a, this]
  rw [show w64 (1 + 1) = 2 by decide, step _ 2 s.2.2 t.2.2 (by decide) (by decide) rfl (ldI_get b1 rfl)]
  have e2 : s.2.1 = t.2.1 := Classical.byContradiction h
  refine Ok.ite (fun h => Ok.ret ⟨gB, ?_⟩) fun h => ?_
  · rw [hc, if_neg (by omega), if_neg (by omega), if_neg (by omega), if_neg (by omega)]
    by_cases a : s.2.2 < t.2.2
    · simp [a]
    · have : t.2.2 < s.2.2 := by omega
      simp [a, this]
  have e3 : s.2.2 = t.2.2 := Classical.byContradiction h
  rw [show w64 (2 + 1) = 3 by decide, r92_l0, if_neg (by decide)]
  refine Ok.ret ⟨gB, ?_⟩
  rw [hc, if_neg (by omega), if_neg (by omega), if_neg (by omega), if_neg (by omega), if_neg (by omega), if_neg (by omega)]
  rfl
def cntA (M : List Pr) : List AV := (List.range 81).map fun t => AV.int .i64 ((M.count (((t / 9 : Nat) : Int), ((t % 9 : Nat) : Int)) : Nat) : Int)
theorem cntA_len (M : List Pr) : (cntA M).length = 81 := by simp [cntA]
theorem cntA_get {M : List Pr} {a b : Nat} (ha : a < 9) (hb : b < 9) : (cntA M)[a * 9 + b]? = some (.int .i64 ((M.count ((a : Int), (b : Int)) : Nat) : Int)) := by
  unfold cntA
  rw [List.getElem?_map, List.getElem?_range (by omega)]
  simp only [Option.map_some]
  rw [show (a * 9 + b) / 9 = a by omega, show (a * 9 + b) % 9 = b by omega]
theorem cntA_set {M : List Pr} {a b : Nat} (ha : a < 9) (hb : b < 9) : (cntA M).set (a * 9 + b) (.int .i64 (((M.count ((a : Int), (b : Int)) : Nat) : Int) + 1)) = cntA (M ++ [((a : Int), (b : Int))]) := by
  apply List.ext_getElem
  · simp [cntA]
  · intro t h1 h2
    have ht : t < 81 := by rw [cntA_len] at h2; exact h2
    rw [List.getElem_set]
    unfold cntA
    simp only [List.getElem_map, List.getElem_range, List.count_append]
    by_cases e : a * 9 + b = t
    · subst e
      rw [if_pos rfl, show (a * 9 + b) / 9 = a by omega, show (a * 9 + b) % 9 = b by omega]
      simp
    · rw [if_neg e]
      have : ¬ ((a : Int), (b : Int)) = (((t / 9 : Nat) : Int), ((t % 9 : Nat) : Int)) := fun c => by
        obtain ⟨c1, c2⟩ := Prod.mk.inj c
        omega
      rw [List.count_eq_zero.2 (show (((t / 9 : Nat) : Int), ((t % 9 : Nat) : Int)) ∉ [((a : Int), (b : Int))] from fun c => this (List.mem_singleton.1 c).symm)]
      simp
/-- one time more -/
theorem Ok.inc {Q : Bool → Hp → Prop} {H : Hp} {cb : Nat} {M : List Pr} (hm : H.get cb = some (.cells (cntA M) false)) (hM : M.length ≤ 100000) {x y : Int} (hp : 0 ≤ x ∧ x < 9 ∧ 0 ≤ y ∧ y < 9) {f : Hp → Option (Bool × Hp)}
    (k : ∀ H', H'.get cb = some (.cells (cntA (M ++ [(x, y)])) false) → H'.n = H.n → (∀ c, c ≠ cb → H'.get c = H.get c) → Ok (f H') Q) :
    Ok ((H.ldI .i64 cb ((0 + (x : Int).toNat * 9) + (y : Int).toNat * 1)).bind fun z => ck ((0 : Int) ≤ x ∧ x < ((9 : Nat) : Int)) (ck ((0 : Int) ≤ y ∧ y < ((9 : Nat) : Int)) ((H.st cb ((0 + (x : Int).toNat * 9) + (y : Int).toNat * 1) (.int .i64 (w64 (z + 1)))).bind fun H' => f H'))) Q := by
  obtain ⟨a, rfl⟩ : ∃ z : Nat, x = z := ⟨x.toNat, by omega⟩
  obtain ⟨b, rfl⟩ : ∃ z : Nat, y = z := ⟨y.toNat, by omega⟩
  rw [Int.toNat_natCast, Int.toNat_natCast, Nat.zero_add, Nat.mul_one]
  refine Ok.ld (ldI_get hm (cntA_get (by omega) (by omega))) (Ok.ck (by omega) (Ok.ck (by omega) ?_))
  have hc : M.count ((a : Int), (b : Int)) ≤ M.length := List.count_le_length
  rw [w64_id (by omega) (by omega)]
  refine Ok.st hm (by rw [cntA_len]; omega) fun H' e h => ?_
  rw [cntA_set (by omega) (by omega)] at h
  exact k H' h (by rw [e]; simp) fun c hc => by rw [e, Hp.get_set_other _ _ hc]
def valT (t : Tr) : Int := (t.1 * 9 + t.2.1) * 9 + t.2.2
theorem val_lt {v : Nat} (hv : v ≤ 9) {s t : Tr} (hs : inT v s) (ht : inT v t) (h : cmpT s t < 0) : valT s < valT t ∧ 0 ≤ valT s ∧ valT t < 729 := by
  have hc : cmpT s t = if s.1 < t.1 then -1 else if t.1 < s.1 then 1 else if s.2.1 < t.2.1 then -1 else if t.2.1 < s.2.1 then 1 else if s.2.2 < t.2.2 then -1 else if t.2.2 < s.2.2 then 1 else 0 := by
    simp [cmpT, list3, cmpL]
  unfold inT at hs ht
  unfold valT
  rw [hc] at h
  refine ⟨?_, by omega, by omega⟩
  by_cases a : s.1 < t.1
  · omega
  · rw [if_neg a] at h
    by_cases b : t.1 < s.1
    · rw [if_pos b] at h; omega
    · rw [if_neg b] at h
      by_cases c : s.2.1 < t.2.1
      · omega
      · rw [if_neg c] at h
        by_cases d : t.2.1 < s.2.1
        · rw [if_pos d] at h; omega
        · rw [if_neg d] at h
          by_cases e : s.2.2 < t.2.2
          · omega
          · rw [if_neg e] at h
            split at h <;> omega
end Go.Lt.P8
