/- PLAIN LAWS OF WHAT IS COMPUTED, for the statement 'PairsWhen'. Nothing is asked of the input. -/
import Derived.Test.YthmhdbmpeepmaaaU6URows2
import Derived.Test.YthmhdbmpeepmaaaLCnt
set_option linter.unusedVariables false
namespace Go.Lt.P8
open Go Go.Lt Go.Proofs

theorem tb_eq (a i : Nat) : tb a i = a.testBit i := by
  unfold tb
  rw [Nat.testBit_eq_decide_div_mod_eq]
  have : Nat.land (Nat.shiftRight a i) 1 = a / 2 ^ i % 2 := by
    show (a >>> i) &&& 1 = _
    rw [Nat.and_one_is_mod, Nat.shiftRight_eq_div_pow]
  rw [this, Bool.eq_iff_iff, Nat.beq_eq, decide_eq_true_eq]
theorem cntK_flat {α : Type} (h : Nat → List α) : ∀ n, ((List.range' 1 n).flatMap h).length = cntK n fun k => (h k).length := by
  intro n
  induction n with
  | zero => rfl
  | succ n ih =>
    rw [List.range'_concat, List.flatMap_append, List.length_append, ih]
    simp only [List.flatMap_cons, List.flatMap_nil, List.append_nil, Nat.one_mul]
    rw [Nat.add_comm 1 n]
    rfl
theorem cntK_congr : ∀ (n : Nat) (g h : Nat → Nat), (∀ k, 1 ≤ k → k ≤ n → g k = h k) → cntK n g = cntK n h := by
  intro n
  induction n with
  | zero => intro g h _; rfl
  | succ n ih =>
    intro g h hk
    show cntK n g + g (n + 1) = cntK n h + h (n + 1)
    rw [ih g h (fun k a b => hk k a (by omega)), hk (n + 1) (by omega) (by omega)]

theorem gen_cnt {n s : Nat} (hn : n ≤ 8) (hs1 : 1 ≤ s) (hs2 : s ≤ 2) : ∀ (F i o u f : Nat) (row : List Int), row.length = 2 * n → i ≤ 2 * n → 2 * n - i < F → row.count 0 < 2 * f → u < 512 →
    (∀ j (h : j < row.length), j < i → row[j] ≠ 0) → (∀ j (h : j < row.length), o.testBit j = decide (row[j] ≠ 0)) → (gen n s f row (u : Int)).length = cnt n s F i o u := by
  intro F
  induction F with
  | zero => intro i o u f row _ _ h; omega
  | succ F ih =>
    intro i o u f row hl hi hF hz hu hb ho
    obtain ⟨f, rfl⟩ : ∃ j, f = j + 1 := ⟨f - 1, by omega⟩
    rw [cnt]
    by_cases h1 : 2 * n ≤ i
    · rw [Nat.ble_eq_true_of_le h1, cond_true, gen, idx_none (fun j hj => hb j hj (by omega)), if_pos (by decide)]
      rfl
    · have e1 : Nat.ble (2 * n) i = false := by rw [← Bool.not_eq_true, Nat.ble_eq]; exact h1
      have hil : i < row.length := by omega
      rw [e1, cond_false, tb_eq, ho i hil]
      by_cases h0 : row[i] = 0
      · rw [decide_eq_false (by simpa using h0), cond_false, gen, idx_at hil h0 (fun j hj => hb j (by omega) hj), if_neg (by omega), cntK_flat]
        refine cntK_congr _ _ _ fun k hk1 hk2 => ?_
        unfold genK
        have hbit := bit_nat (a := u) (k := k) (by omega) (by omega)
        rw [tb_eq]
        by_cases hu1 : u.testBit k = true
        · rw [hu1, cond_true, if_pos (.inl (hbit.2 hu1))]; rfl
        have hu1' : u.testBit k = false := by simpa using hu1
        rw [hu1', cond_false]
        by_cases hj : 2 * n ≤ i + k + s - 1
        · rw [Nat.ble_eq_true_of_le hj, cond_true, if_pos (.inr (.inl (by omega)))]; rfl
        have e2 : Nat.ble (2 * n) (i + k + s - 1) = false := by rw [← Bool.not_eq_true, Nat.ble_eq]; exact hj
        have ej : ((i : Int) + k + s - 1).toNat = i + k + s - 1 := by omega
        generalize hjd : i + k + s - 1 = j at *
        have hjl : j < row.length := by omega
        rw [e2, cond_false, tb_eq, ho j hjl, ej]
        have hgd : row.getD j 0 = row[j] := by rw [List.getD_eq_getElem?_getD, List.getElem?_eq_getElem hjl]; rfl
        by_cases hrow : row[j] = 0
        · rw [decide_eq_false (by simpa using hrow), cond_false, if_neg (by
            rintro (h | h | h)
            · exact hu1 (hbit.1 h)
            · omega
            · exact h (by rw [hgd, hrow]))]
          have hpk : 2 ^ k < 2 ^ 9 := Nat.pow_lt_pow_right (by omega) (by omega)
          have eo : orb (u : Int) k = ((u ||| 2 ^ k : Nat) : Int) := by
            unfold orb
            rw [shl_one (by omega), bits_or_nat (by omega) (by omega)]
          have eu : Nat.lor u (Nat.shiftLeft 1 k) = u ||| 2 ^ k := by
            show u ||| (1 <<< k) = _
            rw [Nat.one_shiftLeft]
          have e3 : Nat.lor (Nat.lor o (Nat.shiftLeft 1 i)) (Nat.shiftLeft 1 j) = o ||| 2 ^ i ||| 2 ^ j := by
            show o ||| (1 <<< i) ||| (1 <<< j) = _
            rw [Nat.one_shiftLeft, Nat.one_shiftLeft]
          rw [eo, eu, e3, Int.toNat_natCast]
          have hij : i < j := by omega
          refine ih (i + 1) _ _ f _ (by simp [hl]) (by omega) (by omega) ?_ ?_ ?_ ?_
          · have c1 := count_set0 row i k hil h0 (by omega)
            have c2 := count_set0 (row.set i k) j k (by simpa using hjl) (by rw [List.getElem_set_ne (by omega)]; exact hrow) (by omega)
            omega
          · exact Nat.or_lt_two_pow (n := 9) (by omega) hpk
          · intro t ht hti
            simp only [List.getElem_set]
            by_cases e : j = t
            · omega
            · rw [if_neg e]
              by_cases e2 : i = t
              · rw [if_pos e2]; omega
              · rw [if_neg e2]; exact hb t (by simpa using ht) (by omega)
          · intro t ht
            rw [Nat.testBit_or, Nat.testBit_or, Nat.testBit_two_pow, Nat.testBit_two_pow, ho t (by simpa using ht)]
            simp only [List.getElem_set]
            by_cases e : j = t
            · simp [e]; omega
            · by_cases e2 : i = t
              · simp [e, e2]; omega
              · simp [e, e2]
        · rw [decide_eq_true (by simpa using hrow), cond_true, if_pos (.inr (.inr (by rw [hgd]; exact hrow)))]; rfl
      · rw [decide_eq_true (by simpa using h0), cond_true]
        refine ih (i + 1) o u (f + 1) row hl (by omega) (by omega) hz hu (fun j hj hji => ?_) ho
        by_cases e : j = i
        · subst e; exact h0
        · exact hb j hj (by omega)
theorem gen_cnt0 {n s : Nat} (hn : n ≤ 8) (hs1 : 1 ≤ s) (hs2 : s ≤ 2) : (gen n s 9 (zeros n) 0).length = cnt n s 17 0 0 0 := by
  have := gen_cnt hn hs1 hs2 17 0 0 0 9 (zeros n) (by simp [zeros]) (by omega) (by omega) (by simp [zeros]; omega) (by omega) (fun j h hj => by omega) (fun j h => by simp [zeros])
  exact this
end Go.Lt.P8
