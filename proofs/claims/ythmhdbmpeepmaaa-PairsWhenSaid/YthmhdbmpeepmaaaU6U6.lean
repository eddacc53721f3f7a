/- PLAIN LAWS OF WHAT IS COMPUTED, for the statement 'PairsWhen'. Nothing is asked of the input. -/
import Derived.Test.YthmhdbmpeepmaaaU6UWhen
import Derived.Test.YthmhdbmpeepmaaaU6UArg
set_option linter.unusedVariables false
namespace Go.Lt.P8
open Go Go.Lt Go.Proofs

theorem whenLaw (a0 a1 : Int) (H : Hp) : ∃ H', r6 (app 10) a0 a1 H = some (true, H') := by
  unfold r6
  obtain ⟨t, ht, et⟩ := res a0 8 (by omega) (by omega)
  obtain ⟨t', ht', et'⟩ := res a1 2 (by omega) (by omega)
  rw [show ((8 : Nat) : Int) = 8 from rfl] at et
  rw [show ((2 : Nat) : Int) = 2 from rfl] at et'
  have en : w64 (1 + (t : Int)) = ((t + 1 : Nat) : Int) := by rw [w64_id (by omega) (by omega)]; push_cast; omega
  have es : w64 (1 + (t' : Int)) = ((t' + 1 : Nat) : Int) := by rw [w64_id (by omega) (by omega)]; push_cast; omega
  rw [et, et', en, es]
  generalize hn : t + 1 = n
  generalize hs : t' + 1 = s
  have hn1 : 1 ≤ n := by omega
  have hn8 : n ≤ 8 := by omega
  have hs1 : 1 ≤ s := by omega
  have hs2 : s ≤ 2 := by omega
  clear et et' en es hn hs
  have hsI : (s : Int) = 1 ∨ (s : Int) = 2 := by omega
  obtain ⟨v, e, H1, h1, g1, k1⟩ := first_spec hn1 hn8 hsI (f := 9) (by omega) H
  obtain ⟨H2, h2, g2⟩ := count_spec (a := 0) hn1 hn8 hsI (f := 9) (by omega) (by have := gen_len n hn8 s 9 (zeros n) 0; omega) H1
  rw [show 1 + 9 = 10 from rfl] at h1 h2
  rw [h1]
  simp only [Option.bind_some, h2]
  have hok := when_all hn1 hn8 hs1 hs2
  have hc := gen_cnt0 hn8 hs1 hs2
  unfold whenOk at hok
  rw [← hc] at hok
  simp only [Bool.and_eq_true, beq_iff_eq, Bool.not_eq_true', Bool.and_eq_false_iff] at hok
  obtain ⟨⟨hth, hev⟩, hhd⟩ := hok
  have e4 : Int.tmod ((n : Nat) : Int) 4 = ((n % 4 : Nat) : Int) := (Int.ofNat_tmod n 4).symm
  rw [e4]
  have hj : ∀ b, b = there n s → ∃ H', r6_j1 (app 10) n s v e ((gen n s 9 (zeros n) 0).length : Int) 0 b H2 = some (true, H') := by
    rintro b rfl
    unfold r6_j1
    have h0 : decide ((0 : Int) < ((gen n s 9 (zeros n) 0).length : Int)) = there n s := by
      rw [← hth]
      congr 1
      simp
    rw [if_neg (by simp), if_pos (by rw [h0]; simp)]
    have hj0 : ∃ H', r6_j0 (app 10) n s v e (there n s) false H2 = some (true, H') := by
      unfold r6_j0
      rw [if_neg (by simp)]
      cases hg : gen n s 9 (zeros n) 0 with
      | nil =>
        rw [hg] at k1 hth
        obtain ⟨rfl, rfl⟩ := k1
        rw [← hth]
        obtain ⟨H8, h8⟩ := awake10 H2
        simp [h8]
      | cons row rest =>
        have hm := gen_mem n s 9 (zeros n) 0 row (by rw [hg]; simp)
        have hrl : row.length = 2 * n := by rw [hm]; simp [zeros]
        rw [hg] at k1 hth
        unfold headOk at hhd
        rw [hg] at hhd
        obtain ⟨hnil, rfl, hi⟩ := k1
        rw [← hth]
        simp only [List.length_cons, Nat.zero_lt_succ, decide_true, if_true]
        have his : IS H2 v row := hi.gr g2
        obtain ⟨v', H3, h3, g3, i3, _⟩ := r36_is his (by omega)
        rw [h3]
        simp only [Option.bind_some]
        obtain ⟨H4, h4, g4⟩ := r30_spec (s := s) i3 (by omega)
        simp only at hhd
        rw [if_pos ⟨hsI, by omega⟩, hhd] at h4
        rw [h4]
        have hlen := his.ints.len
        simp only [Option.bind_some]
        have ew : w64 (2 * (n : Int)) = ((2 * n : Nat) : Int) := by rw [w64_id (by omega) (by omega)]; push_cast; rfl
        obtain ⟨H8, h8⟩ := awake10 H4
        simp [h8, ew, hlen, hrl]
    have e2 : Int.tmod ((gen n s 9 (zeros n) 0).length : Int) 2 = (((gen n s 9 (zeros n) 0).length % 2 : Nat) : Int) := (Int.ofNat_tmod _ 2).symm
    rw [e2]
    by_cases c1 : (s : Int) = 1
    · rw [if_pos c1]
      by_cases c2 : 1 < (n : Int)
      · rw [if_pos c2, decide_eq_false]
        · exact hj0
        · intro h
          rcases hev with (hev | hev) | hev
          · simp at hev; omega
          · simp at hev; omega
          · simp at hev; omega
      · rw [if_neg c2]; exact hj0
    · rw [if_neg c1]; exact hj0
  have hn4 : n % 4 < 4 := Nat.mod_lt _ (by omega)
  split
  · rename_i h; exact hj true (by unfold there; simp; omega)
  · rename_i h
    split
    · rename_i h'
      split
      · rename_i h''; exact hj true (by unfold there; simp; omega)
      · rename_i h''
        split
        · omega
        · exact hj false (by unfold there; simp; omega)
    · rename_i h'
      split
      · rename_i h''; exact hj _ (by unfold there; rw [Bool.eq_iff_iff]; simp; omega)
      · rename_i h''; exact hj false (by unfold there; simp; omega)
theorem lawCall6 (H : Hp) (xs : List AV) (_ : NoOwn H) (h : RdAs H [.int .i64, .int .i64] xs) : ∃ H1, CallSim Try.prog 6 xs H (.bool true) H1 := by
  obtain ⟨x, _, rfl, hx, y, _, rfl, hy, rfl⟩ := h
  obtain ⟨a0, e0, _⟩ : Rd H (.int .i64) [x] := hx
  obtain ⟨a1, e1, _⟩ : Rd H (.int .i64) [y] := hy
  injection e0 with e0
  injection e1 with e1
  subst e0; subst e1
  obtain ⟨H1, h1⟩ := whenLaw a0 a1 H
  exact ⟨H1, sim6 (happ := appSim 10) h1⟩
end Go.Lt.P8
