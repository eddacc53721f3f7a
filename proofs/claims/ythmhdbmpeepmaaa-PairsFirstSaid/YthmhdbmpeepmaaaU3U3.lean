/- PLAIN LAWS OF WHAT IS COMPUTED, for the statement 'PairsFirst'. Nothing is asked of the input. -/
import Derived.Test.YthmhdbmpeepmaaaU3URef
set_option linter.unusedVariables false
namespace Go.Lt.P8
open Go Go.Lt Go.Proofs

theorem LL.ld {n0 : Nat} {H : Hp} {v : Sl} {sls : List Sl} {L : List (List Int)} (hc : Cs H 1 v (sls.map .sl)) (h : LL n0 H v sls L) {i : Nat} (hi : i < L.length) : ∃ x, H.ldSl v.b (v.o + i) = some x ∧ Ints H x L[i] ∧ x.nil = false := by
  have hi' : i < sls.length := by rw [h.1]; exact hi
  refine ⟨sls[i], ?_, (h.2 i hi' hi).1, (h.2 i hi' hi).2.2.2.2⟩
  have := hc.ld (i := i) (by simpa using hi')
  simp [Hp.ldSl, this, AV.asSl]
theorem LL.len {n0 : Nat} {H : Hp} {v : Sl} {sls : List Sl} {L : List (List Int)} (hc : Cs H 1 v (sls.map .sl)) (h : LL n0 H v sls L) : v.len = L.length := by
  have := hc.1; have := h.1; simp at *; omega

theorem reffirst_spec {n : Nat} {s : Int} (hn1 : 1 ≤ n) (hn : n ≤ 8) (hs : s = 1 ∨ s = 2) (c : Nat) (H : Hp) :
    ∃ v e H', r24 (app (c + 8)) n s H = some ((v, e), H') ∧ Gr H H' ∧ match gen n s 9 (zeros n) 0 with
      | [] => v = ⟨true, 0, 0, 0, 0, 0⟩ ∧ e = 4
      | row :: _ => e = 0 ∧ Ints H' v row := by
  unfold r24
  have ew : w64 (2 * (n : Int)) = ((2 * n : Nat) : Int) := by rw [w64_id (by omega) (by omega)]; push_cast; rfl
  simp only [ew, ck]
  rw [if_pos (by omega)]
  simp only [Int.toNat_natCast, Nat.mul_one, zerosA_ints]
  obtain ⟨out, sls, H', h1, h2, h3, h4⟩ := r76_zero (n := n) (s := s) hn1 hn (by omega) (by omega) c H
  unfold zeros at h1
  rw [h1]
  simp only [Option.bind_some]
  have hlen := h4.len h3
  generalize hg : gen n s 9 (zeros n) 0 = g at h4 hlen
  cases g with
  | nil =>
    rw [if_pos (by simp at hlen; omega)]
    exact ⟨_, _, _, rfl, h2, rfl, rfl⟩
  | cons row rest =>
    simp only [List.length_cons] at hlen
    rw [if_neg (by omega), if_pos (by omega)]
    obtain ⟨x, hx, hi, _⟩ := h4.ld h3 (i := 0) (by simp)
    rw [show (0 : Int).toNat = 0 from rfl, hx]
    exact ⟨_, _, _, rfl, h2, rfl, hi⟩
theorem refcount_spec {n : Nat} {s : Int} (hn1 : 1 ≤ n) (hn : n ≤ 8) (hs : s = 1 ∨ s = 2) (c : Nat) (H : Hp) :
    ∃ H', r26 (app (c + 8)) n s H = some (((gen n s 9 (zeros n) 0).length : Int), H') ∧ Gr H H' := by
  unfold r26
  have ew : w64 (2 * (n : Int)) = ((2 * n : Nat) : Int) := by rw [w64_id (by omega) (by omega)]; push_cast; rfl
  simp only [ew, ck]
  rw [if_pos (by omega)]
  simp only [Int.toNat_natCast, Nat.mul_one, zerosA_ints]
  obtain ⟨out, sls, H', h1, h2, h3, h4⟩ := r76_zero (n := n) (s := s) hn1 hn (by omega) (by omega) c H
  unfold zeros at h1
  rw [h1]
  have hlen := h4.len h3
  exact ⟨H', by rw [← hlen]; rfl, h2⟩
theorem gen_mem (n : Nat) (s : Int) : ∀ (f : Nat) (row : List Int) (u : Int), ∀ r ∈ gen n s f row u, r.length = row.length := by
  intro f
  induction f with
  | zero => intro row u r h; simp [gen] at h
  | succ f ih =>
    intro row u r h
    rw [gen] at h
    split at h
    · simp at h; rw [h]
    · simp only [List.mem_flatMap] at h
      obtain ⟨k, _, h⟩ := h
      unfold genK at h
      split at h
      · simp at h
      · have := ih _ _ r h
        simpa using this
theorem gen11 : gen 1 1 9 (zeros 1) 0 = [[1, 1]] := by decide +kernel

theorem first (a0 a1 : Int) (H : Hp) : ∃ H1, r3 (app 10) a0 a1 H = some (true, H1) := by
  unfold r3
  by_cases hc : 1 ≤ a0 ∧ a0 ≤ 8 ∧ (a1 = 1 ∨ a1 = 2)
  · obtain ⟨n, rfl⟩ : ∃ n : Nat, a0 = n := ⟨a0.toNat, by omega⟩
    have hn1 : 1 ≤ n := by omega
    have hn8 : n ≤ 8 := by omega
    obtain ⟨v, e, H1, h1, g1, k1⟩ := first_spec hn1 hn8 hc.2.2 (f := 9) (by omega) H
    obtain ⟨H2, h2, g2⟩ := count_spec (a := 0) hn1 hn8 hc.2.2 (f := 9) (by omega) (by have := gen_len n hn8 a1 9 (zeros n) 0; omega) H1
    obtain ⟨w, e', H4, h4, g4, k4⟩ := reffirst_spec hn1 hn8 hc.2.2 2 H2
    rw [show 1 + 9 = 10 from rfl] at h1 h2
    rw [show 2 + 8 = 10 from rfl] at h4
    rw [h1]
    simp only [Option.bind_some, h2]
    have h3 : r22 (n : Int) a1 H2 = some (true, H2) := by
      unfold r22 r33
      rw [if_pos hc.1, if_pos hc.2.1]
      rcases hc.2.2 with rfl | rfl <;> rfl
    rw [h3]
    simp only [Option.bind_some, if_true, h4]
    have key : ∃ l, Ints H4 v l ∧ Ints H4 w l ∧ e = e' ∧ l.length ≤ 16 := by
      cases hg : gen n a1 9 (zeros n) 0 with
      | nil =>
        rw [hg] at k1 k4
        obtain ⟨rfl, rfl⟩ := k1
        obtain ⟨rfl, rfl⟩ := k4
        exact ⟨[], .nil rfl, .nil rfl, rfl, by simp⟩
      | cons row rest =>
        have hm := gen_mem n a1 9 (zeros n) 0 row (by rw [hg]; simp)
        rw [hg] at k1 k4
        exact ⟨row, (k1.2.2.gr g2).gr g4, k4.2, by rw [k1.2.1, k4.1], by rw [hm]; simp [zeros]; omega⟩
    obtain ⟨l, hv, hw, rfl, hlen⟩ := key
    rw [r25_spec hv hw (by omega)]
    simp only [Option.bind_some, decide_true, if_true]
    obtain ⟨H9, h9, g9⟩ := refcount_spec hn1 hn8 hc.2.2 2 H4
    rw [show 2 + 8 = 10 from rfl] at h9
    rw [h9]
    simp only [Option.bind_some, if_true]
    obtain ⟨H5, h5⟩ := awake_spec H9 (f := 9) (by omega) gen11
    rw [show 1 + 9 = 10 from rfl] at h5
    rw [h5]
    exact ⟨_, rfl⟩
  · have h1 : r20 (app 10) a0 a1 H = some ((⟨true, 0, 0, 0, 0, 0⟩, 2), H) := by
      unfold r20
      rw [r72_spec, decide_eq_false hc]
      rfl
    have h2 : r21 (app 10) a0 a1 H = some ((0, 2), H) := by
      unfold r21
      rw [r72_spec, decide_eq_false hc]
      rfl
    have h3 : r22 a0 a1 H = some (false, H) := by
      unfold r22 r33
      by_cases c1 : 1 ≤ a0 <;> by_cases c2 : a0 ≤ 8 <;> by_cases c3 : a1 = 1 <;> by_cases c4 : a1 = 2 <;> simp_all
    rw [h1]
    simp only [Option.bind_some, h2, h3]
    obtain ⟨H5, h5⟩ := awake_spec H (f := 9) (by omega) gen11
    rw [show 1 + 9 = 10 from rfl] at h5
    simp [h5]
theorem lawCall3 (H : Hp) (xs : List AV) (_ : NoOwn H) (h : RdAs H [.int .i64, .int .i64] xs) : ∃ H1, CallSim Try.prog 3 xs H (.bool true) H1 := by
  obtain ⟨x, _, rfl, hx, y, _, rfl, hy, rfl⟩ := h
  obtain ⟨a0, e0, _⟩ : Rd H (.int .i64) [x] := hx
  obtain ⟨a1, e1, _⟩ : Rd H (.int .i64) [y] := hy
  injection e0 with e0
  injection e1 with e1
  subst e0; subst e1
  obtain ⟨H1, h1⟩ := first a0 a1 H
  exact ⟨H1, sim3 (happ := appSim 10) h1⟩
end Go.Lt.P8
