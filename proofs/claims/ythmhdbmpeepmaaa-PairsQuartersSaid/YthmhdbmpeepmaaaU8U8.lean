/- PLAIN LAWS OF WHAT IS COMPUTED, for the statement 'PairsQuarters'. Nothing is asked of the input. -/
import Derived.Test.YthmhdbmpeepmaaaU8UQ2
import Derived.Test.YthmhdbmpeepmaaaU8UFirst
import Derived.Test.YthmhdbmpeepmaaaU8URd
set_option linter.unusedVariables false
namespace Go.Lt.P8
open Go Go.Lt Go.Proofs
theorem quarters3 {l : List Int} {v1 v2 v3 w : Sl} {Hb H : Hp} (hl : IS Hb v1 l) (h2 : IS Hb v2 (quarter l)) (h3 : IS Hb v3 l.reverse) (g : Gr Hb H) (hw : IS H w (quarter l)) (hp : Pins l) (hn : 1 ≤ l.length ∧ l.length ≤ 6) :
    ∃ H', r8_l2 (app 10) FUEL v1 v2 v3 w 0 H = some (true, H') := by
  have step : ∀ (K i : Nat) (p : List Int) (w : Sl) (H : Hp), i < 3 → Pins p → p.length = l.length → IS H w p → ∃ w' H', Gr H H' ∧ IS H' w' (quarter p) ∧ r8_l2 (app 10) (K + 1) v1 v2 v3 w (i : Int) H = r8_l2 (app 10) K v1 v2 v3 w' ((i + 1 : Nat) : Int) H' := by
    intro K i p w H hi hp hpl hw
    obtain ⟨w', e, H', h1, g1, h2⟩ := r39_spec hw (by omega)
    rw [if_pos ⟨by omega, (pinsF_iff p).2 hp⟩] at h2
    obtain ⟨rfl, h2, _⟩ := h2
    refine ⟨w', H', g1, h2, ?_⟩
    rw [r8_l2, if_pos (by omega), h1]
    simp only [Option.bind_some]
    rw [if_neg (by simp), w64_id (by omega) (by omega)]
    rfl
  have q1 := hp.quarter
  have q2 := q1.quarter
  have q3 := q2.quarter
  have l1 := (quarter_get hp).1
  have l2 := (quarter_get q1).1
  have l3 := (quarter_get q2).1
  obtain ⟨w1, H1, g1, i1, e1⟩ := step 4611686018427387903 0 _ w H (by omega) q1 l1 hw
  obtain ⟨w2, H2, g2, i2, e2⟩ := step 4611686018427387902 1 _ w1 H1 (by omega) q2 (by omega) i1
  obtain ⟨w3, H3, g3, i3, e3⟩ := step 4611686018427387901 2 _ w2 H2 (by omega) q3 (by omega) i2
  rw [quarter4 hp] at i3
  rw [show ((0 : Nat) : Int) = 0 from rfl] at e1
  rw [show FUEL = 4611686018427387903 + 1 from rfl, e1]
  rw [show (4611686018427387903 : Nat) = 4611686018427387902 + 1 from rfl, e2]
  rw [show (4611686018427387902 : Nat) = 4611686018427387901 + 1 from rfl, e3]
  rw [show (4611686018427387901 : Nat) = 4611686018427387900 + 1 from rfl, r8_l2, if_neg (by omega)]
  have gg := g.trans (g1.trans (g2.trans g3))
  obtain ⟨H4, e4, g4⟩ := r38_spec (h2.gr gg) (by omega)
  rw [if_pos (by omega), (pinsF_iff _).2 q1] at e4
  rw [e4]
  simp only [Option.bind_some]
  obtain ⟨H5, e5, g5⟩ := r38_spec (h3.gr (gg.trans g4)) (by simp; omega)
  rw [if_pos (by simp; omega), (pinsF_iff _).2 hp.reverse] at e5
  rw [e5]
  simp only [Option.bind_some, if_true]
  rw [r25_spec (i3.gr (g4.trans g5)).ints (hl.gr (gg.trans (g4.trans g5))).ints (by omega)]
  simp only [Option.bind_some, decide_true, if_true]
  obtain ⟨H6, e6⟩ := awake10 H5
  rw [e6]
  exact ⟨_, rfl⟩
theorem quarterLaw {row : List Int} {H : Hp} {v : Sl} (hv : IS H v row) : ∃ H', r8 (app 10) v H = some (true, H') := by
  unfold r8
  obtain ⟨v1, H1, e1, g1, i1, _⟩ := r31_spec hv
  rw [e1]
  simp only [Option.bind_some]
  obtain ⟨H2, e2, g2⟩ := r38_spec i1 (by simp; omega)
  rw [e2]
  simp only [Option.bind_some]
  obtain ⟨v3, H3, e3, g3, i3, _⟩ := r31_spec (hv.gr (g1.trans g2))
  rw [e3]
  simp only [Option.bind_some]
  obtain ⟨w, e, H4, e4, g4, h4⟩ := r39_spec i3 (by simp; omega)
  rw [e4]
  simp only [Option.bind_some]
  have hlen := hv.ints.len
  have g14 := g1.trans (g2.trans (g3.trans g4))
  by_cases hc : (1 ≤ (row.take 20).length ∧ (row.take 20).length ≤ 6) ∧ pinsF (row.take 20) = true
  · rw [if_pos hc] at h4
    obtain ⟨rfl, iw, nw⟩ := h4
    have hrl : row.length ≤ 6 := by have := hc.1.2; simp at this; omega
    have ht : row.take 20 = row := List.take_of_length_le (by omega)
    rw [ht] at hc iw
    have hp := (pinsF_iff row).1 hc.2
    have h0 : row ≠ [] := fun e => by rw [e] at hc; simp at hc
    rw [ht, if_pos hc.1, hc.2, if_neg (by simp)]
    unfold r8_j0 r8_j1
    rw [if_neg (by simp), if_neg (by simp), decide_eq_false (by omega), if_neg (by simp)]
    obtain ⟨v5, H5, e5, g5, i5, n5, b5⟩ := r31_spec (hv.gr g14)
    rw [e5]
    simp only [Option.bind_some]
    rw [ht] at i5 b5
    have hvn : v.nil = false := by
      cases hn : v.nil with
      | false => rfl
      | true => exact absurd (hv.nil hn).2 h0
    obtain ⟨b1, b2, b3, b4⟩ := b5 hvn
    obtain ⟨H6, e6, g6, h6⟩ := r40_spec (Hb := H4) (v := v5) i5.ints.len b4 (by omega) h0 b1 g5 b3
    rw [e6]
    simp only [Option.bind_some]
    obtain ⟨w7, H7, e7, g7, i7, _⟩ := r36_is (iw.gr g6) (by rw [(quarter_get hp).1]; omega)
    rw [e7]
    simp only [Option.bind_some]
    have i5r : IS H6 v5 row.reverse := ⟨Cs.of_get h6 b4 (by simp [i5.ints.len]), i5.cap, i5.opn, fun hn => by rw [n5, hvn] at hn; cases hn⟩
    exact quarters3 (Hb := H6) (hv.gr (g14.trans g6)) (iw.gr g6) i5r g7 i7 hp hc.1
  · rw [if_neg hc] at h4
    obtain ⟨rfl, rfl⟩ := h4
    obtain ⟨H5, h5⟩ := awake10 H4
    by_cases h6 : 1 ≤ (row.take 20).length ∧ (row.take 20).length ≤ 6
    · rw [if_pos h6, if_neg (by simp)]
      have : pinsF (row.take 20) = false := by
        cases hp : pinsF (row.take 20) with
        | false => rfl
        | true => exact absurd ⟨h6, hp⟩ hc
      rw [this]
      unfold r8_j0
      simp [h5]
    · rw [if_neg h6, if_pos (by simp)]
      unfold r8_j0
      simp [h5]
theorem lawCall8 (H : Hp) (xs : List AV) (_ : NoOwn H) (h : RdAs H [.sl (.int .i64)] xs) : ∃ H1, CallSim Try.prog 8 xs H (.bool true) H1 := by
  obtain ⟨y, _, rfl, hy, rfl⟩ := h
  obtain ⟨v, row, rfl, hv, hb, _⟩ := rd_ints hy
  obtain ⟨H1, h1⟩ := quarterLaw hv
  exact ⟨H1, sim8 (happ := appSim 10) h1⟩
end Go.Lt.P8
