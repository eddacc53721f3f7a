/- PLAIN LAWS OF WHAT IS COMPUTED, for the statement 'PairsWelch'. Nothing is asked of the input. -/
import Derived.Test.YthmhdbmpeepmaaaLPure
import Derived.Test.YthmhdbmpeepmaaaG4A
set_option linter.unusedVariables false
namespace Go.Lt.P8
open Go Go.Lt Go.Proofs

def idxF : List Int → Int → Int → Int
  | [], _, _ => -1
  | y :: l, x, i => if x = y then i else idxF l x (i + 1)

theorem r108_loop {H : Hp} {v : Sl} {l : List Int} (h : Ints H v l) (hb : l.length < 4611686018427387904) (x : Int) : ∀ (suf : List Int) (i k : Nat), l.drop i = suf → i ≤ l.length → suf.length < k →
    r108_l0 k v x (v.len : Int) (i : Int) H = some (idxF suf x i, H) := by
  intro suf
  induction suf with
  | nil =>
    intro i k hd hi hk
    obtain ⟨k, rfl⟩ : ∃ j, k = j + 1 := ⟨k - 1, by omega⟩
    have hlen := h.len
    have : ¬ i < l.length := fun hlt => by rw [List.drop_eq_getElem_cons hlt] at hd; cases hd
    rw [r108_l0, if_neg (by omega)]
    rfl
  | cons y suf ih =>
    intro i k hd hi hk
    obtain ⟨k, rfl⟩ : ∃ j, k = j + 1 := ⟨k - 1, by omega⟩
    have hlen := h.len
    have hlt : i < l.length := by
      rcases Nat.lt_or_ge i l.length with hlt | hge
      · exact hlt
      · rw [List.drop_eq_nil_of_le hge] at hd; cases hd
    rw [List.drop_eq_getElem_cons hlt] at hd
    injection hd with hd1 hd2
    rw [r108_l0, if_pos (by omega)]
    simp only [ck, Int.toNat_natCast, Nat.mul_one]
    rw [if_pos (by omega), h.ldI hlt]
    simp only [Option.bind_some, hd1, idxF]
    split
    · rfl
    · rw [w64_id (by omega) (by omega)]
      exact ih (i + 1) k hd2 (by omega) (by simpa using hk)
theorem r108_spec {H : Hp} {v : Sl} {l : List Int} (h : Ints H v l) (hb : l.length < 4611686018427387904) (x : Int) : r108 v x H = some (idxF l x 0, H) :=
  r108_loop h hb x l 0 FUEL rfl (by omega) hb

def HW : Hp := H0.push (.cells [.int .i64 2, .int .i64 3, .int .i64 5, .int .i64 7] false)
theorem awakeW : ((r23 (app 9) HW).map (·.1)) = some true := by decide +kernel
theorem intsW : Ints HW ⟨false, H0.n, 0, 4, 4, 0⟩ [2, 3, 5, 7] := ⟨rfl, rfl⟩
theorem welchA (a0 a1 : Int) (hc : (a0 ≠ 2 ∧ a0 ≠ 3 ∧ a0 ≠ 5 ∧ a0 ≠ 7) ∨ a1 < 1 ∨ a0 ≤ a1) : ∃ H1, r4 (app 9) a0 a1 H0 = some (true, H1) := by
  have e27 : r27 a0 a1 H0 = some ((⟨true, 0, 0, 0, 0, 0⟩, 2), HW) := by
    unfold r27 r77
    have := r108_spec intsW (by simp) a0
    rw [show H0.push (.cells [.int .i64 2, .int .i64 3, .int .i64 5, .int .i64 7] false) = HW from rfl, this]
    simp only [Option.bind_some, idxF]
    unfold r27_j0
    repeat' split
    all_goals first | rfl | (simp_all; try omega)
  have e28 : r28 a0 a1 HW = some (false, HW) := by
    unfold r28 r28_j0
    repeat' split
    all_goals first | rfl | (simp_all; try omega)
  obtain ⟨p, hp, he⟩ := Option.map_eq_some_iff.1 awakeW
  refine ⟨p.2, ?_⟩
  unfold r4
  rw [e27]
  simp only [Option.bind_some]
  rw [e28]
  simp only [Option.bind_some]
  simp [hp, he]
theorem welchB : ∀ a0 ∈ ([2, 3, 5, 7] : List Int), ∀ a1 ∈ ([1, 2, 3, 4, 5, 6] : List Int), a1 < a0 → ((r4 (app 9) a0 a1 H0).map (·.1)) = some true := by decide +kernel
theorem welch (a0 a1 : Int) : ∃ H1, r4 (app 9) a0 a1 H0 = some (true, H1) := by
  by_cases hc : (a0 ≠ 2 ∧ a0 ≠ 3 ∧ a0 ≠ 5 ∧ a0 ≠ 7) ∨ a1 < 1 ∨ a0 ≤ a1
  · exact welchA a0 a1 hc
  · have h0 : a0 ∈ ([2, 3, 5, 7] : List Int) := by simp; omega
    have h1 : a1 ∈ ([1, 2, 3, 4, 5, 6] : List Int) := by simp; omega
    have := welchB a0 h0 a1 h1 (by omega)
    obtain ⟨p, hp, he⟩ := Option.map_eq_some_iff.1 this
    exact ⟨p.2, by rw [hp, ← he]⟩
theorem lawCall4 (H : Hp) (xs : List AV) (_ : NoOwn H) (h : RdAs H [.int .i64, .int .i64] xs) : ∃ H1, CallSim Try.prog 4 xs H (.bool true) H1 := by
  obtain ⟨x, _, rfl, hx, y, _, rfl, hy, rfl⟩ := h
  obtain ⟨a0, e0, _⟩ : Rd H (.int .i64) [x] := hx
  obtain ⟨a1, e1, _⟩ : Rd H (.int .i64) [y] := hy
  injection e0 with e0
  injection e1 with e1
  subst e0; subst e1
  obtain ⟨H1, h1⟩ := welch a0 a1
  exact ⟨H, (sim4 (happ := appSim 9) h1).own rfl rfl H⟩
end Go.Lt.P8
