/- PLAIN LAWS OF WHAT IS COMPUTED, for the statement 'PairsMeet'. Nothing is asked of the input. -/
import Derived.Test.YthmhdbmpeepmaaaU18URrT2
import Derived.Test.YthmhdbmpeepmaaaU18URrT3a
import Derived.Test.YthmhdbmpeepmaaaU18URrT3b
import Derived.Test.YthmhdbmpeepmaaaU18URrT3c
set_option linter.unusedVariables false
set_option linter.unusedSimpArgs false
namespace Go.Lt.P8
open Go Go.Lt Go.Proofs
theorem meet_all {k x y : Nat} (hk : k < 4) (hx : x < 2 * k + 1) (hy : y < 2 * k + 1) : meetB k x y = true := by
  have : k = 0 ∨ k = 1 ∨ k = 2 ∨ k = 3 := by omega
  rcases this with rfl | rfl | rfl | rfl
  · exact meet0 x (by simp; omega) y (by simp; omega)
  · exact meet1 x (by simp; omega) y (by simp; omega)
  · exact meet2 x (by simp; omega) y (by simp; omega)
  · have : (x = 0 ∨ x = 1) ∨ (x = 2 ∨ x = 3) ∨ (x = 4 ∨ x = 5 ∨ x = 6) := by omega
    rcases this with h | h | h
    · exact meet3a x (by simp; omega) y (by simp; omega)
    · exact meet3b x (by simp; omega) y (by simp; omega)
    · exact meet3c x (by simp; omega) y (by simp; omega)
theorem meetLaw (n a b : Int) : ∃ H1, r18 (app 10) n a b H0 = some (true, H1) := by
  obtain ⟨k, h1, h2⟩ := u64_mod n (m := 4) (by omega)
  obtain ⟨x, h3, h4⟩ := u64_mod a (m := 2 * k + 1) (by omega)
  obtain ⟨y, h5, h6⟩ := u64_mod b (m := 2 * k + 1) (by omega)
  rw [meet_same h2 h1 h3 h5 h4 h6]
  have := meet_all h2 h4 h6
  unfold meetB at this
  rw [beq_iff_eq] at this
  obtain ⟨p, hp, he⟩ := Option.map_eq_some_iff.1 this
  exact ⟨p.2, by rw [hp, ← he]⟩
theorem lawCall18 (H : Hp) (xs : List AV) (_ : NoOwn H) (h : RdAs H [.int .i64, .int .i64, .int .i64] xs) : ∃ H1, CallSim Try.prog 18 xs H (.bool true) H1 := by
  obtain ⟨x, _, rfl, hx, y, _, rfl, hy, z, _, rfl, hz, rfl⟩ := h
  obtain ⟨a0, e0, _⟩ : Rd H (.int .i64) [x] := hx
  obtain ⟨a1, e1, _⟩ : Rd H (.int .i64) [y] := hy
  obtain ⟨a2, e2, _⟩ : Rd H (.int .i64) [z] := hz
  injection e0 with e0
  injection e1 with e1
  injection e2 with e2
  subst e0; subst e1; subst e2
  obtain ⟨H1, h1⟩ := meetLaw a0 a1 a2
  exact ⟨H, (sim18 (happ := appSim 10) h1).own rfl rfl H⟩
end Go.Lt.P8
