/- PLAIN LAWS OF WHAT IS COMPUTED, for the statement 'PairsSpread'. Nothing is asked of the input. -/
import Derived.Test.YthmhdbmpeepmaaaU12UList
import Derived.Test.YthmhdbmpeepmaaaLB
set_option linter.unusedVariables false
set_option linter.unusedSimpArgs false
namespace Go.Lt.P8
open Go Go.Lt Go.Proofs
theorem encs_ints (l : List Int) : encs l = l.map (.int .i64) := by
  induction l with
  | nil => rfl
  | cons x l ih => rw [encs_cons, ih]; rfl
theorem IS.sl {H : Hp} {v : Sl} {l : List Int} (h : IS H v l) : SL H v l := ⟨by rw [encs_ints]; exact h.ints, h.cap, h.opn, h.nil⟩
theorem _root_.Go.Lt.SL.is {H : Hp} {v : Sl} {l : List Int} (h : SL H v l) : IS H v l := ⟨by have := h.cs; rw [encs_ints] at this; exact this, h.cap, h.opn, h.nil⟩
end Go.Lt.P8
