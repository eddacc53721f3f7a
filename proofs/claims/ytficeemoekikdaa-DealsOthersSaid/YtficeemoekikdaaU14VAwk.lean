/- PLAIN LAWS OF WHAT IS COMPUTED, for the statement 'DealsOthers'. Nothing is asked of the input. -/
import Derived.Test.YtficeemoekikdaaG14A
set_option linter.unusedVariables false
set_option linter.unusedSimpArgs false
namespace Go.Lt.P5
open Go Go.Lt Go.Proofs
theorem awakeH0 : ((r19 (app 20) H0).map (·.1)) = some true := by decide +kernel
/-- awake is known -/
noncomputable def appA (k : Nat) : App := ⟨fun f xs H => match f, xs with
  | 19, [] => some (.bool true, H)
  | f, xs => app k f xs H, (app k).yld⟩
theorem appASim (k : Nat) : AppSim Try.prog (appA k) := by
  refine ⟨fun f xs H v H1 h => ?_, (appSim k).2⟩
  unfold appA at h
  simp only at h
  split at h
  · injection h with h
    injection h with h1 h2
    subst h1; subst h2
    obtain ⟨p, hp, he⟩ := Option.map_eq_some_iff.1 awakeH0
    have := sim19 (happ := appSim 20) hp
    rw [he] at this
    exact ⟨ok19, this.own rfl rfl H⟩
  · exact (appSim k).1 _ _ _ _ _ h
end Go.Lt.P5
