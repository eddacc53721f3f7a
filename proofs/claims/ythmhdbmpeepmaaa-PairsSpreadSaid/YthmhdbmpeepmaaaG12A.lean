/- PRINTED BY A PROGRAM OF OURS: what each function that 'PairsSpread' reaches computes on the abstract heap, and that the translated code does just that. Nothing is asked of the input. -/
import Derived.Test.YthmhdbmpeepmaaaG12P4
set_option linter.unusedVariables false
set_option linter.unusedSimpArgs false
set_option maxRecDepth 100000
set_option maxHeartbeats 4000000
namespace Go.Lt.P8
open Go Go.Lt Go.Proofs
noncomputable def disp (app : App) (f : FuncId) (xs : List AV) (H : Hp) : Option (AV × Hp) :=
  match f, xs with
  | 74, [.sl a0, .ptr c0 0] => (r74 a0 c0 H).map fun p => (.bool p.1, p.2)
  | 90, [.int .i64 a0, .int .i64 a1, .sl a2, .ptr c0 0, .ptr c1 0, .ptr c2 0, .ptr c3 0] => (r90 app a0 a1 a2 c0 c1 c2 c3 H).map fun p => (.tup [], p.2)
  | 107, [.int .i64 a0, .ptr c0 0, .ptr c1 0, .ptr c2 0, .ptr c3 0, .ptr c4 0] => (r107 app a0 c0 c1 c2 c3 c4 H).map fun p => (.bool p.1, p.2)
  | 112, [.agg [.int .i64 a0_0, .int .i64 a0_1], .ptr c0 0] => (r112 a0_0 a0_1 c0 H).map fun p => (.bool p.1, p.2)
  | _, _ => none
noncomputable def app : Nat → App
  | 0 => fun _ _ _ => none
  | k + 1 => disp (app k)
theorem dispSim {app : App} (happ : AppSim Try.prog app) : AppSim Try.prog (disp app) := by
  intro f xs H v H1 h
  unfold disp at h
  split at h
  · obtain ⟨p, hp, e⟩ := Option.map_eq_some_iff.1 h
    injection e with e1 e2
    subst e1; subst e2
    exact ⟨ok74, sim74 hp⟩
  · obtain ⟨p, hp, e⟩ := Option.map_eq_some_iff.1 h
    injection e with e1 e2
    subst e1; subst e2
    exact ⟨ok90, sim90 happ hp⟩
  · obtain ⟨p, hp, e⟩ := Option.map_eq_some_iff.1 h
    injection e with e1 e2
    subst e1; subst e2
    exact ⟨ok107, sim107 happ hp⟩
  · obtain ⟨p, hp, e⟩ := Option.map_eq_some_iff.1 h
    injection e with e1 e2
    subst e1; subst e2
    exact ⟨ok112, sim112 hp⟩
  · cases h
theorem appSim : ∀ k, AppSim Try.prog (app k) := by
  intro k
  induction k with
  | zero => intro f xs H v H1 h; cases h
  | succ k ih => exact dispSim ih
end Go.Lt.P8
