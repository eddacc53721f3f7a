/- PRINTED BY A PROGRAM OF OURS: what each function that 'DealsEqual' reaches computes on the abstract heap, and that the translated code does just that. Nothing is asked of the input. -/
import Derived.Test.YtficeemoekikdaaG9P8
set_option linter.unusedVariables false
set_option linter.unusedSimpArgs false
set_option maxRecDepth 100000
set_option maxHeartbeats 4000000
namespace Go.Lt.P5
open Go Go.Lt Go.Proofs
noncomputable def disp (app : App) (f : FuncId) (xs : List AV) (H : Hp) : Option (AV × Hp) :=
  match f, xs with
  | 19, [] => (r19 app H).map fun p => (.bool p.1, p.2)
  | 66, [.agg [.int .i64 a0_0, .int .i64 a0_1, .int .i64 a0_2, .int .i64 a0_3], .ptr c0 0, .ptr c1 0, .ptr c2 0] => (r66 a0_0 a0_1 a0_2 a0_3 c0 c1 c2 H).map fun p => (.tup [], p.2)
  | 74, [.agg [.int .i64 a0_0, .int .i64 a0_1], .agg [.int .i64 a1_0, .int .i64 a1_1]] => (r74 a0_0 a0_1 a1_0 a1_1 H).map fun p => (.int .i64 p.1, p.2)
  | 84, [a0, .ptr c0 0] => (r84 app a0 c0 H).map fun p => (.tup [], p.2)
  | 87, [.sl a0, .int .i64 a1, .int .i64 a2, .int .i64 a3, a4] => (r87 app a0 a1 a2 a3 a4 H).map fun p => (.tup [], p.2)
  | _, _ => none
noncomputable def ydisp (app : App) (l : Nat) (xs : List AV) (H : Hp) : Option (AV × Hp) :=
  match H.get l, xs with
  | some (.loop .ready _ 0 13 [(2, .ptr v1 0)]), [.agg [.int .i64 y0_0, .int .i64 y0_1]] => (r86q0 app l v1 y0_0 y0_1 H).bind fun p => (p.2.lnext l 0 p.1).map fun H' => (.bool p.1.isNone, H')
  | _, _ => none
noncomputable def app : Nat → App
  | 0 => ⟨fun _ _ _ => none, fun _ _ _ => none⟩
  | k + 1 => ⟨disp (app k), ydisp (app k)⟩
theorem dispSim {app : App} (happ : AppSim Try.prog app) : ∀ f xs H v H1, disp app f xs H = some (v, H1) → FnOk Try.prog f ∧ CallSim Try.prog f xs H v H1 := by
  intro f xs H v H1 h
  unfold disp at h
  split at h
  · obtain ⟨p, hp, e⟩ := Option.map_eq_some_iff.1 h
    injection e with e1 e2
    subst e1; subst e2
    exact ⟨ok19, sim19 happ hp⟩
  · obtain ⟨p, hp, e⟩ := Option.map_eq_some_iff.1 h
    injection e with e1 e2
    subst e1; subst e2
    exact ⟨ok66, sim66 hp⟩
  · obtain ⟨p, hp, e⟩ := Option.map_eq_some_iff.1 h
    injection e with e1 e2
    subst e1; subst e2
    exact ⟨ok74, sim74 hp⟩
  · obtain ⟨p, hp, e⟩ := Option.map_eq_some_iff.1 h
    injection e with e1 e2
    subst e1; subst e2
    exact ⟨ok84, sim84 happ hp⟩
  · obtain ⟨p, hp, e⟩ := Option.map_eq_some_iff.1 h
    injection e with e1 e2
    subst e1; subst e2
    exact ⟨ok87, sim87 happ hp⟩
  · cases h
theorem ydispSim {app : App} (happ : AppSim Try.prog app) : ∀ l xs H v H1, ydisp app l xs H = some (v, H1) → YldSim Try.prog l xs H v H1 := by
  intro l xs H v H1 h
  unfold ydisp at h
  split at h
  · rename_i hg
    obtain ⟨p, hp, e⟩ := Option.bind_eq_some_iff.1 h
    obtain ⟨H3, hn, e2⟩ := Option.map_eq_some_iff.1 e
    injection e2 with e2 e3
    subst e2; subst e3
    obtain ⟨st2, pend2, n2, F2, hg2, rfl⟩ := lnext_inv hn
    exact yldSim (ps := [7]) hg (by kernel_rfl) rfl (by decide) (sim86q0 happ ) hp hg2
  · cases h
theorem appSim : ∀ k, AppSim Try.prog (app k) := by
  intro k
  induction k with
  | zero => exact ⟨fun f xs H v H1 h => (by cases h), fun l xs H v H1 h => (by cases h)⟩
  | succ k ih => exact ⟨dispSim ih, ydispSim ih⟩
end Go.Lt.P5
