/- PRINTED BY A PROGRAM OF OURS: what each function that 'CutsWithin' reaches computes on the abstract heap, and that the translated code does just that. Nothing is asked of the input. -/
import Derived.Test.YteefkljbmjjncaaG9P5
set_option linter.unusedVariables false
set_option linter.unusedSimpArgs false
set_option maxRecDepth 100000
set_option maxHeartbeats 4000000
namespace Go.Lt.P2
open Go Go.Lt Go.Proofs
noncomputable def disp (app : App) (f : FuncId) (xs : List AV) (H : Hp) : Option (AV × Hp) :=
  match f, xs with
  | 21, [] => (r21 app H).map fun p => (.bool p.1, p.2)
  | 44, [.agg [.int .i64 a0_0, .int .i64 a0_1], .agg [.int .i64 a1_0, .int .i64 a1_1]] => (r44 a0_0 a0_1 a1_0 a1_1 H).map fun p => (.int .i64 p.1, p.2)
  | 66, [.sl a0, a1] => (r66 app a0 a1 H).map fun p => (.tup [], p.2)
  | 81, [.agg [.int .i64 a0_0, .int .i64 a0_1], .ptr c0 0, .ptr c1 0] => (r81 a0_0 a0_1 c0 c1 H).map fun p => (.int .i64 p.1, p.2)
  | 83, [.agg [.int .i64 a0_0, .int .i64 a0_1], .agg [.int .i64 a1_0, .int .i64 a1_1], .ptr c0 0] => (r83 app a0_0 a0_1 a1_0 a1_1 c0 H).map fun p => (.int .i64 p.1, p.2)
  | 93, [.agg [.int .i64 a0_0, .int .i64 a0_1, .int .i64 a0_2], .ptr c0 0] => (r93 a0_0 a0_1 a0_2 c0 H).map fun p => (.bool p.1, p.2)
  | 95, [.agg [.int .i64 a0_0, .int .i64 a0_1, .int .i64 a0_2], .ptr c0 0] => (r95 a0_0 a0_1 a0_2 c0 H).map fun p => (.bool p.1, p.2)
  | 106, [.int .i64 a0, .ptr c0 0] => (r106 a0 c0 H).map fun p => (.bool p.1, p.2)
  | _, _ => none
noncomputable def ydisp (app : App) (l : Nat) (xs : List AV) (H : Hp) : Option (AV × Hp) :=
  match H.get l, xs with
  | some (.loop .ready _ 0 59 [(2, .ptr v1 0), (3, .ptr v2 0), (4, .ptr v3 0)]), [.agg [.int .i64 y0_0, .int .i64 y0_1, .int .i64 y0_2, .int .i64 y0_3, .int .i64 y0_4, .int .i64 y0_5, .int .i64 y0_6, .int .i64 y0_7, .int .i64 y0_8, .int .i64 y0_9]] => (r101q0 app l v1 v2 v3 y0_0 y0_1 y0_2 y0_3 y0_4 y0_5 y0_6 y0_7 y0_8 y0_9 H).bind fun p => (p.2.lnext l 0 p.1).map fun H' => (.bool p.1.isNone, H')
  | _, _ => none
noncomputable def app : Nat → App
  | 0 => ⟨fun _ _ _ => none, fun _ _ _ => none⟩
  | k + 1 => ⟨disp (app k), ydisp (app k)⟩
theorem dispSim {app : App} (happ : AppSim Try.prog app) : ∀ f xs H v H1, disp app f xs H = some (v, H1) → FnOk Try.prog f ∧ CallSim Try.prog f xs H v H1 := by
  intro f xs H v H1 h
  unfold disp at h
  split at h
  · obtain ⟨p, hp, e⟩ := Option.map_eq_some_iff.1 h
    injection e with e1 e2
    subst e1; subst e2
    exact ⟨ok21, sim21 happ hp⟩
  · obtain ⟨p, hp, e⟩ := Option.map_eq_some_iff.1 h
    injection e with e1 e2
    subst e1; subst e2
    exact ⟨ok44, sim44 hp⟩
  · obtain ⟨p, hp, e⟩ := Option.map_eq_some_iff.1 h
    injection e with e1 e2
    subst e1; subst e2
    exact ⟨ok66, sim66 happ hp⟩
  · obtain ⟨p, hp, e⟩ := Option.map_eq_some_iff.1 h
    injection e with e1 e2
    subst e1; subst e2
    exact ⟨ok81, sim81 hp⟩
  · obtain ⟨p, hp, e⟩ := Option.map_eq_some_iff.1 h
    injection e with e1 e2
    subst e1; subst e2
    exact ⟨ok83, sim83 happ hp⟩
  · obtain ⟨p, hp, e⟩ := Option.map_eq_some_iff.1 h
    injection e with e1 e2
    subst e1; subst e2
    exact ⟨ok93, sim93 hp⟩
  · obtain ⟨p, hp, e⟩ := Option.map_eq_some_iff.1 h
    injection e with e1 e2
    subst e1; subst e2
    exact ⟨ok95, sim95 hp⟩
  · obtain ⟨p, hp, e⟩ := Option.map_eq_some_iff.1 h
    injection e with e1 e2
    subst e1; subst e2
    exact ⟨ok106, sim106 hp⟩
  · cases h
theorem ydispSim {app : App} (happ : AppSim Try.prog app) : ∀ l xs H v H1, ydisp app l xs H = some (v, H1) → YldSim Try.prog l xs H v H1 := by
  intro l xs H v H1 h
  unfold ydisp at h
  split at h
  · rename_i hg
    obtain ⟨p, hp, e⟩ := Option.bind_eq_some_iff.1 h
    obtain ⟨H3, hn, e2⟩ := Option.map_eq_some_iff.1 e
    injection e2 with e2 e3
    subst e2; subst e3
    obtain ⟨st2, pend2, n2, F2, hg2, rfl⟩ := lnext_inv hn
    exact yldSim (ps := [10]) hg (by kernel_rfl) rfl (by decide) (sim101q0 happ ) hp hg2
  · cases h
theorem appSim : ∀ k, AppSim Try.prog (app k) := by
  intro k
  induction k with
  | zero => exact ⟨fun f xs H v H1 h => (by cases h), fun l xs H v H1 h => (by cases h)⟩
  | succ k ih => exact ⟨dispSim ih, ydispSim ih⟩
end Go.Lt.P2
