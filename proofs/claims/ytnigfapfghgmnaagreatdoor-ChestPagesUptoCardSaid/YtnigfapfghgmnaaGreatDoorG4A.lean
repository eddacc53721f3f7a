/- PRINTED BY A PROGRAM OF OURS: what each function that 'ChestPages' reaches computes on the abstract heap, and that the translated code does just that. Nothing is asked of the input. -/
import Derived.Test.YtnigfapfghgmnaaGreatDoorG4P7
set_option linter.unusedVariables false
set_option linter.unusedSimpArgs false
set_option maxRecDepth 100000
set_option maxHeartbeats 4000000
namespace Go.Lt.P10
open Go Go.Lt Go.Proofs
noncomputable def disp (app : App) (f : FuncId) (xs : List AV) (H : Hp) : Option (AV × Hp) :=
  match f, xs with
  | 13, [] => (r13 app H).map fun p => (.bool p.1, p.2)
  | 41, [.int .i64 a0, .ptr c0 0] => (r41 a0 c0 H).map fun p => (.bool p.1, p.2)
  | 44, [.ptr a0b a0o, .agg [.sl a1_0, .sl a1_1]] => (r44 app a0b a0o a1_0 a1_1 H).map fun p => (.int .i64 p.1, p.2)
  | 45, [.ptr a0b a0o, .agg [.sl a1_0, .sl a1_1]] => (r45 app a0b a0o a1_0 a1_1 H).map fun p => (.int .i64 p.1, p.2)
  | 46, [.ptr a0b a0o, .agg [.sl a1_0, .sl a1_1]] => (r46 app a0b a0o a1_0 a1_1 H).map fun p => (.int .i64 p.1, p.2)
  | 47, [.ptr a0b a0o, .agg [.sl a1_0, .sl a1_1]] => (r47 a0b a0o a1_0 a1_1 H).map fun p => (.int .i64 p.1, p.2)
  | 48, [.ptr a0b a0o, .agg [.sl a1_0, .sl a1_1]] => (r48 a0b a0o a1_0 a1_1 H).map fun p => (.int .i64 p.1, p.2)
  | 51, [.agg [.str a0_0, .int .i64 a0_1, .ptr a0_2b a0_2o], .ptr c0 0, .ptr c1 0] => (r51 a0_0 a0_1 a0_2b a0_2o c0 c1 H).map fun p => (.bool p.1, p.2)
  | 60, [.ptr a0b a0o, .agg [.sl a1_0, .sl a1_1]] => (r60 app a0b a0o a1_0 a1_1 H).map fun p => (.tup [.sl p.1.1, .int .i64 p.1.2], p.2)
  | 102, [.agg [.str a0_0, .int .i64 a0_1], .ptr c0 0] => (r102 a0_0 a0_1 c0 H).map fun p => (.bool p.1, p.2)
  | 110, [.int .u8 a0] => (r110 a0 H).map fun p => (.bool p.1, p.2)
  | _, _ => none
noncomputable def ydisp (app : App) (l : Nat) (xs : List AV) (H : Hp) : Option (AV × Hp) :=
  none
noncomputable def app : Nat → App
  | 0 => ⟨fun _ _ _ => none, fun _ _ _ => none⟩
  | k + 1 => ⟨disp (app k), ydisp (app k)⟩
theorem dispSim {app : App} (happ : AppSim Tryz.prog app) : ∀ f xs H v H1, disp app f xs H = some (v, H1) → FnOk Tryz.prog f ∧ CallSim Tryz.prog f xs H v H1 := by
  intro f xs H v H1 h
  unfold disp at h
  split at h
  · obtain ⟨p, hp, e⟩ := Option.map_eq_some_iff.1 h
    injection e with e1 e2
    subst e1; subst e2
    exact ⟨ok13, sim13 happ hp⟩
  · obtain ⟨p, hp, e⟩ := Option.map_eq_some_iff.1 h
    injection e with e1 e2
    subst e1; subst e2
    exact ⟨ok41, sim41 hp⟩
  · obtain ⟨p, hp, e⟩ := Option.map_eq_some_iff.1 h
    injection e with e1 e2
    subst e1; subst e2
    exact ⟨ok44, sim44 happ hp⟩
  · obtain ⟨p, hp, e⟩ := Option.map_eq_some_iff.1 h
    injection e with e1 e2
    subst e1; subst e2
    exact ⟨ok45, sim45 happ hp⟩
  · obtain ⟨p, hp, e⟩ := Option.map_eq_some_iff.1 h
    injection e with e1 e2
    subst e1; subst e2
    exact ⟨ok46, sim46 happ hp⟩
  · obtain ⟨p, hp, e⟩ := Option.map_eq_some_iff.1 h
    injection e with e1 e2
    subst e1; subst e2
    exact ⟨ok47, sim47 hp⟩
  · obtain ⟨p, hp, e⟩ := Option.map_eq_some_iff.1 h
    injection e with e1 e2
    subst e1; subst e2
    exact ⟨ok48, sim48 hp⟩
  · obtain ⟨p, hp, e⟩ := Option.map_eq_some_iff.1 h
    injection e with e1 e2
    subst e1; subst e2
    exact ⟨ok51, sim51 hp⟩
  · obtain ⟨p, hp, e⟩ := Option.map_eq_some_iff.1 h
    injection e with e1 e2
    subst e1; subst e2
    exact ⟨ok60, sim60 happ hp⟩
  · obtain ⟨p, hp, e⟩ := Option.map_eq_some_iff.1 h
    injection e with e1 e2
    subst e1; subst e2
    exact ⟨ok102, sim102 hp⟩
  · obtain ⟨p, hp, e⟩ := Option.map_eq_some_iff.1 h
    injection e with e1 e2
    subst e1; subst e2
    exact ⟨ok110, sim110 hp⟩
  · cases h
theorem ydispSim {app : App} (happ : AppSim Tryz.prog app) : ∀ l xs H v H1, ydisp app l xs H = some (v, H1) → YldSim Tryz.prog l xs H v H1 := by
  intro l xs H v H1 h
  unfold ydisp at h
  cases h
theorem appSim : ∀ k, AppSim Tryz.prog (app k) := by
  intro k
  induction k with
  | zero => exact ⟨fun f xs H v H1 h => (by cases h), fun l xs H v H1 h => (by cases h)⟩
  | succ k ih => exact ⟨dispSim ih, ydispSim ih⟩
end Go.Lt.P10
