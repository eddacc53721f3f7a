/- PRINTED BY A PROGRAM OF OURS: what each function that 'ChestGives' reaches computes on the abstract heap, and that the translated code does just that. Nothing is asked of the input. -/
import Derived.Test.YtopildlfbhfghaaGreatDoorG6P8
set_option linter.unusedVariables false
set_option linter.unusedSimpArgs false
set_option maxRecDepth 100000
set_option maxHeartbeats 4000000
namespace Go.Lt.P10
open Go Go.Lt Go.Proofs
noncomputable def disp (app : App) (f : FuncId) (xs : List AV) (H : Hp) : Option (AV × Hp) :=
  match f, xs with
  | 34, [] => (r34 app H).map fun p => (.bool p.1, p.2)
  | 57, [.agg [.sl a0_0, .sl a0_1], a1] => (r57 app a0_0 a0_1 a1 H).map fun p => (.tup [], p.2)
  | 93, [.int .i64 a0, .int .i64 a1, .int .i64 a2, .ptr c0 0, .ptr c1 0, .ptr c2 0, .ptr c3 0, .ptr c4 0] => (r93 app a0 a1 a2 c0 c1 c2 c3 c4 H).map fun p => (.bool p.1, p.2)
  | 98, [.ptr a0b a0o, .agg [.sl a1_0, .sl a1_1]] => (r98 app a0b a0o a1_0 a1_1 H).map fun p => (.tup [.sl p.1.1, .int .i64 p.1.2], p.2)
  | 99, [.ptr a0b a0o, .agg [.sl a1_0, .sl a1_1]] => (r99 app a0b a0o a1_0 a1_1 H).map fun p => (.tup [.sl p.1.1, .int .i64 p.1.2], p.2)
  | 100, [.ptr a0b a0o, .agg [.sl a1_0, .sl a1_1]] => (r100 app a0b a0o a1_0 a1_1 H).map fun p => (.tup [.sl p.1.1, .int .i64 p.1.2], p.2)
  | 101, [.ptr a0b a0o, .agg [.sl a1_0, .sl a1_1]] => (r101 app a0b a0o a1_0 a1_1 H).map fun p => (.tup [.sl p.1.1, .int .i64 p.1.2], p.2)
  | 112, [.ptr a0b a0o, .agg [.sl a1_0, .sl a1_1]] => (r112 app a0b a0o a1_0 a1_1 H).map fun p => (.int .i64 p.1, p.2)
  | 113, [.ptr a0b a0o, .agg [.sl a1_0, .sl a1_1]] => (r113 app a0b a0o a1_0 a1_1 H).map fun p => (.int .i64 p.1, p.2)
  | 114, [.ptr a0b a0o, .agg [.sl a1_0, .sl a1_1]] => (r114 app a0b a0o a1_0 a1_1 H).map fun p => (.int .i64 p.1, p.2)
  | 115, [.ptr a0b a0o, .agg [.sl a1_0, .sl a1_1]] => (r115 a0b a0o a1_0 a1_1 H).map fun p => (.int .i64 p.1, p.2)
  | 116, [.ptr a0b a0o, .agg [.sl a1_0, .sl a1_1]] => (r116 a0b a0o a1_0 a1_1 H).map fun p => (.int .i64 p.1, p.2)
  | 118, [.agg [.str a0_0, .int .i64 a0_1, .ptr a0_2b a0_2o], .ptr c0 0, .ptr c1 0] => (r118 a0_0 a0_1 a0_2b a0_2o c0 c1 H).map fun p => (.bool p.1, p.2)
  | 122, [.int .i64 a0] => (r122 a0 H).map fun p => (.bool p.1, p.2)
  | 130, [.int .i64 a0, .ptr c0 0] => (r130 a0 c0 H).map fun p => (.bool p.1, p.2)
  | 132, [.str a0, .sl a1, .ptr c0 0] => (r132 app a0 a1 c0 H).map fun p => (.tup [], p.2)
  | 198, [.agg [.str a0_0, .int .i64 a0_1], .ptr c0 0] => (r198 a0_0 a0_1 c0 H).map fun p => (.bool p.1, p.2)
  | 228, [.int .u8 a0] => (r228 a0 H).map fun p => (.bool p.1, p.2)
  | _, _ => none
noncomputable def ydisp (app : App) (l : Nat) (xs : List AV) (H : Hp) : Option (AV × Hp) :=
  match H.get l, xs with
  | some (.loop .ready _ 0 32 [(4, .ptr v1 0), (5, .ptr v2 0)]), [.sl y0] => (r13q0 app l v1 v2 y0 H).bind fun p => (p.2.lnext l 0 p.1).map fun H' => (.bool p.1.isNone, H')
  | _, _ => none
noncomputable def app : Nat → App
  | 0 => ⟨fun _ _ _ => none, fun _ _ _ => none⟩
  | k + 1 => ⟨disp (app k), ydisp (app k)⟩
theorem dispSim {app : App} (happ : AppSim Tryz.prog app) : ∀ f xs H v H1, disp app f xs H = some (v, H1) → FnOk Tryz.prog f ∧ CallSim Tryz.prog f xs H v H1 := by
  intro f xs H v H1 h
  unfold disp at h
  split at h
  · obtain ⟨p, hp, e⟩ := Option.map_eq_some_iff.1 h
    injection e with e1 e2
    subst e1; subst e2
    exact ⟨ok34, sim34 happ hp⟩
  · obtain ⟨p, hp, e⟩ := Option.map_eq_some_iff.1 h
    injection e with e1 e2
    subst e1; subst e2
    exact ⟨ok57, sim57 happ hp⟩
  · obtain ⟨p, hp, e⟩ := Option.map_eq_some_iff.1 h
    injection e with e1 e2
    subst e1; subst e2
    exact ⟨ok93, sim93 happ hp⟩
  · obtain ⟨p, hp, e⟩ := Option.map_eq_some_iff.1 h
    injection e with e1 e2
    subst e1; subst e2
    exact ⟨ok98, sim98 happ hp⟩
  · obtain ⟨p, hp, e⟩ := Option.map_eq_some_iff.1 h
    injection e with e1 e2
    subst e1; subst e2
    exact ⟨ok99, sim99 happ hp⟩
  · obtain ⟨p, hp, e⟩ := Option.map_eq_some_iff.1 h
    injection e with e1 e2
    subst e1; subst e2
    exact ⟨ok100, sim100 happ hp⟩
  · obtain ⟨p, hp, e⟩ := Option.map_eq_some_iff.1 h
    injection e with e1 e2
    subst e1; subst e2
    exact ⟨ok101, sim101 happ hp⟩
  · obtain ⟨p, hp, e⟩ := Option.map_eq_some_iff.1 h
    injection e with e1 e2
    subst e1; subst e2
    exact ⟨ok112, sim112 happ hp⟩
  · obtain ⟨p, hp, e⟩ := Option.map_eq_some_iff.1 h
    injection e with e1 e2
    subst e1; subst e2
    exact ⟨ok113, sim113 happ hp⟩
  · obtain ⟨p, hp, e⟩ := Option.map_eq_some_iff.1 h
    injection e with e1 e2
    subst e1; subst e2
    exact ⟨ok114, sim114 happ hp⟩
  · obtain ⟨p, hp, e⟩ := Option.map_eq_some_iff.1 h
    injection e with e1 e2
    subst e1; subst e2
    exact ⟨ok115, sim115 hp⟩
  · obtain ⟨p, hp, e⟩ := Option.map_eq_some_iff.1 h
    injection e with e1 e2
    subst e1; subst e2
    exact ⟨ok116, sim116 hp⟩
  · obtain ⟨p, hp, e⟩ := Option.map_eq_some_iff.1 h
    injection e with e1 e2
    subst e1; subst e2
    exact ⟨ok118, sim118 hp⟩
  · obtain ⟨p, hp, e⟩ := Option.map_eq_some_iff.1 h
    injection e with e1 e2
    subst e1; subst e2
    exact ⟨ok122, sim122 hp⟩
  · obtain ⟨p, hp, e⟩ := Option.map_eq_some_iff.1 h
    injection e with e1 e2
    subst e1; subst e2
    exact ⟨ok130, sim130 hp⟩
  · obtain ⟨p, hp, e⟩ := Option.map_eq_some_iff.1 h
    injection e with e1 e2
    subst e1; subst e2
    exact ⟨ok132, sim132 happ hp⟩
  · obtain ⟨p, hp, e⟩ := Option.map_eq_some_iff.1 h
    injection e with e1 e2
    subst e1; subst e2
    exact ⟨ok198, sim198 hp⟩
  · obtain ⟨p, hp, e⟩ := Option.map_eq_some_iff.1 h
    injection e with e1 e2
    subst e1; subst e2
    exact ⟨ok228, sim228 hp⟩
  · cases h
theorem ydispSim {app : App} (happ : AppSim Tryz.prog app) : ∀ l xs H v H1, ydisp app l xs H = some (v, H1) → YldSim Tryz.prog l xs H v H1 := by
  intro l xs H v H1 h
  unfold ydisp at h
  split at h
  · rename_i hg
    obtain ⟨p, hp, e⟩ := Option.bind_eq_some_iff.1 h
    obtain ⟨H3, hn, e2⟩ := Option.map_eq_some_iff.1 e
    injection e2 with e2 e3
    subst e2; subst e3
    obtain ⟨st2, pend2, n2, F2, hg2, rfl⟩ := lnext_inv hn
    exact yldSim (ps := [17]) hg (by kernel_rfl) rfl (by decide) (sim13q0 happ ) hp hg2
  · cases h
theorem appSim : ∀ k, AppSim Tryz.prog (app k) := by
  intro k
  induction k with
  | zero => exact ⟨fun f xs H v H1 h => (by cases h), fun l xs H v H1 h => (by cases h)⟩
  | succ k ih => exact ⟨dispSim ih, ydispSim ih⟩
end Go.Lt.P10
