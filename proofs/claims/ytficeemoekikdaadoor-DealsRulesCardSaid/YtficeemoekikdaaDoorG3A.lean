/- PRINTED BY A PROGRAM OF OURS: what each function that 'DealsRules' reaches computes on the abstract heap, and that the translated code does just that. Nothing is asked of the input. -/
import Derived.Test.YtficeemoekikdaaDoorG3P11
set_option linter.unusedVariables false
set_option linter.unusedSimpArgs false
set_option maxRecDepth 100000
set_option maxHeartbeats 4000000
namespace Go.Lt.P5
open Go Go.Lt Go.Proofs
noncomputable def disp (app : App) (f : FuncId) (xs : List AV) (H : Hp) : Option (AV × Hp) :=
  match f, xs with
  | 11, [] => (r11 app H).map fun p => (.bool p.1, p.2)
  | 19, [.agg [.int .i64 a0_0, .int .i64 a0_1, .int .i64 a0_2, .int .i64 a0_3], .ptr c0 0, .ptr c1 0, .ptr c2 0] => (r19 a0_0 a0_1 a0_2 a0_3 c0 c1 c2 H).map fun p => (.tup [], p.2)
  | 42, [.agg [.int .i64 a0_0, .int .i64 a0_1], .agg [.int .i64 a1_0, .int .i64 a1_1]] => (r42 a0_0 a0_1 a1_0 a1_1 H).map fun p => (.int .i64 p.1, p.2)
  | 53, [a0, .ptr c0 0] => (r53 app a0 c0 H).map fun p => (.tup [], p.2)
  | 57, [.sl a0, .int .i64 a1, .int .i64 a2, .int .i64 a3, a4] => (r57 app a0 a1 a2 a3 a4 H).map fun p => (.tup [], p.2)
  | _, _ => none
noncomputable def ydisp (app : App) (l : Nat) (xs : List AV) (H : Hp) : Option (AV × Hp) :=
  match H.get l, xs with
  | some (.loop .ready _ 0 13 [(2, .ptr v1 0)]), [.agg [.int .i64 y0_0, .int .i64 y0_1]] => (r56q0 app l v1 y0_0 y0_1 H).bind fun p => (p.2.lnext l 0 p.1).map fun H' => (.bool p.1.isNone, H')
  | _, _ => none
noncomputable def app : Nat → App
  | 0 => ⟨fun _ _ _ => none, fun _ _ _ => none⟩
  | k + 1 => ⟨disp (app k), ydisp (app k)⟩
theorem dispSim {app : App} (happ : AppSim Tryd.prog app) : ∀ f xs H v H1, disp app f xs H = some (v, H1) → FnOk Tryd.prog f ∧ CallSim Tryd.prog f xs H v H1 := by
  intro f xs H v H1 h
  unfold disp at h
  split at h
  · obtain ⟨p, hp, e⟩ := Option.map_eq_some_iff.1 h
    injection e with e1 e2
    subst e1; subst e2
    exact ⟨ok11, sim11 happ hp⟩
  · obtain ⟨p, hp, e⟩ := Option.map_eq_some_iff.1 h
    injection e with e1 e2
    subst e1; subst e2
    exact ⟨ok19, sim19 hp⟩
  · obtain ⟨p, hp, e⟩ := Option.map_eq_some_iff.1 h
    injection e with e1 e2
    subst e1; subst e2
    exact ⟨ok42, sim42 hp⟩
  · obtain ⟨p, hp, e⟩ := Option.map_eq_some_iff.1 h
    injection e with e1 e2
    subst e1; subst e2
    exact ⟨ok53, sim53 happ hp⟩
  · obtain ⟨p, hp, e⟩ := Option.map_eq_some_iff.1 h
    injection e with e1 e2
    subst e1; subst e2
    exact ⟨ok57, sim57 happ hp⟩
  · cases h
theorem ydispSim {app : App} (happ : AppSim Tryd.prog app) : ∀ l xs H v H1, ydisp app l xs H = some (v, H1) → YldSim Tryd.prog l xs H v H1 := by
  intro l xs H v H1 h
  unfold ydisp at h
  split at h
  · rename_i hg
    obtain ⟨p, hp, e⟩ := Option.bind_eq_some_iff.1 h
    obtain ⟨H3, hn, e2⟩ := Option.map_eq_some_iff.1 e
    injection e2 with e2 e3
    subst e2; subst e3
    obtain ⟨st2, pend2, n2, F2, hg2, rfl⟩ := lnext_inv hn
    exact yldSim (ps := [7]) hg (by kernel_rfl) rfl (by decide) (sim56q0 happ ) hp hg2
  · cases h
theorem appSim : ∀ k, AppSim Tryd.prog (app k) := by
  intro k
  induction k with
  | zero => exact ⟨fun f xs H v H1 h => (by cases h), fun l xs H v H1 h => (by cases h)⟩
  | succ k ih => exact ⟨dispSim ih, ydispSim ih⟩
end Go.Lt.P5
