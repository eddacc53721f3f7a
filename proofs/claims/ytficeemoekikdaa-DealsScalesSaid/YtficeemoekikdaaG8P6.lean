/- PRINTED BY A PROGRAM OF OURS: what each function that 'DealsScales' reaches computes on the abstract heap, and that the translated code does just that. Nothing is asked of the input. -/
import Derived.Test.YtficeemoekikdaaG8P5
set_option linter.unusedVariables false
set_option linter.unusedSimpArgs false
set_option maxRecDepth 100000
set_option maxHeartbeats 4000000
namespace Go.Lt.P5
open Go Go.Lt Go.Proofs
/- 37 slices.Delete[[][2]int,[2]int] -/
theorem ok37 : FnOk Try.prog 37 := ⟨⟨Try.f37, Try.func37, by kernel_rfl, rfl⟩⟩
theorem sim37 {a0 : Sl} {a1 : Int} {a2 : Int} {H : Hp} {p : Sl × Hp} (h : r37 a0 a1 a2 H = some p) : CallSim Try.prog 37 [.sl a0, .int .i64 a1, .int .i64 a2] H (.sl p.1) p.2 := by
  refine callSim (fn := Try.f37) (ret := ret37) Try.func37 rfl Try.ntmps37 rfl ?_ h
  unfold r37
  refine f_seq ?_
  refine f_region ?_
  refine f_op rfl rfl (s_as (v := .sl ⟨true, 0, 0, 0, 0, 0⟩) rfl) ?_
  refine f_nil ?_
  refine f_seq ?_
  refine f_region ?_
  refine f_op rfl rfl (s_mv (v := .sl a0) rfl) ?_
  refine f_op rfl rfl (s_mv (v := .int .i64 a1) rfl) ?_
  refine f_op rfl rfl (s_mv (v := .int .i64 a2) rfl) ?_
  refine f_op rfl rfl (s_mv (v := .sl a0) rfl) ?_
  refine f_op rfl rfl (s_lenS rfl Try.underlying35 rfl) ?_
  refine o_ck fun g1 => ?_
  refine f_op rfl rfl (s_slice3 Try.underlying35 ty49 rfl rfl rfl rfl g1) ?_
  refine f_nil ?_
  refine f_seq ?_
  refine f_seq ?_
  refine f_region ?_
  refine f_op rfl rfl (s_mv (v := .int .i64 a1) rfl) ?_
  refine f_op rfl rfl (s_mv (v := .int .i64 a2) rfl) ?_
  refine f_op rfl rfl (s_eql rfl rfl) ?_
  refine f_nil ?_
  refine f_if (fun h2 => ?_) (fun h2 => ?_)
  · skip
    refine f_know 16 rfl (dec_true h2) ?_
    refine f_condT rfl ?_
    refine f_seq ?_
    refine f_region ?_
    refine f_op rfl rfl (s_mv (v := .sl a0) rfl) ?_
    refine f_op rfl rfl (s_as (v := .sl a0) rfl) ?_
    refine f_nil ?_
    exact f_ret (.tmp rfl (.nil)) rfl
  · skip
    refine f_know 16 rfl (dec_false h2) ?_
    refine f_condF rfl ?_
    refine f_skip ?_
    refine f_seq ?_
    refine f_region ?_
    refine f_op rfl rfl (s_mv (v := .sl a0) rfl) ?_
    refine f_op rfl rfl (s_lenS rfl Try.underlying35 rfl) ?_
    refine f_op rfl rfl (s_as (v := .int .i64 (a0.len : Int)) rfl) ?_
    refine f_nil ?_
    refine f_seq ?_
    refine f_ck fun g3 => ?_
    refine f_ck fun g4 => ?_
    refine f_bind ?_; intro x5 hx5
    refine f_ck fun g6 => ?_
    refine f_bind ?_; intro x7 hx7
    refine f_draw (Φ := fun _ => True) (lim := 1000000) [0, 0, 0, 0, 0, 0, 2, 0] (Trc.pure rfl rfl rfl (.inl fun _ => s_mv (v := .sl a0) rfl) (Trc.pure rfl rfl rfl (.inl fun _ => s_mv (v := .int .i64 a1) rfl) (Trc.pure rfl rfl rfl (.inl fun _ => s_slice Try.underlying35 ty49 rfl rfl rfl g3.1 g3.2) (Trc.pure rfl rfl rfl (.inl fun _ => s_mv (v := .sl a0) rfl) (Trc.pure rfl rfl rfl (.inl fun _ => s_mv (v := .int .i64 a2) rfl) (Trc.pure rfl rfl rfl (.inl fun _ => s_slice Try.underlying35 ty49 rfl rfl rfl g4.1 g4.2) (Trc.eff rfl rfl rfl (fun _ => trivial) (s_append rfl rfl Try.underlying35 Try.underlying35 ty49 (by decide) rfl (by decide) rfl rfl hx5 g6 hx7) (Trc.pure rfl rfl rfl (.inl fun _ => s_as (v := .sl x7.1) rfl) (Trc.nil (fun _ => trivial)))))))))) rfl (by decide +kernel) mixed ?_
    refine f_seq ?_
    refine f_region ?_
    refine f_op rfl rfl (s_mv (v := .sl x7.1) rfl) ?_
    refine f_op rfl rfl (s_mv (v := .sl x7.1) rfl) ?_
    refine f_op rfl rfl (s_lenS rfl Try.underlying35 rfl) ?_
    refine f_op rfl rfl (s_mv (v := .int .i64 (a0.len : Int)) rfl) ?_
    refine o_ck fun g8 => ?_
    refine f_op rfl rfl (s_slice Try.underlying35 ty49 rfl rfl rfl g8.1 g8.2) ?_
    refine o_bind ?_; intro H9 hH9
    refine f_op rfl rfl (s_clear rfl Try.underlying35 ty49 rfl rfl rfl hH9 (by decide) rfl) ?_
    refine f_nil ?_
    refine f_seq ?_
    refine f_region ?_
    refine f_op rfl rfl (s_mv (v := .sl x7.1) rfl) ?_
    refine f_op rfl rfl (s_as (v := .sl x7.1) rfl) ?_
    refine f_nil ?_
    exact f_ret (.tmp rfl (.nil)) rfl

/- 62 congou/deals.Less$1 -/
theorem ok62 : FnOk Try.prog 62 := ⟨⟨Try.f62, Try.func62, by kernel_rfl, rfl⟩⟩
theorem sim62 {a0_0 : Int} {a0_1 : Int} {H : Hp} {p : (Int × Int) × Hp} (h : r62 a0_0 a0_1 H = some p) : CallSim Try.prog 62 [.agg [.int .i64 a0_0, .int .i64 a0_1]] H (.agg [.int .i64 p.1.1, .int .i64 p.1.2]) p.2 := by
  refine callSim (fn := Try.f62) (ret := ret62) Try.func62 rfl Try.ntmps62 rfl ?_ h
  unfold r62
  refine f_seq ?_
  refine f_region ?_
  refine f_op rfl rfl (s_box (v := .agg [.int .i64 a0_0, .int .i64 a0_1]) rfl rfl) ?_
  refine f_op rfl rfl (s_alloc (zs := [.int .i64 0, .int .i64 0]) ty49 rfl rfl) ?_
  refine o_hp ?_; intro H1 hH1
  refine f_nil ?_
  refine f_seq ?_
  refine f_region ?_
  refine o_bind ?_; intro x2 hx2
  refine o_bind ?_; intro x3 hx3
  refine f_op rfl rfl (s_loads Try.underlying49 rfl ty49 rfl (lds_cons (ldI_eq hx2) (lds_cons (ldI_eq hx3) (lds_nil)))) ?_
  refine o_bind ?_; intro H4 hH4
  refine f_op rfl rfl (s_stores ty49 rfl rfl rfl rfl hH4 (Nat.le_of_eq (sts_mono hH4).symm)) ?_
  refine f_nil ?_
  refine f_bind ?_; intro x5 hx5
  refine f_bind ?_; intro x6 hx6
  exact f_ret (.cells Try.underlying49 rfl sz49 rfl (lds_cons (ldI_eq hx5) (lds_cons (ldI_eq hx6) (lds_nil))) (.nil)) rfl

/- 35 congou/deals.Less -/
theorem ok35 : FnOk Try.prog 35 := ⟨⟨Try.f35, Try.func35, by kernel_rfl, rfl⟩⟩
theorem s35_j0 {app : App} (happ : AppSim Try.prog app) (v1 : Sl) (v2 : Int) (v3 : Bool) (H : Hp) : Fin Try.prog Try.f35 ret35 28 (todoAt (bodyOf Try.f35) [1, 0, 1] []) [(0, .sl v1), (1, .int .i64 v2), (18, .bool v3)] H (r35_j0 app v1 v2 v3 H) := by
  unfold r35_j0
  refine f_if (fun h1 => ?_) (fun h1 => ?_)
  · skip
    refine f_know 18 rfl (bool_T h1) ?_
    refine f_condT rfl ?_
    refine f_seq ?_
    refine f_region ?_
    refine f_op rfl rfl (s_as (v := .sl ⟨true, 0, 0, 0, 0, 0⟩) rfl) ?_
    refine f_op rfl rfl (s_as (v := .int .i64 2) rfl) ?_
    refine f_nil ?_
    exact f_ret (.tmp rfl (.tmp rfl (.nil))) rfl
  · skip
    refine f_know 18 rfl (bool_F h1) ?_
    refine f_condF rfl ?_
    refine f_skip ?_
    refine f_seq ?_
    refine f_region ?_
    refine f_op rfl rfl (s_mv (v := .sl v1) rfl) ?_
    refine o_bind ?_; intro p2 hp2
    refine f_op rfl rfl (s_callF rfl ok41 (sim41 hp2)) ?_
    refine f_op rfl rfl (s_mv (v := .int .i64 v2) rfl) ?_
    refine f_op rfl rfl (s_mv (v := .int .i64 v2) rfl) ?_
    refine f_op rfl rfl (s_add rfl rfl) ?_
    refine o_bind ?_; intro p3 hp3
    refine f_op rfl rfl (s_callF rfl ok37 (sim37 hp3)) ?_
    refine o_bind ?_; intro p4 hp4
    refine f_op rfl rfl (s_callF rfl ok59 (sim59 happ hp4)) ?_
    refine f_op rfl rfl (s_extract (r := .sl p4.1.1) rfl rfl) ?_
    refine f_op rfl rfl (s_extract (r := .int .i64 p4.1.2) rfl rfl) ?_
    refine f_op rfl rfl (s_as (v := .sl p4.1.1) rfl) ?_
    refine f_op rfl rfl (s_as (v := .int .i64 p4.1.2) rfl) ?_
    refine f_nil ?_
    exact f_ret (.tmp rfl (.tmp rfl (.nil))) rfl

theorem sim35 {app : App} (happ : AppSim Try.prog app) {a0 : Sl} {a1 : Int} {H : Hp} {p : (Sl × Int) × Hp} (h : r35 app a0 a1 H = some p) : CallSim Try.prog 35 [.sl a0, .int .i64 a1] H (.tup [.sl p.1.1, .int .i64 p.1.2]) p.2 := by
  refine callSim (fn := Try.f35) (ret := ret35) Try.func35 rfl Try.ntmps35 rfl ?_ h
  unfold r35
  refine f_seq ?_
  refine f_region ?_
  refine f_op rfl rfl (s_as (v := .sl ⟨true, 0, 0, 0, 0, 0⟩) rfl) ?_
  refine f_op rfl rfl (s_as (v := .int .i64 0) rfl) ?_
  refine f_nil ?_
  refine f_seq ?_
  refine f_seq ?_
  refine f_region ?_
  refine f_op rfl rfl (s_mv (v := .sl a0) rfl) ?_
  refine o_bind ?_; intro p1 hp1
  refine f_op rfl rfl (s_callF rfl ok52 (sim52 hp1)) ?_
  refine f_op rfl rfl (s_not rfl) ?_
  refine f_op rfl rfl (s_mv (v := .bool (!p1.1)) rfl) ?_
  refine o_if (fun h2 => ?_) (fun h2 => ?_)
  · skip
    refine o_know 9 rfl (bool_notT h2) ?_
    refine f_op rfl rfl (s_mv (v := .int .i64 a1) rfl) ?_
    refine f_op rfl rfl (s_lss rfl rfl) ?_
    refine f_op rfl rfl (s_pickF (v := .bool (decide (a1 < 0))) rfl rfl) ?_
    refine f_op rfl rfl (s_mv (v := .bool (decide (a1 < 0))) rfl) ?_
    refine o_if (fun h3 => ?_) (fun h3 => ?_)
    · skip
      refine o_know 13 rfl (dec_true h3) ?_
      refine f_no rfl rfl ?_
      refine f_no rfl rfl ?_
      refine f_no rfl rfl ?_
      refine f_no rfl rfl ?_
      refine f_op rfl rfl (s_pickT (v := .bool true) rfl rfl) ?_
      refine f_nil ?_
      refine f_keep [0, 1, 18] ?_
      exact s35_j0 happ a0 a1 true p1.2
    · skip
      refine o_know 13 rfl (dec_false h3) ?_
      refine f_op rfl rfl (s_mv (v := .int .i64 a1) rfl) ?_
      refine f_op rfl rfl (s_mv (v := .sl a0) rfl) ?_
      refine f_op rfl rfl (s_lenS rfl Try.underlying35 rfl) ?_
      refine f_op rfl rfl (s_geq rfl rfl) ?_
      refine f_op rfl rfl (s_pickF (v := .bool (decide ((a0.len : Int) ≤ a1))) rfl rfl) ?_
      refine f_nil ?_
      refine f_keep [0, 1, 18] ?_
      exact s35_j0 happ a0 a1 (decide ((a0.len : Int) ≤ a1)) p1.2
  · skip
    refine o_know 9 rfl (bool_notF h2) ?_
    refine f_no rfl rfl ?_
    refine f_no rfl rfl ?_
    refine f_op rfl rfl (s_pickT (v := .bool true) rfl rfl) ?_
    refine f_op rfl rfl (s_mv (v := .bool true) rfl) ?_
    refine f_no rfl rfl ?_
    refine f_no rfl rfl ?_
    refine f_no rfl rfl ?_
    refine f_no rfl rfl ?_
    refine f_op rfl rfl (s_pickT (v := .bool true) rfl rfl) ?_
    refine f_nil ?_
    refine f_keep [0, 1, 18] ?_
    exact s35_j0 happ a0 a1 true p1.2

/- 36 congou/congouref05.Swap -/
theorem ok36 : FnOk Try.prog 36 := ⟨⟨Try.f36, Try.func36, by kernel_rfl, rfl⟩⟩
theorem s36_l0 : ∀ (k_ : Nat) (v1 : Sl) (v2 : Sl) (v3 : Int) (v4 : Int) (H : Hp), Fin Try.prog Try.f36 ret36 22 (todoAt (bodyOf Try.f36) [1, 1, 0, 1, 0, 0] []) [(3, .sl v1), (6, .sl v2), (7, .int .i64 v3), (8, .int .i64 v4)] H (r36_l0 k_ v1 v2 v3 v4 H) := by
  intro k_
  induction k_ with
  | zero => intro _ _ _ _ _; exact f_none
  | succ k_ ih =>
    intro v1 v2 v3 v4 H
    rw [r36_l0]
    refine f_seq ?_
    refine f_region ?_
    refine f_op rfl rfl (s_lss rfl rfl) ?_
    refine f_nil ?_
    refine f_seq ?_
    refine f_if (fun h1 => ?_) (fun h1 => ?_)
    · skip
      refine f_know 9 rfl (dec_true h1) ?_
      refine f_condT rfl ?_
      refine f_skip ?_
      refine f_seq ?_
      refine f_block ?_
      refine f_seq ?_
      refine f_region ?_
      refine o_ck fun g2 => ?_
      refine f_op rfl rfl (s_idx Try.underlying35 ty49 rfl rfl g2) ?_
      refine o_bind ?_; intro x3 hx3
      refine o_bind ?_; intro x4 hx4
      refine f_op rfl rfl (s_loads Try.underlying49 rfl ty49 rfl (lds_cons (ldI_eq hx3) (lds_cons (ldI_eq hx4) (lds_nil)))) ?_
      refine f_op rfl rfl (s_alloc (zs := [.int .i64 0, .int .i64 0]) ty49 rfl rfl) ?_
      refine o_bind ?_; intro H5 hH5
      refine f_op rfl rfl (s_stores ty49 rfl rfl rfl rfl hH5 (Nat.le_of_eq (sts_mono hH5).symm)) ?_
      refine f_nil ?_
      refine f_region ?_
      refine f_op rfl rfl (s_mv (v := .sl v1) rfl) ?_
      refine f_op rfl rfl (s_idxA Try.underlying49 ty3 rfl rfl (by decide)) ?_
      refine o_bind ?_; intro x6 hx6
      refine f_op rfl rfl (s_load Try.underlying3 rfl rfl (ldI_eq hx6)) ?_
      refine f_op rfl rfl (s_idxA Try.underlying49 ty3 rfl rfl (by decide)) ?_
      refine o_bind ?_; intro x7 hx7
      refine f_op rfl rfl (s_load Try.underlying3 rfl rfl (ldI_eq hx7)) ?_
      refine f_op rfl rfl (s_buildA (cs := [.int .i64 x6, .int .i64 x7]) Try.underlying49 ty49 ty3 rfl rfl) ?_
      refine f_op rfl rfl (s_buildSlice (cs := [.int .i64 x6, .int .i64 x7]) Try.underlying35 ty49 (by decide) (by decide) rfl (by decide) rfl) ?_
      refine o_bind ?_; intro x8 hx8
      refine f_op rfl rfl (s_ap rfl rfl Try.underlying35 Try.underlying35 ty49 rfl rfl rfl rfl rfl rfl rfl hx8) ?_
      refine f_op rfl rfl (s_as (v := .sl x8.1) rfl) ?_
      refine f_nil ?_
      refine f_inBlock ?_
      refine f_region ?_
      refine f_op rfl rfl (s_add rfl rfl) ?_
      refine f_op rfl rfl (s_mv (v := .int .i64 (w64 (v4 + 1))) rfl) ?_
      refine f_nil ?_
      refine f_inLoop ?_
      refine f_keep [3, 6, 7, 8] ?_
      exact ih x8.1 v2 v3 (w64 (v4 + 1)) x8.2
    · skip
      refine f_know 9 rfl (dec_false h1) ?_
      refine f_condF rfl ?_
      refine f_exit rfl ?_
      refine f_seq ?_
      refine f_region ?_
      refine f_op rfl rfl (s_mv (v := .sl v1) rfl) ?_
      refine f_op rfl rfl (s_as (v := .sl v1) rfl) ?_
      refine f_nil ?_
      exact f_ret (.tmp rfl (.nil)) rfl

theorem sim36 {a0 : Sl} {H : Hp} {p : Sl × Hp} (h : r36 a0 H = some p) : CallSim Try.prog 36 [.sl a0] H (.sl p.1) p.2 := by
  refine callSim (fn := Try.f36) (ret := ret36) Try.func36 rfl Try.ntmps36 rfl ?_ h
  unfold r36
  refine f_seq ?_
  refine f_region ?_
  refine f_op rfl rfl (s_as (v := .sl ⟨true, 0, 0, 0, 0, 0⟩) rfl) ?_
  refine f_nil ?_
  refine f_seq ?_
  refine f_region ?_
  refine f_op rfl rfl (s_as (v := .sl ⟨true, 0, 0, 0, 0, 0⟩) rfl) ?_
  refine f_nil ?_
  refine f_seq ?_
  refine f_seq ?_
  refine f_region ?_
  refine f_op rfl rfl (s_mv (v := .sl a0) rfl) ?_
  refine f_op rfl rfl (s_lenS rfl Try.underlying35 rfl) ?_
  refine f_op rfl rfl (s_mv (v := .int .i64 0) rfl) ?_
  refine f_nil ?_
  refine f_block ?_
  refine f_loop ?_
  refine f_keep [3, 6, 7, 8] ?_
  exact s36_l0 FUEL ⟨true, 0, 0, 0, 0, 0⟩ a0 (a0.len : Int) 0 H

/- 38 congou/congouref05.Scale -/
theorem ok38 : FnOk Try.prog 38 := ⟨⟨Try.f38, Try.func38, by kernel_rfl, rfl⟩⟩
theorem s38_j1 (kt0 : Int → Int → Sl → Sl → Int → Int → Hp → Option ((Sl × Int) × Hp)) (hkt0 : ∀ (v1 : Int) (v2 : Int) (v3 : Sl) (v4 : Sl) (v5 : Int) (v6 : Int) (H : Hp), Fin Try.prog Try.f38 ret38 43 (todoAt (bodyOf Try.f38) [1, 1, 0, 1, 0, 0] []) [(1, .int .i64 v1), (2, .int .i64 v2), (8, .sl v3), (11, .sl v4), (12, .int .i64 v5), (13, .int .i64 v6)] H (kt0 v1 v2 v3 v4 v5 v6 H)) (v1 : Int) (v2 : Int) (v3 : Sl) (v4 : Nat) (v5 : Sl) (v6 : Int) (v7 : Int) (v8 : Bool) (H : Hp) : Fin Try.prog Try.f38 ret38 43 (todoAt (bodyOf Try.f38) [1, 1, 0, 1, 0, 0, 1, 1, 0, 0, 1, 0, 1] []) [(1, .int .i64 v1), (2, .int .i64 v2), (8, .sl v3), (10, .ptr v4 0), (11, .sl v5), (12, .int .i64 v6), (13, .int .i64 v7), (28, .bool v8)] H (r38_j1 kt0 v1 v2 v3 v4 v5 v6 v7 v8 H) := by
  unfold r38_j1
  refine f_if (fun h1 => ?_) (fun h1 => ?_)
  · skip
    refine f_know 28 rfl (bool_T h1) ?_
    refine f_condT rfl ?_
    refine f_seq ?_
    refine f_region ?_
    refine f_op rfl rfl (s_as (v := .sl ⟨true, 0, 0, 0, 0, 0⟩) rfl) ?_
    refine f_op rfl rfl (s_as (v := .int .i64 4) rfl) ?_
    refine f_nil ?_
    exact f_ret (.tmp rfl (.tmp rfl (.nil))) rfl
  · skip
    refine f_know 28 rfl (bool_F h1) ?_
    refine f_condF rfl ?_
    refine f_skip ?_
    refine f_region ?_
    refine f_op rfl rfl (s_mv (v := .sl v3) rfl) ?_
    refine f_op rfl rfl (s_idxA Try.underlying49 ty3 rfl rfl (by decide)) ?_
    refine o_bind ?_; intro x2 hx2
    refine f_op rfl rfl (s_load Try.underlying3 rfl rfl (ldI_eq hx2)) ?_
    refine f_op rfl rfl (s_mv (v := .int .i64 v1) rfl) ?_
    refine f_op rfl rfl (s_mul rfl rfl) ?_
    refine f_op rfl rfl (s_idxA Try.underlying49 ty3 rfl rfl (by decide)) ?_
    refine o_bind ?_; intro x3 hx3
    refine f_op rfl rfl (s_load Try.underlying3 rfl rfl (ldI_eq hx3)) ?_
    refine f_op rfl rfl (s_mv (v := .int .i64 v2) rfl) ?_
    refine f_op rfl rfl (s_mul rfl rfl) ?_
    refine f_op rfl rfl (s_buildA (cs := [.int .i64 (w64 (x2 * v1)), .int .i64 (w64 (x3 * v2))]) Try.underlying49 ty49 ty3 rfl rfl) ?_
    refine f_op rfl rfl (s_buildSlice (cs := [.int .i64 (w64 (x2 * v1)), .int .i64 (w64 (x3 * v2))]) Try.underlying35 ty49 (by decide) (by decide) rfl (by decide) rfl) ?_
    refine o_bind ?_; intro x4 hx4
    refine f_op rfl rfl (s_ap rfl rfl Try.underlying35 Try.underlying35 ty49 rfl rfl rfl rfl rfl rfl rfl hx4) ?_
    refine f_op rfl rfl (s_as (v := .sl x4.1) rfl) ?_
    refine f_nil ?_
    refine f_inBlock ?_
    refine f_region ?_
    refine f_op rfl rfl (s_add rfl rfl) ?_
    refine f_op rfl rfl (s_mv (v := .int .i64 (w64 (v7 + 1))) rfl) ?_
    refine f_nil ?_
    refine f_inLoop ?_
    refine f_keep [1, 2, 8, 11, 12, 13] ?_
    exact hkt0 v1 v2 x4.1 v5 v6 (w64 (v7 + 1)) x4.2

theorem s38_l0 : ∀ (k_ : Nat) (v1 : Int) (v2 : Int) (v3 : Sl) (v4 : Sl) (v5 : Int) (v6 : Int) (H : Hp), Fin Try.prog Try.f38 ret38 43 (todoAt (bodyOf Try.f38) [1, 1, 0, 1, 0, 0] []) [(1, .int .i64 v1), (2, .int .i64 v2), (8, .sl v3), (11, .sl v4), (12, .int .i64 v5), (13, .int .i64 v6)] H (r38_l0 k_ v1 v2 v3 v4 v5 v6 H) := by
  intro k_
  induction k_ with
  | zero => intro _ _ _ _ _ _ _; exact f_none
  | succ k_ ih =>
    intro v1 v2 v3 v4 v5 v6 H
    rw [r38_l0]
    refine f_seq ?_
    refine f_region ?_
    refine f_op rfl rfl (s_lss rfl rfl) ?_
    refine f_nil ?_
    refine f_seq ?_
    refine f_if (fun h1 => ?_) (fun h1 => ?_)
    · skip
      refine f_know 14 rfl (dec_true h1) ?_
      refine f_condT rfl ?_
      refine f_skip ?_
      refine f_seq ?_
      refine f_block ?_
      refine f_seq ?_
      refine f_region ?_
      refine o_ck fun g2 => ?_
      refine f_op rfl rfl (s_idx Try.underlying35 ty49 rfl rfl g2) ?_
      refine o_bind ?_; intro x3 hx3
      refine o_bind ?_; intro x4 hx4
      refine f_op rfl rfl (s_loads Try.underlying49 rfl ty49 rfl (lds_cons (ldI_eq hx3) (lds_cons (ldI_eq hx4) (lds_nil)))) ?_
      refine f_op rfl rfl (s_alloc (zs := [.int .i64 0, .int .i64 0]) ty49 rfl rfl) ?_
      refine o_bind ?_; intro H5 hH5
      refine f_op rfl rfl (s_stores ty49 rfl rfl rfl rfl hH5 (Nat.le_of_eq (sts_mono hH5).symm)) ?_
      refine f_nil ?_
      refine f_seq ?_
      refine f_seq ?_
      refine f_region ?_
      refine f_op rfl rfl (s_idxA Try.underlying49 ty3 rfl rfl (by decide)) ?_
      refine o_bind ?_; intro x6 hx6
      refine f_op rfl rfl (s_load Try.underlying3 rfl rfl (ldI_eq hx6)) ?_
      refine f_op rfl rfl (s_mv (v := .int .i64 v1) rfl) ?_
      refine f_op rfl rfl (s_mul rfl rfl) ?_
      refine f_op rfl rfl (s_gtr rfl rfl) ?_
      refine f_op rfl rfl (s_mv (v := .bool (decide (30 < (w64 (x6 * v1))))) rfl) ?_
      refine o_if (fun h7 => ?_) (fun h7 => ?_)
      · skip
        refine o_know 22 rfl (dec_true h7) ?_
        refine f_no rfl rfl ?_
        refine f_no rfl rfl ?_
        refine f_no rfl rfl ?_
        refine f_no rfl rfl ?_
        refine f_no rfl rfl ?_
        refine f_op rfl rfl (s_pickT (v := .bool true) rfl rfl) ?_
        refine f_nil ?_
        refine f_keep [1, 2, 8, 10, 11, 12, 13, 28] ?_
        exact s38_j1 _ (fun v1_ v2_ v3_ v4_ v5_ v6_ H_ => ih v1_ v2_ v3_ v4_ v5_ v6_ H_) v1 v2 v3 H.n v4 v5 v6 true H5
      · skip
        refine o_know 22 rfl (dec_false h7) ?_
        refine f_op rfl rfl (s_idxA Try.underlying49 ty3 rfl rfl (by decide)) ?_
        refine o_bind ?_; intro x8 hx8
        refine f_op rfl rfl (s_load Try.underlying3 rfl rfl (ldI_eq hx8)) ?_
        refine f_op rfl rfl (s_mv (v := .int .i64 v2) rfl) ?_
        refine f_op rfl rfl (s_mul rfl rfl) ?_
        refine f_op rfl rfl (s_gtr rfl rfl) ?_
        refine f_op rfl rfl (s_pickF (v := .bool (decide (30 < (w64 (x8 * v2))))) rfl rfl) ?_
        refine f_nil ?_
        refine f_keep [1, 2, 8, 10, 11, 12, 13, 28] ?_
        exact s38_j1 _ (fun v1_ v2_ v3_ v4_ v5_ v6_ H_ => ih v1_ v2_ v3_ v4_ v5_ v6_ H_) v1 v2 v3 H.n v4 v5 v6 (decide (30 < (w64 (x8 * v2)))) H5
    · skip
      refine f_know 14 rfl (dec_false h1) ?_
      refine f_condF rfl ?_
      refine f_exit rfl ?_
      refine f_seq ?_
      refine f_region ?_
      refine f_op rfl rfl (s_mv (v := .sl v3) rfl) ?_
      refine f_op rfl rfl (s_as (v := .sl v3) rfl) ?_
      refine f_op rfl rfl (s_as (v := .int .i64 0) rfl) ?_
      refine f_nil ?_
      exact f_ret (.tmp rfl (.tmp rfl (.nil))) rfl

theorem sim38 {a0 : Sl} {a1 : Int} {a2 : Int} {H : Hp} {p : (Sl × Int) × Hp} (h : r38 a0 a1 a2 H = some p) : CallSim Try.prog 38 [.sl a0, .int .i64 a1, .int .i64 a2] H (.tup [.sl p.1.1, .int .i64 p.1.2]) p.2 := by
  refine callSim (fn := Try.f38) (ret := ret38) Try.func38 rfl Try.ntmps38 rfl ?_ h
  unfold r38
  refine f_seq ?_
  refine f_region ?_
  refine f_op rfl rfl (s_as (v := .sl ⟨true, 0, 0, 0, 0, 0⟩) rfl) ?_
  refine f_op rfl rfl (s_as (v := .int .i64 0) rfl) ?_
  refine f_nil ?_
  refine f_seq ?_
  refine f_region ?_
  refine f_op rfl rfl (s_as (v := .sl ⟨true, 0, 0, 0, 0, 0⟩) rfl) ?_
  refine f_nil ?_
  refine f_seq ?_
  refine f_seq ?_
  refine f_region ?_
  refine f_op rfl rfl (s_mv (v := .sl a0) rfl) ?_
  refine f_op rfl rfl (s_lenS rfl Try.underlying35 rfl) ?_
  refine f_op rfl rfl (s_mv (v := .int .i64 0) rfl) ?_
  refine f_nil ?_
  refine f_block ?_
  refine f_loop ?_
  refine f_keep [1, 2, 8, 11, 12, 13] ?_
  exact s38_l0 FUEL a1 a2 ⟨true, 0, 0, 0, 0, 0⟩ a0 (a0.len : Int) 0 H

/- 8 congou/congoulaw05.DealsScales -/
theorem ok8 : FnOk Try.prog 8 := ⟨⟨Try.f8, Try.func8, by kernel_rfl, rfl⟩⟩
theorem s8_j4 {app : App} (happ : AppSim Try.prog app) (v1 : Sl) (v2 : Int) (v3 : Int) (v4 : Sl) (v5 : Int) (v6 : Bool) (H : Hp) : Fin Try.prog Try.f8 ret8 154 (todoAt (bodyOf Try.f8) [1, 1, 1, 1, 1, 1, 1, 0, 1] []) [(0, .sl v1), (1, .int .i64 v2), (2, .int .i64 v3), (9, .sl v4), (10, .int .i64 v5), (131, .bool v6)] H (r8_j4 app v1 v2 v3 v4 v5 v6 H) := by
  unfold r8_j4
  refine f_if (fun h1 => ?_) (fun h1 => ?_)
  · skip
    refine f_know 131 rfl (bool_T h1) ?_
    refine f_condT rfl ?_
    refine f_seq ?_
    refine f_region ?_
    refine f_op rfl rfl (s_mv (v := .sl v4) rfl) ?_
    refine f_op rfl rfl (s_lenS rfl Try.underlying35 rfl) ?_
    refine f_op rfl rfl (s_eql rfl rfl) ?_
    refine f_op rfl rfl (s_mv (v := .bool (decide ((v4.len : Int) = 0))) rfl) ?_
    refine o_if (fun h2 => ?_) (fun h2 => ?_)
    · skip
      refine o_know 135 rfl (dec_true h2) ?_
      refine f_op rfl rfl (s_mv (v := .int .i64 v5) rfl) ?_
      refine f_op rfl rfl (s_eql rfl rfl) ?_
      refine f_op rfl rfl (s_pickT (v := .bool (decide (v5 = 2))) rfl rfl) ?_
      refine f_op rfl rfl (s_as (v := .bool (decide (v5 = 2))) rfl) ?_
      refine f_nil ?_
      exact f_ret (.tmp rfl (.nil)) rfl
    · skip
      refine o_know 135 rfl (dec_false h2) ?_
      refine f_no rfl rfl ?_
      refine f_no rfl rfl ?_
      refine f_op rfl rfl (s_pickF (v := .bool false) rfl rfl) ?_
      refine f_op rfl rfl (s_as (v := .bool false) rfl) ?_
      refine f_nil ?_
      exact f_ret (.tmp rfl (.nil)) rfl
  · skip
    refine f_know 131 rfl (bool_F h1) ?_
    refine f_condF rfl ?_
    refine f_skip ?_
    refine f_seq ?_
    refine f_region ?_
    refine f_op rfl rfl (s_mv (v := .sl v1) rfl) ?_
    refine f_op rfl rfl (s_mv (v := .int .i64 v2) rfl) ?_
    refine f_op rfl rfl (s_mv (v := .int .i64 v3) rfl) ?_
    refine o_bind ?_; intro p3 hp3
    refine f_op rfl rfl (s_callF rfl ok38 (sim38 hp3)) ?_
    refine f_op rfl rfl (s_mv (v := .tup [.sl p3.1.1, .int .i64 p3.1.2]) rfl) ?_
    refine f_op rfl rfl (s_extract (r := .sl p3.1.1) rfl rfl) ?_
    refine f_op rfl rfl (s_extract (r := .int .i64 p3.1.2) rfl rfl) ?_
    refine f_op rfl rfl (s_as (v := .sl p3.1.1) rfl) ?_
    refine f_op rfl rfl (s_as (v := .int .i64 p3.1.2) rfl) ?_
    refine f_nil ?_
    refine f_seq ?_
    refine f_region ?_
    refine f_op rfl rfl (s_mv (v := .sl v4) rfl) ?_
    refine f_op rfl rfl (s_mv (v := .sl p3.1.1) rfl) ?_
    refine o_bind ?_; intro p4 hp4
    refine f_op rfl rfl (s_callF rfl ok30 (sim30 hp4)) ?_
    refine f_op rfl rfl (s_mv (v := .bool p4.1) rfl) ?_
    refine o_if (fun h5 => ?_) (fun h5 => ?_)
    · skip
      refine o_know 149 rfl (bool_T h5) ?_
      refine f_op rfl rfl (s_mv (v := .int .i64 v5) rfl) ?_
      refine f_op rfl rfl (s_mv (v := .int .i64 p3.1.2) rfl) ?_
      refine f_op rfl rfl (s_eql rfl rfl) ?_
      refine f_op rfl rfl (s_pickT (v := .bool (decide (v5 = p3.1.2))) rfl rfl) ?_
      refine f_op rfl rfl (s_as (v := .bool (decide (v5 = p3.1.2))) rfl) ?_
      refine f_nil ?_
      exact f_ret (.tmp rfl (.nil)) rfl
    · skip
      refine o_know 149 rfl (bool_F h5) ?_
      refine f_no rfl rfl ?_
      refine f_no rfl rfl ?_
      refine f_no rfl rfl ?_
      refine f_op rfl rfl (s_pickF (v := .bool false) rfl rfl) ?_
      refine f_op rfl rfl (s_as (v := .bool false) rfl) ?_
      refine f_nil ?_
      exact f_ret (.tmp rfl (.nil)) rfl

theorem s8_j6 {app : App} (happ : AppSim Try.prog app) (v1 : Sl) (v2 : Int) (v3 : Int) (v4 : Sl) (v5 : Int) (H : Hp) : Fin Try.prog Try.f8 ret8 154 (todoAt (bodyOf Try.f8) [1, 1, 1, 1, 1, 1, 1] []) [(0, .sl v1), (1, .int .i64 v2), (2, .int .i64 v3), (9, .sl v4), (10, .int .i64 v5)] H (r8_j6 app v1 v2 v3 v4 v5 H) := by
  unfold r8_j6
  refine f_seq ?_
  refine f_seq ?_
  refine f_region ?_
  refine f_op rfl rfl (s_mv (v := .int .i64 v2) rfl) ?_
  refine f_op rfl rfl (s_lss rfl rfl) ?_
  refine f_op rfl rfl (s_mv (v := .bool (decide (v2 < 1))) rfl) ?_
  refine o_if (fun h1 => ?_) (fun h1 => ?_)
  · skip
    refine o_know 120 rfl (dec_true h1) ?_
    refine f_no rfl rfl ?_
    refine f_no rfl rfl ?_
    refine f_op rfl rfl (s_pickT (v := .bool true) rfl rfl) ?_
    refine f_op rfl rfl (s_mv (v := .bool true) rfl) ?_
    refine f_no rfl rfl ?_
    refine f_no rfl rfl ?_
    refine f_op rfl rfl (s_pickT (v := .bool true) rfl rfl) ?_
    refine f_op rfl rfl (s_mv (v := .bool true) rfl) ?_
    refine f_no rfl rfl ?_
    refine f_no rfl rfl ?_
    refine f_op rfl rfl (s_pickT (v := .bool true) rfl rfl) ?_
    refine f_nil ?_
    refine f_keep [0, 1, 2, 9, 10, 131] ?_
    exact s8_j4 happ v1 v2 v3 v4 v5 true H
  · skip
    refine o_know 120 rfl (dec_false h1) ?_
    refine f_op rfl rfl (s_mv (v := .int .i64 v2) rfl) ?_
    refine f_op rfl rfl (s_gtr rfl rfl) ?_
    refine f_op rfl rfl (s_pickF (v := .bool (decide (30 < v2))) rfl rfl) ?_
    refine f_op rfl rfl (s_mv (v := .bool (decide (30 < v2))) rfl) ?_
    refine o_if (fun h2 => ?_) (fun h2 => ?_)
    · skip
      refine o_know 124 rfl (dec_true h2) ?_
      refine f_no rfl rfl ?_
      refine f_no rfl rfl ?_
      refine f_op rfl rfl (s_pickT (v := .bool true) rfl rfl) ?_
      refine f_op rfl rfl (s_mv (v := .bool true) rfl) ?_
      refine f_no rfl rfl ?_
      refine f_no rfl rfl ?_
      refine f_op rfl rfl (s_pickT (v := .bool true) rfl rfl) ?_
      refine f_nil ?_
      refine f_keep [0, 1, 2, 9, 10, 131] ?_
      exact s8_j4 happ v1 v2 v3 v4 v5 true H
    · skip
      refine o_know 124 rfl (dec_false h2) ?_
      refine f_op rfl rfl (s_mv (v := .int .i64 v3) rfl) ?_
      refine f_op rfl rfl (s_lss rfl rfl) ?_
      refine f_op rfl rfl (s_pickF (v := .bool (decide (v3 < 1))) rfl rfl) ?_
      refine f_op rfl rfl (s_mv (v := .bool (decide (v3 < 1))) rfl) ?_
      refine o_if (fun h3 => ?_) (fun h3 => ?_)
      · skip
        refine o_know 128 rfl (dec_true h3) ?_
        refine f_no rfl rfl ?_
        refine f_no rfl rfl ?_
        refine f_op rfl rfl (s_pickT (v := .bool true) rfl rfl) ?_
        refine f_nil ?_
        refine f_keep [0, 1, 2, 9, 10, 131] ?_
        exact s8_j4 happ v1 v2 v3 v4 v5 true H
      · skip
        refine o_know 128 rfl (dec_false h3) ?_
        refine f_op rfl rfl (s_mv (v := .int .i64 v3) rfl) ?_
        refine f_op rfl rfl (s_gtr rfl rfl) ?_
        refine f_op rfl rfl (s_pickF (v := .bool (decide (30 < v3))) rfl rfl) ?_
        refine f_nil ?_
        refine f_keep [0, 1, 2, 9, 10, 131] ?_
        exact s8_j4 happ v1 v2 v3 v4 v5 (decide (30 < v3)) H

theorem s8_j1 {app : App} (happ : AppSim Try.prog app) (v1 : Sl) (v2 : Int) (v3 : Int) (v4 : Sl) (v5 : Int) (v6 : Bool) (H : Hp) : Fin Try.prog Try.f8 ret8 154 (todoAt (bodyOf Try.f8) [1, 1, 1, 1, 1, 1, 0, 0, 1, 0, 1] []) [(0, .sl v1), (1, .int .i64 v2), (2, .int .i64 v3), (9, .sl v4), (10, .int .i64 v5), (106, .bool v6)] H (r8_j1 app v1 v2 v3 v4 v5 v6 H) := by
  unfold r8_j1
  refine f_if (fun h1 => ?_) (fun h1 => ?_)
  · skip
    refine f_know 106 rfl (bool_T h1) ?_
    refine f_condT rfl ?_
    refine f_seq ?_
    refine f_region ?_
    refine f_op rfl rfl (s_as (v := .bool false) rfl) ?_
    refine f_nil ?_
    exact f_ret (.tmp rfl (.nil)) rfl
  · skip
    refine f_know 106 rfl (bool_F h1) ?_
    refine f_condF rfl ?_
    refine f_skip ?_
    refine f_inBlock ?_
    refine f_keep [0, 1, 2, 9, 10] ?_
    exact s8_j6 happ v1 v2 v3 v4 v5 H

theorem s8_j3 {app : App} (happ : AppSim Try.prog app) (v1 : Sl) (v2 : Int) (v3 : Int) (v4 : Sl) (v5 : Int) (v6 : Bool) (H : Hp) : Fin Try.prog Try.f8 ret8 154 (todoAt (bodyOf Try.f8) [1, 1, 1, 1, 1, 1, 0, 0, 1, 1, 1, 0, 1] []) [(0, .sl v1), (1, .int .i64 v2), (2, .int .i64 v3), (9, .sl v4), (10, .int .i64 v5), (117, .bool v6)] H (r8_j3 app v1 v2 v3 v4 v5 v6 H) := by
  unfold r8_j3
  refine f_if (fun h1 => ?_) (fun h1 => ?_)
  · skip
    refine f_know 117 rfl (bool_T h1) ?_
    refine f_condT rfl ?_
    refine f_seq ?_
    refine f_region ?_
    refine f_op rfl rfl (s_as (v := .bool false) rfl) ?_
    refine f_nil ?_
    exact f_ret (.tmp rfl (.nil)) rfl
  · skip
    refine f_know 117 rfl (bool_F h1) ?_
    refine f_condF rfl ?_
    refine f_skip ?_
    refine f_inBlock ?_
    refine f_keep [0, 1, 2, 9, 10] ?_
    exact s8_j6 happ v1 v2 v3 v4 v5 H

theorem s8_j5 {app : App} (happ : AppSim Try.prog app) (v1 : Sl) (v2 : Int) (v3 : Int) (v4 : Sl) (v5 : Int) (v6 : Bool) (H : Hp) : Fin Try.prog Try.f8 ret8 154 (todoAt (bodyOf Try.f8) [1, 1, 1, 1, 1, 1, 0, 0, 1, 1, 1, 1, 1] []) [(0, .sl v1), (1, .int .i64 v2), (2, .int .i64 v3), (9, .sl v4), (10, .int .i64 v5), (90, .bool v6)] H (r8_j5 app v1 v2 v3 v4 v5 v6 H) := by
  unfold r8_j5
  refine f_if (fun h1 => ?_) (fun h1 => ?_)
  · skip
    refine f_know 90 rfl (bool_T h1) ?_
    refine f_condT rfl ?_
    refine f_seq ?_
    refine f_region ?_
    refine f_op rfl rfl (s_as (v := .bool false) rfl) ?_
    refine f_nil ?_
    exact f_ret (.tmp rfl (.nil)) rfl
  · skip
    refine f_know 90 rfl (bool_F h1) ?_
    refine f_condF rfl ?_
    refine f_skip ?_
    refine f_inBlock ?_
    refine f_keep [0, 1, 2, 9, 10] ?_
    exact s8_j6 happ v1 v2 v3 v4 v5 H

theorem s8_j2 {app : App} (happ : AppSim Try.prog app) (v1 : Sl) (v2 : Int) (v3 : Int) (v4 : Int) (v5 : Sl) (v6 : Int) (v7 : Sl) (v8 : Int) (v9 : Bool) (H : Hp) : Fin Try.prog Try.f8 ret8 154 (todoAt (bodyOf Try.f8) [1, 1, 1, 1, 1, 1, 0, 0, 1] []) [(0, .sl v1), (1, .int .i64 v2), (2, .int .i64 v3), (3, .int .i64 v4), (9, .sl v5), (10, .int .i64 v6), (13, .sl v7), (14, .int .i64 v8), (91, .bool v9)] H (r8_j2 app v1 v2 v3 v4 v5 v6 v7 v8 v9 H) := by
  unfold r8_j2
  refine f_if (fun h1 => ?_) (fun h1 => ?_)
  · skip
    refine f_know 91 rfl (bool_T h1) ?_
    refine f_condT rfl ?_
    refine f_seq ?_
    refine f_region ?_
    refine f_op rfl rfl (s_mv (v := .sl v7) rfl) ?_
    refine f_op rfl rfl (s_lenS rfl Try.underlying35 rfl) ?_
    refine f_op rfl rfl (s_neq rfl rfl) ?_
    refine f_op rfl rfl (s_mv (v := .bool (decide ((v7.len : Int) ≠ 0))) rfl) ?_
    refine o_if (fun h2 => ?_) (fun h2 => ?_)
    · skip
      refine o_know 103 rfl (dec_true h2) ?_
      refine f_no rfl rfl ?_
      refine f_no rfl rfl ?_
      refine f_op rfl rfl (s_pickT (v := .bool true) rfl rfl) ?_
      refine f_nil ?_
      refine f_keep [0, 1, 2, 9, 10, 106] ?_
      exact s8_j1 happ v1 v2 v3 v5 v6 true H
    · skip
      refine o_know 103 rfl (dec_false h2) ?_
      refine f_op rfl rfl (s_mv (v := .int .i64 v8) rfl) ?_
      refine f_op rfl rfl (s_neq rfl rfl) ?_
      refine f_op rfl rfl (s_pickF (v := .bool (decide (v8 ≠ 2))) rfl rfl) ?_
      refine f_nil ?_
      refine f_keep [0, 1, 2, 9, 10, 106] ?_
      exact s8_j1 happ v1 v2 v3 v5 v6 (decide (v8 ≠ 2)) H
  · skip
    refine f_know 91 rfl (bool_F h1) ?_
    refine f_condF rfl ?_
    refine f_seq ?_
    refine f_region ?_
    refine f_op rfl rfl (s_mv (v := .sl v1) rfl) ?_
    refine f_op rfl rfl (s_lenS rfl Try.underlying35 rfl) ?_
    refine f_op rfl rfl (s_eql rfl rfl) ?_
    refine f_op rfl rfl (s_as (v := .bool (decide ((v1.len : Int) = 1))) rfl) ?_
    refine f_nil ?_
    refine f_if (fun h3 => ?_) (fun h3 => ?_)
    · skip
      refine f_know 107 rfl (dec_true h3) ?_
      refine f_condT rfl ?_
      refine f_seq ?_
      refine f_region ?_
      refine f_op rfl rfl (s_mv (v := .sl v7) rfl) ?_
      refine f_op rfl rfl (s_lenS rfl Try.underlying35 rfl) ?_
      refine f_op rfl rfl (s_neq rfl rfl) ?_
      refine f_op rfl rfl (s_mv (v := .bool (decide ((v7.len : Int) ≠ 0))) rfl) ?_
      refine o_if (fun h4 => ?_) (fun h4 => ?_)
      · skip
        refine o_know 114 rfl (dec_true h4) ?_
        refine f_no rfl rfl ?_
        refine f_no rfl rfl ?_
        refine f_op rfl rfl (s_pickT (v := .bool true) rfl rfl) ?_
        refine f_nil ?_
        refine f_keep [0, 1, 2, 9, 10, 117] ?_
        exact s8_j3 happ v1 v2 v3 v5 v6 true H
      · skip
        refine o_know 114 rfl (dec_false h4) ?_
        refine f_op rfl rfl (s_mv (v := .int .i64 v8) rfl) ?_
        refine f_op rfl rfl (s_neq rfl rfl) ?_
        refine f_op rfl rfl (s_pickF (v := .bool (decide (v8 ≠ 4))) rfl rfl) ?_
        refine f_nil ?_
        refine f_keep [0, 1, 2, 9, 10, 117] ?_
        exact s8_j3 happ v1 v2 v3 v5 v6 (decide (v8 ≠ 4)) H
    · skip
      refine f_know 107 rfl (dec_false h3) ?_
      refine f_condF rfl ?_
      refine f_seq ?_
      refine f_region ?_
      refine f_op rfl rfl (s_mv (v := .sl v7) rfl) ?_
      refine f_op rfl rfl (s_mv (v := .sl v1) rfl) ?_
      refine o_bind ?_; intro p5 hp5
      refine f_op rfl rfl (s_callF rfl ok24 (sim24 hp5)) ?_
      refine f_op rfl rfl (s_mv (v := .int .i64 v4) rfl) ?_
      refine f_op rfl rfl (s_mv (v := .int .i64 v4) rfl) ?_
      refine f_op rfl rfl (s_add rfl rfl) ?_
      refine o_bind ?_; intro p6 hp6
      refine f_op rfl rfl (s_callF rfl ok37 (sim37 hp6)) ?_
      refine o_bind ?_; intro p7 hp7
      refine f_op rfl rfl (s_callF rfl ok30 (sim30 hp7)) ?_
      refine f_op rfl rfl (s_not rfl) ?_
      refine f_op rfl rfl (s_mv (v := .bool (!p7.1)) rfl) ?_
      refine o_if (fun h8 => ?_) (fun h8 => ?_)
      · skip
        refine o_know 87 rfl (bool_notT h8) ?_
        refine f_op rfl rfl (s_mv (v := .int .i64 v8) rfl) ?_
        refine f_op rfl rfl (s_neq rfl rfl) ?_
        refine f_op rfl rfl (s_pickF (v := .bool (decide (v8 ≠ 0))) rfl rfl) ?_
        refine f_nil ?_
        refine f_keep [0, 1, 2, 9, 10, 90] ?_
        exact s8_j5 happ v1 v2 v3 v5 v6 (decide (v8 ≠ 0)) p7.2
      · skip
        refine o_know 87 rfl (bool_notF h8) ?_
        refine f_no rfl rfl ?_
        refine f_no rfl rfl ?_
        refine f_op rfl rfl (s_pickT (v := .bool true) rfl rfl) ?_
        refine f_nil ?_
        refine f_keep [0, 1, 2, 9, 10, 90] ?_
        exact s8_j5 happ v1 v2 v3 v5 v6 true p7.2

theorem s8_j0 {app : App} (happ : AppSim Try.prog app) (v1 : Sl) (v2 : Int) (v3 : Int) (v4 : Int) (v5 : Sl) (v6 : Int) (v7 : Sl) (v8 : Int) (v9 : Bool) (H : Hp) : Fin Try.prog Try.f8 ret8 154 (todoAt (bodyOf Try.f8) [1, 1, 1, 1, 1, 0, 1] []) [(0, .sl v1), (1, .int .i64 v2), (2, .int .i64 v3), (3, .int .i64 v4), (9, .sl v5), (10, .int .i64 v6), (13, .sl v7), (14, .int .i64 v8), (77, .bool v9)] H (r8_j0 app v1 v2 v3 v4 v5 v6 v7 v8 v9 H) := by
  unfold r8_j0
  refine f_if (fun h1 => ?_) (fun h1 => ?_)
  · skip
    refine f_know 77 rfl (bool_T h1) ?_
    refine f_condT rfl ?_
    refine f_seq ?_
    refine f_region ?_
    refine f_op rfl rfl (s_as (v := .bool false) rfl) ?_
    refine f_nil ?_
    exact f_ret (.tmp rfl (.nil)) rfl
  · skip
    refine f_know 77 rfl (bool_F h1) ?_
    refine f_condF rfl ?_
    refine f_skip ?_
    refine f_seq ?_
    refine f_block ?_
    refine f_seq ?_
    refine f_region ?_
    refine f_op rfl rfl (s_mv (v := .int .i64 v4) rfl) ?_
    refine f_op rfl rfl (s_lss rfl rfl) ?_
    refine f_op rfl rfl (s_mv (v := .bool (decide (v4 < 0))) rfl) ?_
    refine o_if (fun h2 => ?_) (fun h2 => ?_)
    · skip
      refine o_know 94 rfl (dec_true h2) ?_
      refine f_no rfl rfl ?_
      refine f_no rfl rfl ?_
      refine f_no rfl rfl ?_
      refine f_no rfl rfl ?_
      refine f_op rfl rfl (s_pickT (v := .bool true) rfl rfl) ?_
      refine f_op rfl rfl (s_as (v := .bool true) rfl) ?_
      refine f_nil ?_
      refine f_keep [0, 1, 2, 3, 9, 10, 13, 14, 91] ?_
      exact s8_j2 happ v1 v2 v3 v4 v5 v6 v7 v8 true H
    · skip
      refine o_know 94 rfl (dec_false h2) ?_
      refine f_op rfl rfl (s_mv (v := .int .i64 v4) rfl) ?_
      refine f_op rfl rfl (s_mv (v := .sl v1) rfl) ?_
      refine f_op rfl rfl (s_lenS rfl Try.underlying35 rfl) ?_
      refine f_op rfl rfl (s_geq rfl rfl) ?_
      refine f_op rfl rfl (s_pickF (v := .bool (decide ((v1.len : Int) ≤ v4))) rfl rfl) ?_
      refine f_op rfl rfl (s_as (v := .bool (decide ((v1.len : Int) ≤ v4))) rfl) ?_
      refine f_nil ?_
      refine f_keep [0, 1, 2, 3, 9, 10, 13, 14, 91] ?_
      exact s8_j2 happ v1 v2 v3 v4 v5 v6 v7 v8 (decide ((v1.len : Int) ≤ v4)) H

theorem sim8 {app : App} (happ : AppSim Try.prog app) {a0 : Sl} {a1 : Int} {a2 : Int} {a3 : Int} {H : Hp} {p : Bool × Hp} (h : r8 app a0 a1 a2 a3 H = some p) : CallSim Try.prog 8 [.sl a0, .int .i64 a1, .int .i64 a2, .int .i64 a3] H (.bool p.1) p.2 := by
  refine callSim (fn := Try.f8) (ret := ret8) Try.func8 rfl Try.ntmps8 rfl ?_ h
  unfold r8
  refine f_seq ?_
  refine f_region ?_
  refine f_op rfl rfl (s_as (v := .bool false) rfl) ?_
  refine f_nil ?_
  refine f_seq ?_
  refine f_region ?_
  refine f_op rfl rfl (s_mv (v := .sl a0) rfl) ?_
  refine o_bind ?_; intro p1 hp1
  refine f_op rfl rfl (s_callF rfl ok24 (sim24 hp1)) ?_
  refine f_op rfl rfl (s_mv (v := .int .i64 a1) rfl) ?_
  refine f_op rfl rfl (s_mv (v := .int .i64 a2) rfl) ?_
  refine o_bind ?_; intro p2 hp2
  refine f_op rfl rfl (s_callF rfl ok33 (sim33 happ hp2)) ?_
  refine f_op rfl rfl (s_mv (v := .tup [.sl p2.1.1, .int .i64 p2.1.2]) rfl) ?_
  refine f_op rfl rfl (s_extract (r := .sl p2.1.1) rfl rfl) ?_
  refine f_op rfl rfl (s_extract (r := .int .i64 p2.1.2) rfl rfl) ?_
  refine f_op rfl rfl (s_as (v := .sl p2.1.1) rfl) ?_
  refine f_op rfl rfl (s_as (v := .int .i64 p2.1.2) rfl) ?_
  refine f_nil ?_
  refine f_seq ?_
  refine f_region ?_
  refine f_op rfl rfl (s_mv (v := .sl a0) rfl) ?_
  refine o_bind ?_; intro p3 hp3
  refine f_op rfl rfl (s_callF rfl ok24 (sim24 hp3)) ?_
  refine o_bind ?_; intro p4 hp4
  refine f_op rfl rfl (s_callF rfl ok34 (sim34 happ hp4)) ?_
  refine f_op rfl rfl (s_mv (v := .tup [.sl p4.1.1, .int .i64 p4.1.2]) rfl) ?_
  refine f_op rfl rfl (s_extract (r := .sl p4.1.1) rfl rfl) ?_
  refine f_op rfl rfl (s_extract (r := .int .i64 p4.1.2) rfl rfl) ?_
  refine f_op rfl rfl (s_as (v := .sl p4.1.1) rfl) ?_
  refine f_op rfl rfl (s_as (v := .int .i64 p4.1.2) rfl) ?_
  refine f_nil ?_
  refine f_seq ?_
  refine f_region ?_
  refine f_op rfl rfl (s_mv (v := .sl a0) rfl) ?_
  refine o_bind ?_; intro p5 hp5
  refine f_op rfl rfl (s_callF rfl ok24 (sim24 hp5)) ?_
  refine f_op rfl rfl (s_mv (v := .int .i64 a3) rfl) ?_
  refine o_bind ?_; intro p6 hp6
  refine f_op rfl rfl (s_callF rfl ok35 (sim35 happ hp6)) ?_
  refine f_op rfl rfl (s_mv (v := .tup [.sl p6.1.1, .int .i64 p6.1.2]) rfl) ?_
  refine f_op rfl rfl (s_extract (r := .sl p6.1.1) rfl rfl) ?_
  refine f_op rfl rfl (s_extract (r := .int .i64 p6.1.2) rfl rfl) ?_
  refine f_op rfl rfl (s_as (v := .sl p6.1.1) rfl) ?_
  refine f_op rfl rfl (s_as (v := .int .i64 p6.1.2) rfl) ?_
  refine f_nil ?_
  refine f_seq ?_
  refine f_seq ?_
  refine f_region ?_
  refine f_op rfl rfl (s_mv (v := .sl a0) rfl) ?_
  refine o_bind ?_; intro p7 hp7
  refine f_op rfl rfl (s_callF rfl ok26 (sim26 hp7)) ?_
  refine f_op rfl rfl (s_not rfl) ?_
  refine f_nil ?_
  refine f_if (fun h8 => ?_) (fun h8 => ?_)
  · skip
    refine f_know 40 rfl (bool_notT h8) ?_
    refine f_condF rfl ?_
    refine f_skip ?_
    refine f_seq ?_
    refine f_seq ?_
    refine f_region ?_
    refine f_op rfl rfl (s_mv (v := .sl p4.1.1) rfl) ?_
    refine f_op rfl rfl (s_mv (v := .sl a0) rfl) ?_
    refine o_bind ?_; intro p9 hp9
    refine f_op rfl rfl (s_callF rfl ok36 (sim36 hp9)) ?_
    refine o_bind ?_; intro p10 hp10
    refine f_op rfl rfl (s_callF rfl ok30 (sim30 hp10)) ?_
    refine f_op rfl rfl (s_not rfl) ?_
    refine f_op rfl rfl (s_mv (v := .bool (!p10.1)) rfl) ?_
    refine o_if (fun h11 => ?_) (fun h11 => ?_)
    · skip
      refine o_know 70 rfl (bool_notT h11) ?_
      refine f_op rfl rfl (s_mv (v := .int .i64 p4.1.2) rfl) ?_
      refine f_op rfl rfl (s_neq rfl rfl) ?_
      refine f_op rfl rfl (s_pickF (v := .bool (decide (p4.1.2 ≠ 0))) rfl rfl) ?_
      refine f_op rfl rfl (s_mv (v := .bool (decide (p4.1.2 ≠ 0))) rfl) ?_
      refine o_if (fun h12 => ?_) (fun h12 => ?_)
      · skip
        refine o_know 74 rfl (dec_true h12) ?_
        refine f_no rfl rfl ?_
        refine f_no rfl rfl ?_
        refine f_op rfl rfl (s_pickT (v := .bool true) rfl rfl) ?_
        refine f_nil ?_
        refine f_keep [0, 1, 2, 3, 9, 10, 13, 14, 77] ?_
        exact s8_j0 happ a0 a1 a2 a3 p2.1.1 p2.1.2 p6.1.1 p6.1.2 true p10.2
      · skip
        refine o_know 74 rfl (dec_false h12) ?_
        refine o_bind ?_; intro p13 hp13
        refine o_bind ?_; intro x14 hx14
        refine f_op rfl rfl (s_callA happ rfl hp13) ?_
        refine o_know 75 rfl (asB_eq hx14) ?_
        refine f_op rfl rfl (s_not rfl) ?_
        refine f_op rfl rfl (s_pickF (v := .bool (!x14)) rfl rfl) ?_
        refine f_nil ?_
        refine f_keep [0, 1, 2, 3, 9, 10, 13, 14, 77] ?_
        exact s8_j0 happ a0 a1 a2 a3 p2.1.1 p2.1.2 p6.1.1 p6.1.2 (!x14) p13.2
    · skip
      refine o_know 70 rfl (bool_notF h11) ?_
      refine f_no rfl rfl ?_
      refine f_no rfl rfl ?_
      refine f_op rfl rfl (s_pickT (v := .bool true) rfl rfl) ?_
      refine f_op rfl rfl (s_mv (v := .bool true) rfl) ?_
      refine f_no rfl rfl ?_
      refine f_no rfl rfl ?_
      refine f_op rfl rfl (s_pickT (v := .bool true) rfl rfl) ?_
      refine f_nil ?_
      refine f_keep [0, 1, 2, 3, 9, 10, 13, 14, 77] ?_
      exact s8_j0 happ a0 a1 a2 a3 p2.1.1 p2.1.2 p6.1.1 p6.1.2 true p10.2
  · skip
    refine f_know 40 rfl (bool_notF h8) ?_
    refine f_condT rfl ?_
    refine f_seq ?_
    refine f_region ?_
    refine f_op rfl rfl (s_mv (v := .sl p2.1.1) rfl) ?_
    refine f_op rfl rfl (s_lenS rfl Try.underlying35 rfl) ?_
    refine f_op rfl rfl (s_mv (v := .sl p4.1.1) rfl) ?_
    refine f_op rfl rfl (s_lenS rfl Try.underlying35 rfl) ?_
    refine f_op rfl rfl (s_add rfl rfl) ?_
    refine f_op rfl rfl (s_mv (v := .sl p6.1.1) rfl) ?_
    refine f_op rfl rfl (s_lenS rfl Try.underlying35 rfl) ?_
    refine f_op rfl rfl (s_add rfl rfl) ?_
    refine f_op rfl rfl (s_eql rfl rfl) ?_
    refine f_op rfl rfl (s_mv (v := .bool (decide ((w64 ((w64 ((p2.1.1.len : Int) + (p4.1.1.len : Int))) + (p6.1.1.len : Int))) = 0))) rfl) ?_
    refine o_if (fun h15 => ?_) (fun h15 => ?_)
    · skip
      refine o_know 50 rfl (dec_true h15) ?_
      refine f_op rfl rfl (s_mv (v := .int .i64 p2.1.2) rfl) ?_
      refine f_op rfl rfl (s_eql rfl rfl) ?_
      refine f_op rfl rfl (s_pickT (v := .bool (decide (p2.1.2 = 2))) rfl rfl) ?_
      refine f_op rfl rfl (s_mv (v := .bool (decide (p2.1.2 = 2))) rfl) ?_
      refine o_if (fun h16 => ?_) (fun h16 => ?_)
      · skip
        refine o_know 54 rfl (dec_true h16) ?_
        refine f_op rfl rfl (s_mv (v := .int .i64 p4.1.2) rfl) ?_
        refine f_op rfl rfl (s_eql rfl rfl) ?_
        refine f_op rfl rfl (s_pickT (v := .bool (decide (p4.1.2 = 2))) rfl rfl) ?_
        refine f_op rfl rfl (s_mv (v := .bool (decide (p4.1.2 = 2))) rfl) ?_
        refine o_if (fun h17 => ?_) (fun h17 => ?_)
        · skip
          refine o_know 58 rfl (dec_true h17) ?_
          refine f_op rfl rfl (s_mv (v := .int .i64 p6.1.2) rfl) ?_
          refine f_op rfl rfl (s_eql rfl rfl) ?_
          refine f_op rfl rfl (s_pickT (v := .bool (decide (p6.1.2 = 2))) rfl rfl) ?_
          refine f_op rfl rfl (s_mv (v := .bool (decide (p6.1.2 = 2))) rfl) ?_
          refine o_if (fun h18 => ?_) (fun h18 => ?_)
          · skip
            refine o_know 62 rfl (dec_true h18) ?_
            refine o_bind ?_; intro p19 hp19
            refine o_bind ?_; intro x20 hx20
            refine f_op rfl rfl (s_callA happ rfl hp19) ?_
            refine o_know 63 rfl (asB_eq hx20) ?_
            refine f_op rfl rfl (s_pickT (v := .bool x20) rfl rfl) ?_
            refine f_op rfl rfl (s_as (v := .bool x20) rfl) ?_
            refine f_nil ?_
            exact f_ret (.tmp rfl (.nil)) rfl
          · skip
            refine o_know 62 rfl (dec_false h18) ?_
            refine f_no rfl rfl ?_
            refine f_op rfl rfl (s_pickF (v := .bool false) rfl rfl) ?_
            refine f_op rfl rfl (s_as (v := .bool false) rfl) ?_
            refine f_nil ?_
            exact f_ret (.tmp rfl (.nil)) rfl
        · skip
          refine o_know 58 rfl (dec_false h17) ?_
          refine f_no rfl rfl ?_
          refine f_no rfl rfl ?_
          refine f_op rfl rfl (s_pickF (v := .bool false) rfl rfl) ?_
          refine f_op rfl rfl (s_mv (v := .bool false) rfl) ?_
          refine f_no rfl rfl ?_
          refine f_op rfl rfl (s_pickF (v := .bool false) rfl rfl) ?_
          refine f_op rfl rfl (s_as (v := .bool false) rfl) ?_
          refine f_nil ?_
          exact f_ret (.tmp rfl (.nil)) rfl
      · skip
        refine o_know 54 rfl (dec_false h16) ?_
        refine f_no rfl rfl ?_
        refine f_no rfl rfl ?_
        refine f_op rfl rfl (s_pickF (v := .bool false) rfl rfl) ?_
        refine f_op rfl rfl (s_mv (v := .bool false) rfl) ?_
        refine f_no rfl rfl ?_
        refine f_no rfl rfl ?_
        refine f_op rfl rfl (s_pickF (v := .bool false) rfl rfl) ?_
        refine f_op rfl rfl (s_mv (v := .bool false) rfl) ?_
        refine f_no rfl rfl ?_
        refine f_op rfl rfl (s_pickF (v := .bool false) rfl rfl) ?_
        refine f_op rfl rfl (s_as (v := .bool false) rfl) ?_
        refine f_nil ?_
        exact f_ret (.tmp rfl (.nil)) rfl
    · skip
      refine o_know 50 rfl (dec_false h15) ?_
      refine f_no rfl rfl ?_
      refine f_no rfl rfl ?_
      refine f_op rfl rfl (s_pickF (v := .bool false) rfl rfl) ?_
      refine f_op rfl rfl (s_mv (v := .bool false) rfl) ?_
      refine f_no rfl rfl ?_
      refine f_no rfl rfl ?_
      refine f_op rfl rfl (s_pickF (v := .bool false) rfl rfl) ?_
      refine f_op rfl rfl (s_mv (v := .bool false) rfl) ?_
      refine f_no rfl rfl ?_
      refine f_no rfl rfl ?_
      refine f_op rfl rfl (s_pickF (v := .bool false) rfl rfl) ?_
      refine f_op rfl rfl (s_mv (v := .bool false) rfl) ?_
      refine f_no rfl rfl ?_
      refine f_op rfl rfl (s_pickF (v := .bool false) rfl rfl) ?_
      refine f_op rfl rfl (s_as (v := .bool false) rfl) ?_
      refine f_nil ?_
      exact f_ret (.tmp rfl (.nil)) rfl

/- 60 congou/deals.Scale$1 -/
theorem ok60 : FnOk Try.prog 60 := ⟨⟨Try.f60, Try.func60, by kernel_rfl, rfl⟩⟩
theorem sim60 {a0_0 : Int} {a0_1 : Int} {c0 : Nat} {c1 : Nat} {H : Hp} {p : (Int × Int) × Hp} (h : r60 a0_0 a0_1 c0 c1 H = some p) : CallSim Try.prog 60 [.agg [.int .i64 a0_0, .int .i64 a0_1], .ptr c0 0, .ptr c1 0] H (.agg [.int .i64 p.1.1, .int .i64 p.1.2]) p.2 := by
  refine callSim (fn := Try.f60) (ret := ret60) Try.func60 rfl Try.ntmps60 rfl ?_ h
  unfold r60
  refine f_seq ?_
  refine f_region ?_
  refine f_op rfl rfl (s_box (v := .agg [.int .i64 a0_0, .int .i64 a0_1]) rfl rfl) ?_
  refine f_op rfl rfl (s_alloc (zs := [.int .i64 0, .int .i64 0]) ty49 rfl rfl) ?_
  refine o_hp ?_; intro H1 hH1
  refine f_nil ?_
  refine f_seq ?_
  refine f_region ?_
  refine f_op rfl rfl (s_idxA Try.underlying49 ty3 rfl rfl (by decide)) ?_
  refine o_bind ?_; intro x2 hx2
  refine f_op rfl rfl (s_load Try.underlying3 rfl rfl (ldI_eq hx2)) ?_
  refine o_bind ?_; intro x3 hx3
  refine f_op rfl rfl (s_load Try.underlying3 rfl rfl (ldI_eq hx3)) ?_
  refine f_op rfl rfl (s_mul rfl rfl) ?_
  refine f_op rfl rfl (s_idxA Try.underlying49 ty3 rfl rfl (by decide)) ?_
  refine o_bind ?_; intro x4 hx4
  refine f_op rfl rfl (s_load Try.underlying3 rfl rfl (ldI_eq hx4)) ?_
  refine o_bind ?_; intro x5 hx5
  refine f_op rfl rfl (s_load Try.underlying3 rfl rfl (ldI_eq hx5)) ?_
  refine f_op rfl rfl (s_mul rfl rfl) ?_
  refine f_op rfl rfl (s_buildA (cs := [.int .i64 (w64 (x2 * x3)), .int .i64 (w64 (x4 * x5))]) Try.underlying49 ty49 ty3 rfl rfl) ?_
  refine o_bind ?_; intro H6 hH6
  refine f_op rfl rfl (s_stores ty49 rfl rfl rfl rfl hH6 (Nat.le_of_eq (sts_mono hH6).symm)) ?_
  refine f_nil ?_
  refine f_bind ?_; intro x7 hx7
  refine f_bind ?_; intro x8 hx8
  exact f_ret (.cells Try.underlying49 rfl sz49 rfl (lds_cons (ldI_eq hx7) (lds_cons (ldI_eq hx8) (lds_nil))) (.nil)) rfl

/- 84 slices.Values[congou/deals.offers,[2]int]$1 -/
theorem ok84 : FnOk Try.prog 84 := ⟨⟨Try.f84, Try.func84, by kernel_rfl, rfl⟩⟩
theorem s84_l0 {app : App} (happ : AppSim Try.prog app) : ∀ (k_ : Nat) (v1 : AV) (v2 : Sl) (v3 : Int) (v4 : Int) (H : Hp), Fin Try.prog Try.f84 ret84 16 (todoAt (bodyOf Try.f84) [1, 0, 0] []) [(0, v1), (5, .sl v2), (6, .int .i64 v3), (7, .int .i64 v4)] H (r84_l0 app k_ v1 v2 v3 v4 H) := by
  intro k_
  induction k_ with
  | zero => intro _ _ _ _ _; exact f_none
  | succ k_ ih =>
    intro v1 v2 v3 v4 H
    rw [r84_l0]
    refine f_seq ?_
    refine f_region ?_
    refine f_op rfl rfl (s_lss rfl rfl) ?_
    refine f_nil ?_
    refine f_seq ?_
    refine f_if (fun h1 => ?_) (fun h1 => ?_)
    · skip
      refine f_know 8 rfl (dec_true h1) ?_
      refine f_condT rfl ?_
      refine f_skip ?_
      refine f_seq ?_
      refine f_block ?_
      refine f_seq ?_
      refine f_region ?_
      refine o_ck fun g2 => ?_
      refine f_op rfl rfl (s_idx Try.underlying72 ty49 rfl rfl g2) ?_
      refine o_bind ?_; intro x3 hx3
      refine o_bind ?_; intro x4 hx4
      refine f_op rfl rfl (s_loads Try.underlying49 rfl ty49 rfl (lds_cons (ldI_eq hx3) (lds_cons (ldI_eq hx4) (lds_nil)))) ?_
      refine f_op rfl rfl (s_alloc (zs := [.int .i64 0, .int .i64 0]) ty49 rfl rfl) ?_
      refine o_bind ?_; intro H5 hH5
      refine f_op rfl rfl (s_stores ty49 rfl rfl rfl rfl hH5 (Nat.le_of_eq (sts_mono hH5).symm)) ?_
      refine f_nil ?_
      refine f_seq ?_
      refine f_region ?_
      refine f_op rfl rfl (s_mv (v := v1) rfl) ?_
      refine o_bind ?_; intro x6 hx6
      refine o_bind ?_; intro x7 hx7
      refine f_op rfl rfl (s_loads Try.underlying49 rfl ty49 rfl (lds_cons (ldI_eq hx6) (lds_cons (ldI_eq hx7) (lds_nil)))) ?_
      refine o_bind ?_; intro p8 hp8
      refine o_bind ?_; intro x9 hx9
      refine f_op rfl rfl (s_callv happ rfl rfl hp8) ?_
      refine o_know 13 rfl (asB_eq hx9) ?_
      refine f_op rfl rfl (s_not rfl) ?_
      refine f_nil ?_
      refine f_if (fun h10 => ?_) (fun h10 => ?_)
      · skip
        refine f_know 14 rfl (bool_notT h10) ?_
        refine f_condF rfl ?_
        refine f_skip ?_
        refine f_inBlock ?_
        refine f_region ?_
        refine f_op rfl rfl (s_add rfl rfl) ?_
        refine f_op rfl rfl (s_mv (v := .int .i64 (w64 (v4 + 1))) rfl) ?_
        refine f_nil ?_
        refine f_inLoop ?_
        refine f_keep [0, 5, 6, 7] ?_
        exact ih v1 v2 v3 (w64 (v4 + 1)) p8.2
      · skip
        refine f_know 14 rfl (bool_notF h10) ?_
        refine f_condT rfl ?_
        exact f_ret (.nil) rfl
    · skip
      refine f_know 8 rfl (dec_false h1) ?_
      refine f_condF rfl ?_
      refine f_exit rfl ?_
      exact f_end (.nil) rfl

theorem sim84 {app : App} (happ : AppSim Try.prog app) {a0 : AV} {c0 : Nat} {H : Hp} {p : Unit × Hp} (h : r84 app a0 c0 H = some p) : CallSim Try.prog 84 [a0, .ptr c0 0] H (.tup []) p.2 := by
  refine callSim (fn := Try.f84) (ret := ret84) Try.func84 rfl Try.ntmps84 rfl ?_ h
  unfold r84
  refine f_seq ?_
  refine f_region ?_
  refine o_bind ?_; intro x1 hx1
  refine f_op rfl rfl (s_load Try.underlying72 rfl rfl (ldSl_eq hx1)) ?_
  refine f_op rfl rfl (s_lenS rfl Try.underlying72 rfl) ?_
  refine f_op rfl rfl (s_mv (v := .int .i64 0) rfl) ?_
  refine f_nil ?_
  refine f_block ?_
  refine f_loop ?_
  refine f_keep [0, 5, 6, 7] ?_
  exact s84_l0 happ FUEL a0 x1 (x1.len : Int) 0 H

end Go.Lt.P5
