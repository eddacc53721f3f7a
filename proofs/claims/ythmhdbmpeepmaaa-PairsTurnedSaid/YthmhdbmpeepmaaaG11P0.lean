/- PRINTED BY A PROGRAM OF OURS: what each function that 'PairsTurned' reaches computes on the abstract heap, and that the translated code does just that. Nothing is asked of the input. -/
import Derived.Test.YthmhdbmpeepmaaaG11R0
set_option linter.unusedVariables false
set_option linter.unusedSimpArgs false
set_option maxRecDepth 100000
set_option maxHeartbeats 4000000
namespace Go.Lt.P8
open Go Go.Lt Go.Proofs
/- 80 congou/pairs.isShift -/
theorem ok80 : FnOk Try.prog 80 := ⟨⟨Try.f80, Try.func80, by kernel_rfl, rfl⟩⟩
theorem sim80 {a0 : Int} {H : Hp} {p : Bool × Hp} (h : r80 a0 H = some p) : CallSim Try.prog 80 [.int .i64 a0] H (.bool p.1) p.2 := by
  refine callSim (fn := Try.f80) (ret := ret80) Try.func80 rfl Try.ntmps80 rfl ?_ h
  unfold r80
  refine f_seq ?_
  refine f_region ?_
  refine f_op rfl rfl (s_as (v := .bool false) rfl) ?_
  refine f_nil ?_
  refine f_seq ?_
  refine f_region ?_
  refine f_op rfl rfl (s_mv (v := .int .i64 a0) rfl) ?_
  refine f_op rfl rfl (s_eql rfl rfl) ?_
  refine f_op rfl rfl (s_mv (v := .bool (decide (a0 = 1))) rfl) ?_
  refine o_if (fun h1 => ?_) (fun h1 => ?_)
  · skip
    refine o_know 5 rfl (dec_true h1) ?_
    refine f_no rfl rfl ?_
    refine f_no rfl rfl ?_
    refine f_op rfl rfl (s_pickT (v := .bool true) rfl rfl) ?_
    refine f_op rfl rfl (s_as (v := .bool true) rfl) ?_
    refine f_nil ?_
    exact f_ret (.tmp rfl (.nil)) rfl
  · skip
    refine o_know 5 rfl (dec_false h1) ?_
    refine f_op rfl rfl (s_mv (v := .int .i64 a0) rfl) ?_
    refine f_op rfl rfl (s_eql rfl rfl) ?_
    refine f_op rfl rfl (s_pickF (v := .bool (decide (a0 = 2))) rfl rfl) ?_
    refine f_op rfl rfl (s_as (v := .bool (decide (a0 = 2))) rfl) ?_
    refine f_nil ?_
    exact f_ret (.tmp rfl (.nil)) rfl

/- 72 congou/pairs.isRows -/
theorem ok72 : FnOk Try.prog 72 := ⟨⟨Try.f72, Try.func72, by kernel_rfl, rfl⟩⟩
theorem sim72 {a0 : Int} {a1 : Int} {H : Hp} {p : Bool × Hp} (h : r72 a0 a1 H = some p) : CallSim Try.prog 72 [.int .i64 a0, .int .i64 a1] H (.bool p.1) p.2 := by
  refine callSim (fn := Try.f72) (ret := ret72) Try.func72 rfl Try.ntmps72 rfl ?_ h
  unfold r72
  refine f_seq ?_
  refine f_region ?_
  refine f_op rfl rfl (s_as (v := .bool false) rfl) ?_
  refine f_nil ?_
  refine f_seq ?_
  refine f_region ?_
  refine f_op rfl rfl (s_mv (v := .int .i64 a0) rfl) ?_
  refine f_op rfl rfl (s_geq rfl rfl) ?_
  refine f_op rfl rfl (s_mv (v := .bool (decide (1 ≤ a0))) rfl) ?_
  refine o_if (fun h1 => ?_) (fun h1 => ?_)
  · skip
    refine o_know 7 rfl (dec_true h1) ?_
    refine f_op rfl rfl (s_mv (v := .int .i64 a0) rfl) ?_
    refine f_op rfl rfl (s_leq rfl rfl) ?_
    refine f_op rfl rfl (s_pickT (v := .bool (decide (a0 ≤ 8))) rfl rfl) ?_
    refine f_op rfl rfl (s_mv (v := .bool (decide (a0 ≤ 8))) rfl) ?_
    refine o_if (fun h2 => ?_) (fun h2 => ?_)
    · skip
      refine o_know 11 rfl (dec_true h2) ?_
      refine f_op rfl rfl (s_mv (v := .int .i64 a1) rfl) ?_
      refine o_bind ?_; intro p3 hp3
      refine f_op rfl rfl (s_callF rfl ok80 (sim80 hp3)) ?_
      refine f_op rfl rfl (s_pickT (v := .bool p3.1) rfl rfl) ?_
      refine f_op rfl rfl (s_as (v := .bool p3.1) rfl) ?_
      refine f_nil ?_
      exact f_ret (.tmp rfl (.nil)) rfl
    · skip
      refine o_know 11 rfl (dec_false h2) ?_
      refine f_no rfl rfl ?_
      refine f_no rfl rfl ?_
      refine f_op rfl rfl (s_pickF (v := .bool false) rfl rfl) ?_
      refine f_op rfl rfl (s_as (v := .bool false) rfl) ?_
      refine f_nil ?_
      exact f_ret (.tmp rfl (.nil)) rfl
  · skip
    refine o_know 7 rfl (dec_false h1) ?_
    refine f_no rfl rfl ?_
    refine f_no rfl rfl ?_
    refine f_op rfl rfl (s_pickF (v := .bool false) rfl rfl) ?_
    refine f_op rfl rfl (s_mv (v := .bool false) rfl) ?_
    refine f_no rfl rfl ?_
    refine f_no rfl rfl ?_
    refine f_op rfl rfl (s_pickF (v := .bool false) rfl rfl) ?_
    refine f_op rfl rfl (s_as (v := .bool false) rfl) ?_
    refine f_nil ?_
    exact f_ret (.tmp rfl (.nil)) rfl

/- 73 congou/pairs.rows -/
theorem ok73 : FnOk Try.prog 73 := ⟨⟨Try.f73, Try.func73, by kernel_rfl, rfl⟩⟩
theorem sim73 {app : App} (happ : AppSim Try.prog app) {a0 : Int} {a1 : Int} {a2 : AV} {H : Hp} {p : Unit × Hp} (h : r73 app a0 a1 a2 H = some p) : CallSim Try.prog 73 [.int .i64 a0, .int .i64 a1, a2] H (.tup []) p.2 := by
  refine callSim (fn := Try.f73) (ret := ret73) Try.func73 rfl Try.ntmps73 rfl ?_ h
  unfold r73
  refine f_seq ?_
  refine f_region ?_
  refine f_op rfl rfl (s_box1 (v := .int .i64 a0) rfl rfl) ?_
  refine f_op rfl rfl (s_box1 (v := .int .i64 a1) rfl rfl) ?_
  refine o_ck fun g1 => ?_
  refine f_op rfl rfl (s_box1 (v := a2) rfl g1) ?_
  refine o_hp ?_; intro H2 hH2
  refine f_nil ?_
  refine f_seq ?_
  refine f_region ?_
  refine o_bind ?_; intro x3 hx3
  refine f_op rfl rfl (s_load Try.underlying3 rfl rfl (ldI_eq hx3)) ?_
  refine f_op rfl rfl (s_mul rfl rfl) ?_
  refine o_ck fun g4 => ?_
  refine f_op rfl rfl (s_makeSlice Try.underlying22 ty3 rfl rfl (by decide) (by decide) rfl rfl g4) ?_
  refine f_op rfl rfl (s_alloc (zs := [.sl ⟨true, 0, 0, 0, 0, 0⟩]) ty22 rfl rfl) ?_
  refine o_bind ?_; intro H5 hH5
  refine f_op rfl rfl (s_store (s := 1) ty22 rfl rfl rfl hH5) ?_
  refine f_nil ?_
  refine f_seq ?_
  refine f_region ?_
  refine f_op rfl rfl (s_alloc (zs := [.nilfn]) ty37 rfl rfl) ?_
  refine o_hp ?_; intro H6 hH6
  refine f_nil ?_
  refine f_seq ?_
  refine f_region ?_
  refine f_op rfl rfl (s_makeFunc rfl rfl) ?_
  refine o_bind ?_; intro H7 hH7
  refine f_op rfl rfl (s_store (s := 1) ty37 rfl rfl rfl hH7) ?_
  refine f_nil ?_
  refine f_region ?_
  refine o_bind ?_; intro x8 hx8
  refine f_op rfl rfl (s_load Try.underlying37 rfl rfl (ldV_eq hx8)) ?_
  refine o_bind ?_; intro p9 hp9
  refine o_bind ?_; intro x10 hx10
  refine f_op rfl rfl (s_callv happ rfl rfl hp9) ?_
  refine o_know 13 rfl (asB_eq hx10) ?_
  refine f_nil ?_
  exact f_end (.nil) rfl

/- 20 congou/pairs.First -/
theorem ok20 : FnOk Try.prog 20 := ⟨⟨Try.f20, Try.func20, by kernel_rfl, rfl⟩⟩
theorem sim20 {app : App} (happ : AppSim Try.prog app) {a0 : Int} {a1 : Int} {H : Hp} {p : (Sl × Int) × Hp} (h : r20 app a0 a1 H = some p) : CallSim Try.prog 20 [.int .i64 a0, .int .i64 a1] H (.tup [.sl p.1.1, .int .i64 p.1.2]) p.2 := by
  refine callSim (fn := Try.f20) (ret := ret20) Try.func20 rfl Try.ntmps20 rfl ?_ h
  unfold r20
  refine f_seq ?_
  refine f_region ?_
  refine f_op rfl rfl (s_as (v := .sl ⟨true, 0, 0, 0, 0, 0⟩) rfl) ?_
  refine f_op rfl rfl (s_as (v := .int .i64 0) rfl) ?_
  refine f_nil ?_
  refine f_seq ?_
  refine f_seq ?_
  refine f_region ?_
  refine f_op rfl rfl (s_mv (v := .int .i64 a0) rfl) ?_
  refine f_op rfl rfl (s_mv (v := .int .i64 a1) rfl) ?_
  refine o_bind ?_; intro p1 hp1
  refine f_op rfl rfl (s_callF rfl ok72 (sim72 hp1)) ?_
  refine f_op rfl rfl (s_not rfl) ?_
  refine f_nil ?_
  refine f_if (fun h2 => ?_) (fun h2 => ?_)
  · skip
    refine f_know 10 rfl (bool_notT h2) ?_
    refine f_condF rfl ?_
    refine f_skip ?_
    refine f_seq ?_
    refine f_region ?_
    refine f_op rfl rfl (s_alloc (zs := [.sl ⟨true, 0, 0, 0, 0, 0⟩]) ty22 rfl rfl) ?_
    refine o_hp ?_; intro H3 hH3
    refine f_nil ?_
    refine f_seq ?_
    refine f_region ?_
    refine f_op rfl rfl (s_mv (v := .int .i64 a0) rfl) ?_
    refine f_op rfl rfl (s_mv (v := .int .i64 a1) rfl) ?_
    refine f_op rfl rfl (s_makeFunc rfl rfl) ?_
    refine o_bind ?_; intro p4 hp4
    refine f_op rfl rfl (s_callF rfl ok73 (sim73 happ hp4)) ?_
    refine f_nil ?_
    refine f_seq ?_
    refine f_seq ?_
    refine f_region ?_
    refine o_bind ?_; intro x5 hx5
    refine f_op rfl rfl (s_load Try.underlying22 rfl rfl (ldSl_eq hx5)) ?_
    refine f_op rfl rfl (s_eqNil Try.underlying22 rfl rfl) ?_
    refine f_nil ?_
    refine f_if (fun h6 => ?_) (fun h6 => ?_)
    · skip
      refine f_know 16 rfl (bool_T h6) ?_
      refine f_condT rfl ?_
      refine f_seq ?_
      refine f_region ?_
      refine f_op rfl rfl (s_as (v := .sl ⟨true, 0, 0, 0, 0, 0⟩) rfl) ?_
      refine f_op rfl rfl (s_as (v := .int .i64 4) rfl) ?_
      refine f_nil ?_
      exact f_ret (.tmp rfl (.tmp rfl (.nil))) rfl
    · skip
      refine f_know 16 rfl (bool_F h6) ?_
      refine f_condF rfl ?_
      refine f_skip ?_
      refine f_seq ?_
      refine f_region ?_
      refine o_bind ?_; intro x7 hx7
      refine f_op rfl rfl (s_load Try.underlying22 rfl rfl (ldSl_eq hx7)) ?_
      refine f_op rfl rfl (s_as (v := .sl x7) rfl) ?_
      refine f_op rfl rfl (s_as (v := .int .i64 0) rfl) ?_
      refine f_nil ?_
      exact f_ret (.tmp rfl (.tmp rfl (.nil))) rfl
  · skip
    refine f_know 10 rfl (bool_notF h2) ?_
    refine f_condT rfl ?_
    refine f_seq ?_
    refine f_region ?_
    refine f_op rfl rfl (s_as (v := .sl ⟨true, 0, 0, 0, 0, 0⟩) rfl) ?_
    refine f_op rfl rfl (s_as (v := .int .i64 2) rfl) ?_
    refine f_nil ?_
    exact f_ret (.tmp rfl (.tmp rfl (.nil))) rfl

/- 25 slices.Equal[[]int,int] -/
theorem ok25 : FnOk Try.prog 25 := ⟨⟨Try.f25, Try.func25, by kernel_rfl, rfl⟩⟩
theorem s25_l0 : ∀ (k_ : Nat) (v1 : Sl) (v2 : Sl) (v3 : Int) (v4 : Int) (H : Hp), Fin Try.prog Try.f25 ret25 26 (todoAt (bodyOf Try.f25) [1, 1, 0, 1, 0, 0] []) [(0, .sl v1), (1, .sl v2), (12, .int .i64 v3), (13, .int .i64 v4)] H (r25_l0 k_ v1 v2 v3 v4 H) := by
  intro k_
  induction k_ with
  | zero => intro _ _ _ _ _; exact f_none
  | succ k_ ih =>
    intro v1 v2 v3 v4 H
    rw [r25_l0]
    refine f_seq ?_
    refine f_region ?_
    refine f_op rfl rfl (s_lss rfl rfl) ?_
    refine f_nil ?_
    refine f_seq ?_
    refine f_if (fun h1 => ?_) (fun h1 => ?_)
    · skip
      refine f_know 14 rfl (dec_true h1) ?_
      refine f_condT rfl ?_
      refine f_skip ?_
      refine f_seq ?_
      refine f_block ?_
      refine f_seq ?_
      refine f_region ?_
      refine f_op rfl rfl (s_mv (v := .int .i64 v4) rfl) ?_
      refine f_op rfl rfl (s_as (v := .int .i64 v4) rfl) ?_
      refine f_nil ?_
      refine f_seq ?_
      refine f_ck fun g2 => ?_
      refine f_bind ?_; intro x3 hx3
      refine f_ck fun g4 => ?_
      refine f_bind ?_; intro x5 hx5
      refine f_draw (Φ := fun _ => True) [0, 0, 0, 1, 0, 0, 0, 1, 0] (Trc.pure rfl rfl rfl (fun _ _ => s_mv (v := .sl v1) rfl) (Trc.pure rfl rfl rfl (fun _ _ => s_mv (v := .int .i64 v4) rfl) (Trc.pure rfl rfl rfl (fun _ _ => s_idx Try.underlying22 ty3 rfl rfl g2) (Trc.read rfl rfl rfl (s_load Try.underlying3 rfl rfl (ldI_eq hx3)) (Trc.pure rfl rfl rfl (fun _ _ => s_mv (v := .sl v2) rfl) (Trc.pure rfl rfl rfl (fun _ _ => s_mv (v := .int .i64 v4) rfl) (Trc.pure rfl rfl rfl (fun _ _ => s_idx Try.underlying22 ty3 rfl rfl g4) (Trc.read rfl rfl rfl (s_load Try.underlying3 rfl rfl (ldI_eq hx5)) (Trc.pure rfl rfl rfl (fun _ _ => s_neq rfl rfl) (Trc.nil (trivial))))))))))) rfl (by decide +kernel) mixed ?_
      refine f_if (fun h6 => ?_) (fun h6 => ?_)
      · skip
        refine f_know 24 rfl (dec_true h6) ?_
        refine f_condT rfl ?_
        refine f_seq ?_
        refine f_region ?_
        refine f_op rfl rfl (s_as (v := .bool false) rfl) ?_
        refine f_nil ?_
        exact f_ret (.tmp rfl (.nil)) rfl
      · skip
        refine f_know 24 rfl (dec_false h6) ?_
        refine f_condF rfl ?_
        refine f_skip ?_
        refine f_inBlock ?_
        refine f_region ?_
        refine f_op rfl rfl (s_add rfl rfl) ?_
        refine f_op rfl rfl (s_mv (v := .int .i64 (w64 (v4 + 1))) rfl) ?_
        refine f_nil ?_
        refine f_inLoop ?_
        refine f_keep [0, 1, 12, 13] ?_
        exact ih v1 v2 v3 (w64 (v4 + 1)) H
    · skip
      refine f_know 14 rfl (dec_false h1) ?_
      refine f_condF rfl ?_
      refine f_exit rfl ?_
      refine f_seq ?_
      refine f_region ?_
      refine f_op rfl rfl (s_as (v := .bool true) rfl) ?_
      refine f_nil ?_
      exact f_ret (.tmp rfl (.nil)) rfl

theorem sim25 {a0 : Sl} {a1 : Sl} {H : Hp} {p : Bool × Hp} (h : r25 a0 a1 H = some p) : CallSim Try.prog 25 [.sl a0, .sl a1] H (.bool p.1) p.2 := by
  refine callSim (fn := Try.f25) (ret := ret25) Try.func25 rfl Try.ntmps25 rfl ?_ h
  unfold r25
  refine f_seq ?_
  refine f_region ?_
  refine f_op rfl rfl (s_as (v := .bool false) rfl) ?_
  refine f_nil ?_
  refine f_seq ?_
  refine f_seq ?_
  refine f_region ?_
  refine f_op rfl rfl (s_mv (v := .sl a0) rfl) ?_
  refine f_op rfl rfl (s_lenS rfl Try.underlying22 rfl) ?_
  refine f_op rfl rfl (s_mv (v := .sl a1) rfl) ?_
  refine f_op rfl rfl (s_lenS rfl Try.underlying22 rfl) ?_
  refine f_op rfl rfl (s_neq rfl rfl) ?_
  refine f_nil ?_
  refine f_if (fun h1 => ?_) (fun h1 => ?_)
  · skip
    refine f_know 10 rfl (dec_true h1) ?_
    refine f_condT rfl ?_
    refine f_seq ?_
    refine f_region ?_
    refine f_op rfl rfl (s_as (v := .bool false) rfl) ?_
    refine f_nil ?_
    exact f_ret (.tmp rfl (.nil)) rfl
  · skip
    refine f_know 10 rfl (dec_false h1) ?_
    refine f_condF rfl ?_
    refine f_skip ?_
    refine f_seq ?_
    refine f_seq ?_
    refine f_region ?_
    refine f_op rfl rfl (s_mv (v := .sl a0) rfl) ?_
    refine f_op rfl rfl (s_lenS rfl Try.underlying22 rfl) ?_
    refine f_op rfl rfl (s_mv (v := .int .i64 0) rfl) ?_
    refine f_nil ?_
    refine f_block ?_
    refine f_loop ?_
    refine f_keep [0, 1, 12, 13] ?_
    exact s25_l0 FUEL a0 a1 (a0.len : Int) 0 H

/- 23 congou/congoulaw08.awake -/
theorem ok23 : FnOk Try.prog 23 := ⟨⟨Try.f23, Try.func23, by kernel_rfl, rfl⟩⟩
theorem sim23 {app : App} (happ : AppSim Try.prog app) {H : Hp} {p : Bool × Hp} (h : r23 app H = some p) : CallSim Try.prog 23 [] H (.bool p.1) p.2 := by
  refine callSim (fn := Try.f23) (ret := ret23) Try.func23 rfl Try.ntmps23 rfl ?_ h
  unfold r23
  refine f_seq ?_
  refine f_region ?_
  refine f_op rfl rfl (s_as (v := .bool false) rfl) ?_
  refine f_nil ?_
  refine f_seq ?_
  refine f_region ?_
  refine o_bind ?_; intro p1 hp1
  refine f_op rfl rfl (s_callF rfl ok20 (sim20 happ hp1)) ?_
  refine f_op rfl rfl (s_mv (v := .tup [.sl p1.1.1, .int .i64 p1.1.2]) rfl) ?_
  refine f_op rfl rfl (s_extract (r := .sl p1.1.1) rfl rfl) ?_
  refine f_op rfl rfl (s_extract (r := .int .i64 p1.1.2) rfl rfl) ?_
  refine f_op rfl rfl (s_as (v := .sl p1.1.1) rfl) ?_
  refine f_op rfl rfl (s_as (v := .int .i64 p1.1.2) rfl) ?_
  refine f_nil ?_
  refine f_seq ?_
  refine f_region ?_
  refine f_op rfl rfl (s_mv (v := .int .i64 p1.1.2) rfl) ?_
  refine f_op rfl rfl (s_eql rfl rfl) ?_
  refine f_op rfl rfl (s_mv (v := .bool (decide (p1.1.2 = 0))) rfl) ?_
  refine o_if (fun h2 => ?_) (fun h2 => ?_)
  · skip
    refine o_know 9 rfl (dec_true h2) ?_
    refine f_op rfl rfl (s_mv (v := .sl p1.1.1) rfl) ?_
    refine f_op rfl rfl (s_buildSlice (cs := [.int .i64 1, .int .i64 1]) Try.underlying22 ty3 (by decide) (by decide) rfl (by decide) rfl) ?_
    refine o_bind ?_; intro p3 hp3
    refine f_op rfl rfl (s_callF rfl ok25 (sim25 hp3)) ?_
    refine f_op rfl rfl (s_pickT (v := .bool p3.1) rfl rfl) ?_
    refine f_op rfl rfl (s_as (v := .bool p3.1) rfl) ?_
    refine f_nil ?_
    exact f_ret (.tmp rfl (.nil)) rfl
  · skip
    refine o_know 9 rfl (dec_false h2) ?_
    refine f_no rfl rfl ?_
    refine f_no rfl rfl ?_
    refine f_no rfl rfl ?_
    refine f_op rfl rfl (s_pickF (v := .bool false) rfl rfl) ?_
    refine f_op rfl rfl (s_as (v := .bool false) rfl) ?_
    refine f_nil ?_
    exact f_ret (.tmp rfl (.nil)) rfl

/- 108 slices.Index[[]int,int] -/
theorem ok108 : FnOk Try.prog 108 := ⟨⟨Try.f108, Try.func108, by kernel_rfl, rfl⟩⟩
theorem s108_l0 : ∀ (k_ : Nat) (v1 : Sl) (v2 : Int) (v3 : Int) (v4 : Int) (H : Hp), Fin Try.prog Try.f108 ret108 19 (todoAt (bodyOf Try.f108) [1, 0, 1, 0, 0] []) [(0, .sl v1), (1, .int .i64 v2), (7, .int .i64 v3), (8, .int .i64 v4)] H (r108_l0 k_ v1 v2 v3 v4 H) := by
  intro k_
  induction k_ with
  | zero => intro _ _ _ _ _; exact f_none
  | succ k_ ih =>
    intro v1 v2 v3 v4 H
    rw [r108_l0]
    refine f_seq ?_
    refine f_region ?_
    refine f_op rfl rfl (s_lss rfl rfl) ?_
    refine f_nil ?_
    refine f_seq ?_
    refine f_if (fun h1 => ?_) (fun h1 => ?_)
    · skip
      refine f_know 9 rfl (dec_true h1) ?_
      refine f_condT rfl ?_
      refine f_skip ?_
      refine f_seq ?_
      refine f_block ?_
      refine f_seq ?_
      refine f_region ?_
      refine f_op rfl rfl (s_mv (v := .int .i64 v4) rfl) ?_
      refine f_op rfl rfl (s_as (v := .int .i64 v4) rfl) ?_
      refine f_nil ?_
      refine f_seq ?_
      refine f_region ?_
      refine f_op rfl rfl (s_mv (v := .int .i64 v2) rfl) ?_
      refine f_op rfl rfl (s_mv (v := .sl v1) rfl) ?_
      refine f_op rfl rfl (s_mv (v := .int .i64 v4) rfl) ?_
      refine o_ck fun g2 => ?_
      refine f_op rfl rfl (s_idx Try.underlying22 ty3 rfl rfl g2) ?_
      refine o_bind ?_; intro x3 hx3
      refine f_op rfl rfl (s_load Try.underlying3 rfl rfl (ldI_eq hx3)) ?_
      refine f_op rfl rfl (s_eql rfl rfl) ?_
      refine f_nil ?_
      refine f_if (fun h4 => ?_) (fun h4 => ?_)
      · skip
        refine f_know 16 rfl (dec_true h4) ?_
        refine f_condT rfl ?_
        refine f_seq ?_
        refine f_region ?_
        refine f_op rfl rfl (s_mv (v := .int .i64 v4) rfl) ?_
        refine f_op rfl rfl (s_as (v := .int .i64 v4) rfl) ?_
        refine f_nil ?_
        exact f_ret (.tmp rfl (.nil)) rfl
      · skip
        refine f_know 16 rfl (dec_false h4) ?_
        refine f_condF rfl ?_
        refine f_skip ?_
        refine f_inBlock ?_
        refine f_region ?_
        refine f_op rfl rfl (s_add rfl rfl) ?_
        refine f_op rfl rfl (s_mv (v := .int .i64 (w64 (v4 + 1))) rfl) ?_
        refine f_nil ?_
        refine f_inLoop ?_
        refine f_keep [0, 1, 7, 8] ?_
        exact ih v1 v2 v3 (w64 (v4 + 1)) H
    · skip
      refine f_know 9 rfl (dec_false h1) ?_
      refine f_condF rfl ?_
      refine f_exit rfl ?_
      refine f_seq ?_
      refine f_region ?_
      refine f_op rfl rfl (s_as (v := .int .i64 (-1)) rfl) ?_
      refine f_nil ?_
      exact f_ret (.tmp rfl (.nil)) rfl

theorem sim108 {a0 : Sl} {a1 : Int} {H : Hp} {p : Int × Hp} (h : r108 a0 a1 H = some p) : CallSim Try.prog 108 [.sl a0, .int .i64 a1] H (.int .i64 p.1) p.2 := by
  refine callSim (fn := Try.f108) (ret := ret108) Try.func108 rfl Try.ntmps108 rfl ?_ h
  unfold r108
  refine f_seq ?_
  refine f_region ?_
  refine f_op rfl rfl (s_as (v := .int .i64 0) rfl) ?_
  refine f_nil ?_
  refine f_seq ?_
  refine f_seq ?_
  refine f_region ?_
  refine f_op rfl rfl (s_mv (v := .sl a0) rfl) ?_
  refine f_op rfl rfl (s_lenS rfl Try.underlying22 rfl) ?_
  refine f_op rfl rfl (s_mv (v := .int .i64 0) rfl) ?_
  refine f_nil ?_
  refine f_block ?_
  refine f_loop ?_
  refine f_keep [0, 1, 7, 8] ?_
  exact s108_l0 FUEL a0 a1 (a0.len : Int) 0 H

/- 77 slices.Contains[[]int,int] -/
theorem ok77 : FnOk Try.prog 77 := ⟨⟨Try.f77, Try.func77, by kernel_rfl, rfl⟩⟩
theorem sim77 {a0 : Sl} {a1 : Int} {H : Hp} {p : Bool × Hp} (h : r77 a0 a1 H = some p) : CallSim Try.prog 77 [.sl a0, .int .i64 a1] H (.bool p.1) p.2 := by
  refine callSim (fn := Try.f77) (ret := ret77) Try.func77 rfl Try.ntmps77 rfl ?_ h
  unfold r77
  refine f_seq ?_
  refine f_region ?_
  refine f_op rfl rfl (s_as (v := .bool false) rfl) ?_
  refine f_nil ?_
  refine f_seq ?_
  refine f_region ?_
  refine f_op rfl rfl (s_mv (v := .sl a0) rfl) ?_
  refine f_op rfl rfl (s_mv (v := .int .i64 a1) rfl) ?_
  refine o_bind ?_; intro p1 hp1
  refine f_op rfl rfl (s_callF rfl ok108 (sim108 hp1)) ?_
  refine f_op rfl rfl (s_geq rfl rfl) ?_
  refine f_op rfl rfl (s_as (v := .bool (decide (0 ≤ p1.1))) rfl) ?_
  refine f_nil ?_
  exact f_ret (.tmp rfl (.nil)) rfl

/- 81 congou/pairs.places -/
theorem ok81 : FnOk Try.prog 81 := ⟨⟨Try.f81, Try.func81, by kernel_rfl, rfl⟩⟩
theorem s81_j2 (kt1 : Int → Sl → Sl → Int → Int → Hp → Option ((Sl × Bool) × Hp)) (hkt1 : ∀ (v1 : Int) (v2 : Sl) (v3 : Sl) (v4 : Int) (v5 : Int) (H : Hp), Fin Try.prog Try.f81 ret81 83 (todoAt (bodyOf Try.f81) [1, 1, 1, 0, 1, 0, 0] []) [(0, .int .i64 v1), (1, .sl v2), (4, .sl v3), (6, .int .i64 v4), (7, .int .i64 v5)] H (kt1 v1 v2 v3 v4 v5 H)) (v1 : Int) (v2 : Sl) (v3 : Sl) (v4 : Int) (v5 : Int) (v6 : Int) (v7 : Bool) (H : Hp) : Fin Try.prog Try.f81 ret81 83 (todoAt (bodyOf Try.f81) [1, 1, 1, 0, 1, 0, 0, 1, 0, 0, 1, 0, 1, 1] []) [(0, .int .i64 v1), (1, .sl v2), (4, .sl v3), (6, .int .i64 v4), (7, .int .i64 v5), (8, .int .i64 v6), (77, .bool v7)] H (r81_j2 kt1 v1 v2 v3 v4 v5 v6 v7 H) := by
  unfold r81_j2
  refine f_if (fun h1 => ?_) (fun h1 => ?_)
  · skip
    refine f_know 77 rfl (bool_T h1) ?_
    refine f_condT rfl ?_
    refine f_seq ?_
    refine f_region ?_
    refine f_op rfl rfl (s_as (v := .sl ⟨true, 0, 0, 0, 0, 0⟩) rfl) ?_
    refine f_op rfl rfl (s_as (v := .bool false) rfl) ?_
    refine f_nil ?_
    exact f_ret (.tmp rfl (.tmp rfl (.nil))) rfl
  · skip
    refine f_know 77 rfl (bool_F h1) ?_
    refine f_condF rfl ?_
    refine f_skip ?_
    refine f_region ?_
    refine f_op rfl rfl (s_mv (v := .sl v3) rfl) ?_
    refine f_op rfl rfl (s_mv (v := .int .i64 v6) rfl) ?_
    refine f_op rfl rfl (s_buildSlice (cs := [.int .i64 v6]) Try.underlying22 ty3 (by decide) (by decide) rfl (by decide) rfl) ?_
    refine o_bind ?_; intro x2 hx2
    refine f_op rfl rfl (s_ap rfl rfl Try.underlying22 Try.underlying22 ty3 rfl rfl rfl rfl rfl rfl rfl hx2) ?_
    refine f_op rfl rfl (s_as (v := .sl x2.1) rfl) ?_
    refine f_nil ?_
    refine f_inBlock ?_
    refine f_region ?_
    refine f_op rfl rfl (s_mv (v := .int .i64 v5) rfl) ?_
    refine f_op rfl rfl (s_add rfl rfl) ?_
    refine f_op rfl rfl (s_as (v := .int .i64 (w64 (v5 + 1))) rfl) ?_
    refine f_nil ?_
    refine f_inLoop ?_
    refine f_keep [0, 1, 4, 6, 7] ?_
    exact hkt1 v1 v2 x2.1 v4 (w64 (v5 + 1)) x2.2

theorem s81_l1 : ∀ (k_ : Nat) (v1 : Int) (v2 : Sl) (v3 : Sl) (v4 : Int) (v5 : Int) (H : Hp), Fin Try.prog Try.f81 ret81 83 (todoAt (bodyOf Try.f81) [1, 1, 1, 0, 1, 0, 0] []) [(0, .int .i64 v1), (1, .sl v2), (4, .sl v3), (6, .int .i64 v4), (7, .int .i64 v5)] H (r81_l1 k_ v1 v2 v3 v4 v5 H) := by
  intro k_
  induction k_ with
  | zero => intro _ _ _ _ _ _; exact f_none
  | succ k_ ih =>
    intro v1 v2 v3 v4 v5 H
    rw [r81_l1]
    refine f_seq ?_
    refine f_seq ?_
    refine f_region ?_
    refine f_op rfl rfl (s_mv (v := .int .i64 v5) rfl) ?_
    refine f_op rfl rfl (s_mv (v := .int .i64 v4) rfl) ?_
    refine f_op rfl rfl (s_leq rfl rfl) ?_
    refine f_nil ?_
    refine f_if (fun h1 => ?_) (fun h1 => ?_)
    · skip
      refine f_know 33 rfl (dec_true h1) ?_
      refine f_condT rfl ?_
      refine f_skip ?_
      refine f_seq ?_
      refine f_block ?_
      refine f_seq ?_
      refine f_region ?_
      refine f_op rfl rfl (s_mv (v := .sl v2) rfl) ?_
      refine f_op rfl rfl (s_mv (v := .int .i64 v5) rfl) ?_
      refine o_bind ?_; intro p2 hp2
      refine f_op rfl rfl (s_callF rfl ok108 (sim108 hp2)) ?_
      refine f_op rfl rfl (s_as (v := .int .i64 p2.1) rfl) ?_
      refine f_nil ?_
      refine f_seq ?_
      refine f_seq ?_
      refine f_region ?_
      refine f_op rfl rfl (s_mv (v := .int .i64 p2.1) rfl) ?_
      refine f_op rfl rfl (s_mv (v := .int .i64 v5) rfl) ?_
      refine f_op rfl rfl (s_add rfl rfl) ?_
      refine f_op rfl rfl (s_mv (v := .int .i64 v1) rfl) ?_
      refine f_op rfl rfl (s_add rfl rfl) ?_
      refine f_op rfl rfl (s_sub rfl rfl) ?_
      refine f_op rfl rfl (s_as (v := .int .i64 (w64 ((w64 ((w64 (p2.1 + v5)) + v1)) - 1))) rfl) ?_
      refine f_nil ?_
      refine f_seq ?_
      refine f_region ?_
      refine f_op rfl rfl (s_mv (v := .int .i64 p2.1) rfl) ?_
      refine f_op rfl rfl (s_lss rfl rfl) ?_
      refine f_op rfl rfl (s_mv (v := .bool (decide (p2.1 < 0))) rfl) ?_
      refine o_if (fun h3 => ?_) (fun h3 => ?_)
      · skip
        refine o_know 47 rfl (dec_true h3) ?_
        refine f_no rfl rfl ?_
        refine f_no rfl rfl ?_
        refine f_no rfl rfl ?_
        refine f_no rfl rfl ?_
        refine f_op rfl rfl (s_pickT (v := .bool true) rfl rfl) ?_
        refine f_op rfl rfl (s_mv (v := .bool true) rfl) ?_
        refine f_no rfl rfl ?_
        refine f_no rfl rfl ?_
        refine f_no rfl rfl ?_
        refine f_no rfl rfl ?_
        refine f_no rfl rfl ?_
        refine f_no rfl rfl ?_
        refine f_op rfl rfl (s_pickT (v := .bool true) rfl rfl) ?_
        refine f_op rfl rfl (s_mv (v := .bool true) rfl) ?_
        refine f_no rfl rfl ?_
        refine f_no rfl rfl ?_
        refine f_no rfl rfl ?_
        refine f_no rfl rfl ?_
        refine f_no rfl rfl ?_
        refine f_no rfl rfl ?_
        refine f_no rfl rfl ?_
        refine f_op rfl rfl (s_pickT (v := .bool true) rfl rfl) ?_
        refine f_op rfl rfl (s_mv (v := .bool true) rfl) ?_
        refine f_no rfl rfl ?_
        refine f_no rfl rfl ?_
        refine f_no rfl rfl ?_
        refine f_no rfl rfl ?_
        refine f_no rfl rfl ?_
        refine f_no rfl rfl ?_
        refine f_op rfl rfl (s_pickT (v := .bool true) rfl rfl) ?_
        refine f_nil ?_
        refine f_keep [0, 1, 4, 6, 7, 8, 77] ?_
        exact s81_j2 _ (fun v1_ v2_ v3_ v4_ v5_ H_ => ih v1_ v2_ v3_ v4_ v5_ H_) v1 v2 v3 v4 v5 p2.1 true p2.2
      · skip
        refine o_know 47 rfl (dec_false h3) ?_
        refine f_op rfl rfl (s_mv (v := .int .i64 (w64 ((w64 ((w64 (p2.1 + v5)) + v1)) - 1))) rfl) ?_
        refine f_op rfl rfl (s_mv (v := .sl v2) rfl) ?_
        refine f_op rfl rfl (s_lenS rfl Try.underlying22 rfl) ?_
        refine f_op rfl rfl (s_geq rfl rfl) ?_
        refine f_op rfl rfl (s_pickF (v := .bool (decide ((v2.len : Int) ≤ (w64 ((w64 ((w64 (p2.1 + v5)) + v1)) - 1))))) rfl rfl) ?_
        refine f_op rfl rfl (s_mv (v := .bool (decide ((v2.len : Int) ≤ (w64 ((w64 ((w64 (p2.1 + v5)) + v1)) - 1))))) rfl) ?_
        refine o_if (fun h4 => ?_) (fun h4 => ?_)
        · skip
          refine o_know 53 rfl (dec_true h4) ?_
          refine f_no rfl rfl ?_
          refine f_no rfl rfl ?_
          refine f_no rfl rfl ?_
          refine f_no rfl rfl ?_
          refine f_no rfl rfl ?_
          refine f_no rfl rfl ?_
          refine f_op rfl rfl (s_pickT (v := .bool true) rfl rfl) ?_
          refine f_op rfl rfl (s_mv (v := .bool true) rfl) ?_
          refine f_no rfl rfl ?_
          refine f_no rfl rfl ?_
          refine f_no rfl rfl ?_
          refine f_no rfl rfl ?_
          refine f_no rfl rfl ?_
          refine f_no rfl rfl ?_
          refine f_no rfl rfl ?_
          refine f_op rfl rfl (s_pickT (v := .bool true) rfl rfl) ?_
          refine f_op rfl rfl (s_mv (v := .bool true) rfl) ?_
          refine f_no rfl rfl ?_
          refine f_no rfl rfl ?_
          refine f_no rfl rfl ?_
          refine f_no rfl rfl ?_
          refine f_no rfl rfl ?_
          refine f_no rfl rfl ?_
          refine f_op rfl rfl (s_pickT (v := .bool true) rfl rfl) ?_
          refine f_nil ?_
          refine f_keep [0, 1, 4, 6, 7, 8, 77] ?_
          exact s81_j2 _ (fun v1_ v2_ v3_ v4_ v5_ H_ => ih v1_ v2_ v3_ v4_ v5_ H_) v1 v2 v3 v4 v5 p2.1 true p2.2
        · skip
          refine o_know 53 rfl (dec_false h4) ?_
          refine f_op rfl rfl (s_mv (v := .sl v2) rfl) ?_
          refine f_op rfl rfl (s_mv (v := .int .i64 (w64 ((w64 ((w64 (p2.1 + v5)) + v1)) - 1))) rfl) ?_
          refine o_ck fun g5 => ?_
          refine f_op rfl rfl (s_idx Try.underlying22 ty3 rfl rfl g5) ?_
          refine o_bind ?_; intro x6 hx6
          refine f_op rfl rfl (s_load Try.underlying3 rfl rfl (ldI_eq hx6)) ?_
          refine f_op rfl rfl (s_mv (v := .int .i64 v5) rfl) ?_
          refine f_op rfl rfl (s_neq rfl rfl) ?_
          refine f_op rfl rfl (s_pickF (v := .bool (decide (x6 ≠ v5))) rfl rfl) ?_
          refine f_op rfl rfl (s_mv (v := .bool (decide (x6 ≠ v5))) rfl) ?_
          refine o_if (fun h7 => ?_) (fun h7 => ?_)
          · skip
            refine o_know 61 rfl (dec_true h7) ?_
            refine f_no rfl rfl ?_
            refine f_no rfl rfl ?_
            refine f_no rfl rfl ?_
            refine f_no rfl rfl ?_
            refine f_no rfl rfl ?_
            refine f_no rfl rfl ?_
            refine f_no rfl rfl ?_
            refine f_op rfl rfl (s_pickT (v := .bool true) rfl rfl) ?_
            refine f_op rfl rfl (s_mv (v := .bool true) rfl) ?_
            refine f_no rfl rfl ?_
            refine f_no rfl rfl ?_
            refine f_no rfl rfl ?_
            refine f_no rfl rfl ?_
            refine f_no rfl rfl ?_
            refine f_no rfl rfl ?_
            refine f_op rfl rfl (s_pickT (v := .bool true) rfl rfl) ?_
            refine f_nil ?_
            refine f_keep [0, 1, 4, 6, 7, 8, 77] ?_
            exact s81_j2 _ (fun v1_ v2_ v3_ v4_ v5_ H_ => ih v1_ v2_ v3_ v4_ v5_ H_) v1 v2 v3 v4 v5 p2.1 true p2.2
          · skip
            refine o_know 61 rfl (dec_false h7) ?_
            refine f_op rfl rfl (s_mv (v := .sl v2) rfl) ?_
            refine f_op rfl rfl (s_mv (v := .int .i64 p2.1) rfl) ?_
            refine f_op rfl rfl (s_add rfl rfl) ?_
            refine f_op rfl rfl (s_mv (v := .int .i64 (w64 ((w64 ((w64 (p2.1 + v5)) + v1)) - 1))) rfl) ?_
            refine o_ck fun g8 => ?_
            refine f_op rfl rfl (s_slice Try.underlying22 ty3 rfl rfl rfl g8.1 g8.2) ?_
            refine f_op rfl rfl (s_mv (v := .int .i64 v5) rfl) ?_
            refine o_bind ?_; intro p9 hp9
            refine f_op rfl rfl (s_callF rfl ok77 (sim77 hp9)) ?_
            refine f_op rfl rfl (s_pickF (v := .bool p9.1) rfl rfl) ?_
            refine f_op rfl rfl (s_mv (v := .bool p9.1) rfl) ?_
            refine o_if (fun h10 => ?_) (fun h10 => ?_)
            · skip
              refine o_know 70 rfl (bool_T h10) ?_
              refine f_no rfl rfl ?_
              refine f_no rfl rfl ?_
              refine f_no rfl rfl ?_
              refine f_no rfl rfl ?_
              refine f_no rfl rfl ?_
              refine f_no rfl rfl ?_
              refine f_op rfl rfl (s_pickT (v := .bool true) rfl rfl) ?_
              refine f_nil ?_
              refine f_keep [0, 1, 4, 6, 7, 8, 77] ?_
              exact s81_j2 _ (fun v1_ v2_ v3_ v4_ v5_ H_ => ih v1_ v2_ v3_ v4_ v5_ H_) v1 v2 v3 v4 v5 p2.1 true p9.2
            · skip
              refine o_know 70 rfl (bool_F h10) ?_
              refine f_op rfl rfl (s_mv (v := .sl v2) rfl) ?_
              refine f_op rfl rfl (s_mv (v := .int .i64 (w64 ((w64 ((w64 (p2.1 + v5)) + v1)) - 1))) rfl) ?_
              refine f_op rfl rfl (s_add rfl rfl) ?_
              refine o_ck fun g11 => ?_
              refine f_op rfl rfl (s_slice Try.underlying22 ty3 rfl rfl rfl g11.1 g11.2) ?_
              refine f_op rfl rfl (s_mv (v := .int .i64 v5) rfl) ?_
              refine o_bind ?_; intro p12 hp12
              refine f_op rfl rfl (s_callF rfl ok77 (sim77 hp12)) ?_
              refine f_op rfl rfl (s_pickF (v := .bool p12.1) rfl rfl) ?_
              refine f_nil ?_
              refine f_keep [0, 1, 4, 6, 7, 8, 77] ?_
              exact s81_j2 _ (fun v1_ v2_ v3_ v4_ v5_ H_ => ih v1_ v2_ v3_ v4_ v5_ H_) v1 v2 v3 v4 v5 p2.1 p12.1 p12.2
    · skip
      refine f_know 33 rfl (dec_false h1) ?_
      refine f_condF rfl ?_
      refine f_exit rfl ?_
      refine f_seq ?_
      refine f_region ?_
      refine f_op rfl rfl (s_mv (v := .sl v3) rfl) ?_
      refine f_op rfl rfl (s_as (v := .sl v3) rfl) ?_
      refine f_op rfl rfl (s_as (v := .bool true) rfl) ?_
      refine f_nil ?_
      exact f_ret (.tmp rfl (.tmp rfl (.nil))) rfl

theorem s81_j0 (v1 : Int) (v2 : Sl) (v3 : Sl) (v4 : Int) (v5 : Bool) (H : Hp) : Fin Try.prog Try.f81 ret81 83 (todoAt (bodyOf Try.f81) [1, 1, 0, 1] []) [(0, .int .i64 v1), (1, .sl v2), (4, .sl v3), (6, .int .i64 v4), (30, .bool v5)] H (r81_j0 v1 v2 v3 v4 v5 H) := by
  unfold r81_j0
  refine f_if (fun h1 => ?_) (fun h1 => ?_)
  · skip
    refine f_know 30 rfl (bool_T h1) ?_
    refine f_condT rfl ?_
    refine f_seq ?_
    refine f_region ?_
    refine f_op rfl rfl (s_as (v := .sl ⟨true, 0, 0, 0, 0, 0⟩) rfl) ?_
    refine f_op rfl rfl (s_as (v := .bool false) rfl) ?_
    refine f_nil ?_
    exact f_ret (.tmp rfl (.tmp rfl (.nil))) rfl
  · skip
    refine f_know 30 rfl (bool_F h1) ?_
    refine f_condF rfl ?_
    refine f_skip ?_
    refine f_seq ?_
    refine f_seq ?_
    refine f_region ?_
    refine f_op rfl rfl (s_as (v := .int .i64 1) rfl) ?_
    refine f_nil ?_
    refine f_block ?_
    refine f_loop ?_
    refine f_keep [0, 1, 4, 6, 7] ?_
    exact s81_l1 FUEL v1 v2 v3 v4 1 H

theorem sim81 {a0 : Int} {a1 : Sl} {H : Hp} {p : (Sl × Bool) × Hp} (h : r81 a0 a1 H = some p) : CallSim Try.prog 81 [.int .i64 a0, .sl a1] H (.tup [.sl p.1.1, .bool p.1.2]) p.2 := by
  refine callSim (fn := Try.f81) (ret := ret81) Try.func81 rfl Try.ntmps81 rfl ?_ h
  unfold r81
  refine f_seq ?_
  refine f_region ?_
  refine f_op rfl rfl (s_as (v := .sl ⟨true, 0, 0, 0, 0, 0⟩) rfl) ?_
  refine f_op rfl rfl (s_as (v := .bool false) rfl) ?_
  refine f_nil ?_
  refine f_seq ?_
  refine f_region ?_
  refine f_op rfl rfl (s_mv (v := .sl a1) rfl) ?_
  refine f_op rfl rfl (s_lenS rfl Try.underlying22 rfl) ?_
  refine f_op rfl rfl (s_quo rfl rfl (by decide)) ?_
  refine f_op rfl rfl (s_as (v := .int .i64 (w64 (Int.tdiv (a1.len : Int) 2))) rfl) ?_
  refine f_nil ?_
  refine f_seq ?_
  refine f_seq ?_
  refine f_region ?_
  refine f_op rfl rfl (s_mv (v := .int .i64 a0) rfl) ?_
  refine o_bind ?_; intro p1 hp1
  refine f_op rfl rfl (s_callF rfl ok80 (sim80 hp1)) ?_
  refine f_op rfl rfl (s_not rfl) ?_
  refine f_op rfl rfl (s_mv (v := .bool (!p1.1)) rfl) ?_
  refine o_if (fun h2 => ?_) (fun h2 => ?_)
  · skip
    refine o_know 16 rfl (bool_notT h2) ?_
    refine f_op rfl rfl (s_mv (v := .int .i64 (w64 (Int.tdiv (a1.len : Int) 2))) rfl) ?_
    refine f_op rfl rfl (s_lss rfl rfl) ?_
    refine f_op rfl rfl (s_pickF (v := .bool (decide ((w64 (Int.tdiv (a1.len : Int) 2)) < 1))) rfl rfl) ?_
    refine f_op rfl rfl (s_mv (v := .bool (decide ((w64 (Int.tdiv (a1.len : Int) 2)) < 1))) rfl) ?_
    refine o_if (fun h3 => ?_) (fun h3 => ?_)
    · skip
      refine o_know 20 rfl (dec_true h3) ?_
      refine f_no rfl rfl ?_
      refine f_no rfl rfl ?_
      refine f_op rfl rfl (s_pickT (v := .bool true) rfl rfl) ?_
      refine f_op rfl rfl (s_mv (v := .bool true) rfl) ?_
      refine f_no rfl rfl ?_
      refine f_no rfl rfl ?_
      refine f_no rfl rfl ?_
      refine f_no rfl rfl ?_
      refine f_no rfl rfl ?_
      refine f_op rfl rfl (s_pickT (v := .bool true) rfl rfl) ?_
      refine f_nil ?_
      refine f_keep [0, 1, 4, 6, 30] ?_
      exact s81_j0 a0 a1 ⟨true, 0, 0, 0, 0, 0⟩ (w64 (Int.tdiv (a1.len : Int) 2)) true p1.2
    · skip
      refine o_know 20 rfl (dec_false h3) ?_
      refine f_op rfl rfl (s_mv (v := .int .i64 (w64 (Int.tdiv (a1.len : Int) 2))) rfl) ?_
      refine f_op rfl rfl (s_gtr rfl rfl) ?_
      refine f_op rfl rfl (s_pickF (v := .bool (decide (8 < (w64 (Int.tdiv (a1.len : Int) 2))))) rfl rfl) ?_
      refine f_op rfl rfl (s_mv (v := .bool (decide (8 < (w64 (Int.tdiv (a1.len : Int) 2))))) rfl) ?_
      refine o_if (fun h4 => ?_) (fun h4 => ?_)
      · skip
        refine o_know 24 rfl (dec_true h4) ?_
        refine f_no rfl rfl ?_
        refine f_no rfl rfl ?_
        refine f_no rfl rfl ?_
        refine f_no rfl rfl ?_
        refine f_no rfl rfl ?_
        refine f_op rfl rfl (s_pickT (v := .bool true) rfl rfl) ?_
        refine f_nil ?_
        refine f_keep [0, 1, 4, 6, 30] ?_
        exact s81_j0 a0 a1 ⟨true, 0, 0, 0, 0, 0⟩ (w64 (Int.tdiv (a1.len : Int) 2)) true p1.2
      · skip
        refine o_know 24 rfl (dec_false h4) ?_
        refine f_op rfl rfl (s_mv (v := .sl a1) rfl) ?_
        refine f_op rfl rfl (s_lenS rfl Try.underlying22 rfl) ?_
        refine f_op rfl rfl (s_mv (v := .int .i64 (w64 (Int.tdiv (a1.len : Int) 2))) rfl) ?_
        refine f_op rfl rfl (s_mul rfl rfl) ?_
        refine f_op rfl rfl (s_neq rfl rfl) ?_
        refine f_op rfl rfl (s_pickF (v := .bool (decide ((a1.len : Int) ≠ (w64 (2 * (w64 (Int.tdiv (a1.len : Int) 2))))))) rfl rfl) ?_
        refine f_nil ?_
        refine f_keep [0, 1, 4, 6, 30] ?_
        exact s81_j0 a0 a1 ⟨true, 0, 0, 0, 0, 0⟩ (w64 (Int.tdiv (a1.len : Int) 2)) (decide ((a1.len : Int) ≠ (w64 (2 * (w64 (Int.tdiv (a1.len : Int) 2)))))) p1.2
  · skip
    refine o_know 16 rfl (bool_notF h2) ?_
    refine f_no rfl rfl ?_
    refine f_no rfl rfl ?_
    refine f_op rfl rfl (s_pickT (v := .bool true) rfl rfl) ?_
    refine f_op rfl rfl (s_mv (v := .bool true) rfl) ?_
    refine f_no rfl rfl ?_
    refine f_no rfl rfl ?_
    refine f_op rfl rfl (s_pickT (v := .bool true) rfl rfl) ?_
    refine f_op rfl rfl (s_mv (v := .bool true) rfl) ?_
    refine f_no rfl rfl ?_
    refine f_no rfl rfl ?_
    refine f_no rfl rfl ?_
    refine f_no rfl rfl ?_
    refine f_no rfl rfl ?_
    refine f_op rfl rfl (s_pickT (v := .bool true) rfl rfl) ?_
    refine f_nil ?_
    refine f_keep [0, 1, 4, 6, 30] ?_
    exact s81_j0 a0 a1 ⟨true, 0, 0, 0, 0, 0⟩ (w64 (Int.tdiv (a1.len : Int) 2)) true p1.2

/- 30 congou/pairs.IsRow -/
theorem ok30 : FnOk Try.prog 30 := ⟨⟨Try.f30, Try.func30, by kernel_rfl, rfl⟩⟩
theorem s30_j0 (v1 : Int) (v2 : Sl) (v3 : Bool) (H : Hp) : Fin Try.prog Try.f30 ret30 23 (todoAt (bodyOf Try.f30) [1, 0, 1] []) [(0, .int .i64 v1), (1, .sl v2), (15, .bool v3)] H (r30_j0 v1 v2 v3 H) := by
  unfold r30_j0
  refine f_if (fun h1 => ?_) (fun h1 => ?_)
  · skip
    refine f_know 15 rfl (bool_T h1) ?_
    refine f_condT rfl ?_
    refine f_seq ?_
    refine f_region ?_
    refine f_op rfl rfl (s_as (v := .bool false) rfl) ?_
    refine f_op rfl rfl (s_as (v := .int .i64 2) rfl) ?_
    refine f_nil ?_
    exact f_ret (.tmp rfl (.tmp rfl (.nil))) rfl
  · skip
    refine f_know 15 rfl (bool_F h1) ?_
    refine f_condF rfl ?_
    refine f_skip ?_
    refine f_seq ?_
    refine f_region ?_
    refine f_op rfl rfl (s_mv (v := .int .i64 v1) rfl) ?_
    refine f_op rfl rfl (s_mv (v := .sl v2) rfl) ?_
    refine o_bind ?_; intro p2 hp2
    refine f_op rfl rfl (s_callF rfl ok81 (sim81 hp2)) ?_
    refine f_op rfl rfl (s_mv (v := .tup [.sl p2.1.1, .bool p2.1.2]) rfl) ?_
    refine f_op rfl rfl (s_extract (r := .sl p2.1.1) rfl rfl) ?_
    refine f_op rfl rfl (s_extract (r := .bool p2.1.2) rfl rfl) ?_
    refine f_op rfl rfl (s_as (v := .sl p2.1.1) rfl) ?_
    refine f_op rfl rfl (s_as (v := .bool p2.1.2) rfl) ?_
    refine f_nil ?_
    refine f_seq ?_
    refine f_region ?_
    refine f_op rfl rfl (s_mv (v := .bool p2.1.2) rfl) ?_
    refine f_op rfl rfl (s_as (v := .bool p2.1.2) rfl) ?_
    refine f_op rfl rfl (s_as (v := .int .i64 0) rfl) ?_
    refine f_nil ?_
    exact f_ret (.tmp rfl (.tmp rfl (.nil))) rfl

theorem sim30 {a0 : Int} {a1 : Sl} {H : Hp} {p : (Bool × Int) × Hp} (h : r30 a0 a1 H = some p) : CallSim Try.prog 30 [.int .i64 a0, .sl a1] H (.tup [.bool p.1.1, .int .i64 p.1.2]) p.2 := by
  refine callSim (fn := Try.f30) (ret := ret30) Try.func30 rfl Try.ntmps30 rfl ?_ h
  unfold r30
  refine f_seq ?_
  refine f_region ?_
  refine f_op rfl rfl (s_as (v := .bool false) rfl) ?_
  refine f_op rfl rfl (s_as (v := .int .i64 0) rfl) ?_
  refine f_nil ?_
  refine f_seq ?_
  refine f_seq ?_
  refine f_region ?_
  refine f_op rfl rfl (s_mv (v := .int .i64 a0) rfl) ?_
  refine o_bind ?_; intro p1 hp1
  refine f_op rfl rfl (s_callF rfl ok80 (sim80 hp1)) ?_
  refine f_op rfl rfl (s_not rfl) ?_
  refine f_op rfl rfl (s_mv (v := .bool (!p1.1)) rfl) ?_
  refine o_if (fun h2 => ?_) (fun h2 => ?_)
  · skip
    refine o_know 11 rfl (bool_notT h2) ?_
    refine f_op rfl rfl (s_mv (v := .sl a1) rfl) ?_
    refine f_op rfl rfl (s_lenS rfl Try.underlying22 rfl) ?_
    refine f_op rfl rfl (s_gtr rfl rfl) ?_
    refine f_op rfl rfl (s_pickF (v := .bool (decide (16 < (a1.len : Int)))) rfl rfl) ?_
    refine f_nil ?_
    refine f_keep [0, 1, 15] ?_
    exact s30_j0 a0 a1 (decide (16 < (a1.len : Int))) p1.2
  · skip
    refine o_know 11 rfl (bool_notF h2) ?_
    refine f_no rfl rfl ?_
    refine f_no rfl rfl ?_
    refine f_no rfl rfl ?_
    refine f_op rfl rfl (s_pickT (v := .bool true) rfl rfl) ?_
    refine f_nil ?_
    refine f_keep [0, 1, 15] ?_
    exact s30_j0 a0 a1 true p1.2

/- 36 slices.Clone[[]int,int] -/
theorem ok36 : FnOk Try.prog 36 := ⟨⟨Try.f36, Try.func36, by kernel_rfl, rfl⟩⟩
theorem sim36 {a0 : Sl} {H : Hp} {p : Sl × Hp} (h : r36 a0 H = some p) : CallSim Try.prog 36 [.sl a0] H (.sl p.1) p.2 := by
  refine callSim (fn := Try.f36) (ret := ret36) Try.func36 rfl Try.ntmps36 rfl ?_ h
  unfold r36
  refine f_seq ?_
  refine f_region ?_
  refine f_op rfl rfl (s_as (v := .sl ⟨true, 0, 0, 0, 0, 0⟩) rfl) ?_
  refine f_nil ?_
  refine f_seq ?_
  refine f_seq ?_
  refine f_region ?_
  refine f_op rfl rfl (s_mv (v := .sl a0) rfl) ?_
  refine f_op rfl rfl (s_eqNil Try.underlying22 rfl rfl) ?_
  refine f_nil ?_
  refine f_if (fun h1 => ?_) (fun h1 => ?_)
  · skip
    refine f_know 4 rfl (bool_T h1) ?_
    refine f_condT rfl ?_
    refine f_seq ?_
    refine f_region ?_
    refine f_op rfl rfl (s_as (v := .sl ⟨true, 0, 0, 0, 0, 0⟩) rfl) ?_
    refine f_nil ?_
    exact f_ret (.tmp rfl (.nil)) rfl
  · skip
    refine f_know 4 rfl (bool_F h1) ?_
    refine f_condF rfl ?_
    refine f_skip ?_
    refine f_seq ?_
    refine f_region ?_
    refine f_op rfl rfl (s_buildSlice0 Try.underlying22 ty3) ?_
    refine f_op rfl rfl (s_mv (v := .sl a0) rfl) ?_
    refine o_bind ?_; intro x2 hx2
    refine o_ck fun g3 => ?_
    refine o_bind ?_; intro x4 hx4
    refine f_op rfl rfl (s_append rfl rfl Try.underlying22 Try.underlying22 ty3 (by decide) rfl (by decide) rfl rfl hx2 g3 hx4) ?_
    refine f_op rfl rfl (s_as (v := .sl x4.1) rfl) ?_
    refine f_nil ?_
    exact f_ret (.tmp rfl (.nil)) rfl

/- 31 congou/congoulaw08.list -/
theorem ok31 : FnOk Try.prog 31 := ⟨⟨Try.f31, Try.func31, by kernel_rfl, rfl⟩⟩
theorem sim31 {a0 : Sl} {H : Hp} {p : Sl × Hp} (h : r31 a0 H = some p) : CallSim Try.prog 31 [.sl a0] H (.sl p.1) p.2 := by
  refine callSim (fn := Try.f31) (ret := ret31) Try.func31 rfl Try.ntmps31 rfl ?_ h
  unfold r31
  refine f_seq ?_
  refine f_region ?_
  refine f_op rfl rfl (s_as (v := .sl ⟨true, 0, 0, 0, 0, 0⟩) rfl) ?_
  refine f_nil ?_
  refine f_seq ?_
  refine f_region ?_
  refine f_op rfl rfl (s_mv (v := .sl a0) rfl) ?_
  refine f_op rfl rfl (s_mv (v := .sl a0) rfl) ?_
  refine f_op rfl rfl (s_lenS rfl Try.underlying22 rfl) ?_
  refine f_op rfl rfl (s_min2 rfl rfl) ?_
  refine o_ck fun g1 => ?_
  refine f_op rfl rfl (s_slice Try.underlying22 ty3 rfl rfl rfl g1.1 g1.2) ?_
  refine o_bind ?_; intro p2 hp2
  refine f_op rfl rfl (s_callF rfl ok36 (sim36 hp2)) ?_
  refine f_op rfl rfl (s_as (v := .sl p2.1) rfl) ?_
  refine f_nil ?_
  exact f_ret (.tmp rfl (.nil)) rfl

/- 32 congou/pairs.Places -/
theorem ok32 : FnOk Try.prog 32 := ⟨⟨Try.f32, Try.func32, by kernel_rfl, rfl⟩⟩
theorem sim32 {a0 : Int} {a1 : Sl} {H : Hp} {p : (Sl × Int) × Hp} (h : r32 a0 a1 H = some p) : CallSim Try.prog 32 [.int .i64 a0, .sl a1] H (.tup [.sl p.1.1, .int .i64 p.1.2]) p.2 := by
  refine callSim (fn := Try.f32) (ret := ret32) Try.func32 rfl Try.ntmps32 rfl ?_ h
  unfold r32
  refine f_seq ?_
  refine f_region ?_
  refine f_op rfl rfl (s_as (v := .sl ⟨true, 0, 0, 0, 0, 0⟩) rfl) ?_
  refine f_op rfl rfl (s_as (v := .int .i64 0) rfl) ?_
  refine f_nil ?_
  refine f_seq ?_
  refine f_region ?_
  refine f_op rfl rfl (s_mv (v := .int .i64 a0) rfl) ?_
  refine f_op rfl rfl (s_mv (v := .sl a1) rfl) ?_
  refine o_bind ?_; intro p1 hp1
  refine f_op rfl rfl (s_callF rfl ok81 (sim81 hp1)) ?_
  refine f_op rfl rfl (s_mv (v := .tup [.sl p1.1.1, .bool p1.1.2]) rfl) ?_
  refine f_op rfl rfl (s_extract (r := .sl p1.1.1) rfl rfl) ?_
  refine f_op rfl rfl (s_extract (r := .bool p1.1.2) rfl rfl) ?_
  refine f_op rfl rfl (s_as (v := .sl p1.1.1) rfl) ?_
  refine f_op rfl rfl (s_as (v := .bool p1.1.2) rfl) ?_
  refine f_nil ?_
  refine f_seq ?_
  refine f_seq ?_
  refine f_region ?_
  refine f_op rfl rfl (s_mv (v := .bool p1.1.2) rfl) ?_
  refine f_op rfl rfl (s_not rfl) ?_
  refine f_nil ?_
  refine f_if (fun h2 => ?_) (fun h2 => ?_)
  · skip
    refine f_know 15 rfl (bool_notT h2) ?_
    refine f_condF rfl ?_
    refine f_skip ?_
    refine f_seq ?_
    refine f_region ?_
    refine f_op rfl rfl (s_mv (v := .sl p1.1.1) rfl) ?_
    refine f_op rfl rfl (s_as (v := .sl p1.1.1) rfl) ?_
    refine f_op rfl rfl (s_as (v := .int .i64 0) rfl) ?_
    refine f_nil ?_
    exact f_ret (.tmp rfl (.tmp rfl (.nil))) rfl
  · skip
    refine f_know 15 rfl (bool_notF h2) ?_
    refine f_condT rfl ?_
    refine f_seq ?_
    refine f_region ?_
    refine f_op rfl rfl (s_as (v := .sl ⟨true, 0, 0, 0, 0, 0⟩) rfl) ?_
    refine f_op rfl rfl (s_as (v := .int .i64 2) rfl) ?_
    refine f_nil ?_
    exact f_ret (.tmp rfl (.tmp rfl (.nil))) rfl

/- 33 congou/congouref08.Shift -/
theorem ok33 : FnOk Try.prog 33 := ⟨⟨Try.f33, Try.func33, by kernel_rfl, rfl⟩⟩
theorem sim33 {a0 : Int} {H : Hp} {p : Bool × Hp} (h : r33 a0 H = some p) : CallSim Try.prog 33 [.int .i64 a0] H (.bool p.1) p.2 := by
  refine callSim (fn := Try.f33) (ret := ret33) Try.func33 rfl Try.ntmps33 rfl ?_ h
  unfold r33
  refine f_seq ?_
  refine f_region ?_
  refine f_op rfl rfl (s_as (v := .bool false) rfl) ?_
  refine f_nil ?_
  refine f_seq ?_
  refine f_region ?_
  refine f_op rfl rfl (s_mv (v := .int .i64 a0) rfl) ?_
  refine f_op rfl rfl (s_eql rfl rfl) ?_
  refine f_op rfl rfl (s_mv (v := .bool (decide (a0 = 1))) rfl) ?_
  refine o_if (fun h1 => ?_) (fun h1 => ?_)
  · skip
    refine o_know 5 rfl (dec_true h1) ?_
    refine f_no rfl rfl ?_
    refine f_no rfl rfl ?_
    refine f_op rfl rfl (s_pickT (v := .bool true) rfl rfl) ?_
    refine f_op rfl rfl (s_as (v := .bool true) rfl) ?_
    refine f_nil ?_
    exact f_ret (.tmp rfl (.nil)) rfl
  · skip
    refine o_know 5 rfl (dec_false h1) ?_
    refine f_op rfl rfl (s_mv (v := .int .i64 a0) rfl) ?_
    refine f_op rfl rfl (s_eql rfl rfl) ?_
    refine f_op rfl rfl (s_pickF (v := .bool (decide (a0 = 2))) rfl rfl) ?_
    refine f_op rfl rfl (s_as (v := .bool (decide (a0 = 2))) rfl) ?_
    refine f_nil ?_
    exact f_ret (.tmp rfl (.nil)) rfl

/- 78 congou/congouref08.places -/
theorem ok78 : FnOk Try.prog 78 := ⟨⟨Try.f78, Try.func78, by kernel_rfl, rfl⟩⟩
theorem s78_l0 : ∀ (k_ : Nat) (v1 : Int) (v2 : Sl) (v3 : Sl) (v4 : Int) (v5 : Int) (H : Hp), Fin Try.prog Try.f78 ret78 24 (todoAt (bodyOf Try.f78) [1, 1, 0, 1, 0, 0] []) [(1, .int .i64 v1), (5, .sl v2), (8, .sl v3), (9, .int .i64 v4), (10, .int .i64 v5)] H (r78_l0 k_ v1 v2 v3 v4 v5 H) := by
  intro k_
  induction k_ with
  | zero => intro _ _ _ _ _ _; exact f_none
  | succ k_ ih =>
    intro v1 v2 v3 v4 v5 H
    rw [r78_l0]
    refine f_seq ?_
    refine f_region ?_
    refine f_op rfl rfl (s_lss rfl rfl) ?_
    refine f_nil ?_
    refine f_seq ?_
    refine f_if (fun h1 => ?_) (fun h1 => ?_)
    · skip
      refine f_know 11 rfl (dec_true h1) ?_
      refine f_condT rfl ?_
      refine f_skip ?_
      refine f_seq ?_
      refine f_block ?_
      refine f_seq ?_
      refine f_region ?_
      refine f_op rfl rfl (s_mv (v := .int .i64 v5) rfl) ?_
      refine o_ck fun g2 => ?_
      refine f_op rfl rfl (s_idx Try.underlying22 ty3 rfl rfl g2) ?_
      refine o_bind ?_; intro x3 hx3
      refine f_op rfl rfl (s_load Try.underlying3 rfl rfl (ldI_eq hx3)) ?_
      refine f_op rfl rfl (s_as (v := .int .i64 v5) rfl) ?_
      refine f_op rfl rfl (s_as (v := .int .i64 x3) rfl) ?_
      refine f_nil ?_
      refine f_seq ?_
      refine f_region ?_
      refine f_op rfl rfl (s_mv (v := .int .i64 x3) rfl) ?_
      refine f_op rfl rfl (s_mv (v := .int .i64 v1) rfl) ?_
      refine f_op rfl rfl (s_eql rfl rfl) ?_
      refine f_nil ?_
      refine f_if (fun h4 => ?_) (fun h4 => ?_)
      · skip
        refine f_know 17 rfl (dec_true h4) ?_
        refine f_condT rfl ?_
        refine f_region ?_
        refine f_op rfl rfl (s_mv (v := .sl v2) rfl) ?_
        refine f_op rfl rfl (s_mv (v := .int .i64 v5) rfl) ?_
        refine f_op rfl rfl (s_buildSlice (cs := [.int .i64 v5]) Try.underlying22 ty3 (by decide) (by decide) rfl (by decide) rfl) ?_
        refine o_bind ?_; intro x5 hx5
        refine f_op rfl rfl (s_ap rfl rfl Try.underlying22 Try.underlying22 ty3 rfl rfl rfl rfl rfl rfl rfl hx5) ?_
        refine f_op rfl rfl (s_as (v := .sl x5.1) rfl) ?_
        refine f_nil ?_
        refine f_inBlock ?_
        refine f_region ?_
        refine f_op rfl rfl (s_add rfl rfl) ?_
        refine f_op rfl rfl (s_mv (v := .int .i64 (w64 (v5 + 1))) rfl) ?_
        refine f_nil ?_
        refine f_inLoop ?_
        refine f_keep [1, 5, 8, 9, 10] ?_
        exact ih v1 x5.1 v3 v4 (w64 (v5 + 1)) x5.2
      · skip
        refine f_know 17 rfl (dec_false h4) ?_
        refine f_condF rfl ?_
        refine f_skip ?_
        refine f_inBlock ?_
        refine f_region ?_
        refine f_op rfl rfl (s_add rfl rfl) ?_
        refine f_op rfl rfl (s_mv (v := .int .i64 (w64 (v5 + 1))) rfl) ?_
        refine f_nil ?_
        refine f_inLoop ?_
        refine f_keep [1, 5, 8, 9, 10] ?_
        exact ih v1 v2 v3 v4 (w64 (v5 + 1)) H
    · skip
      refine f_know 11 rfl (dec_false h1) ?_
      refine f_condF rfl ?_
      refine f_exit rfl ?_
      refine f_seq ?_
      refine f_region ?_
      refine f_op rfl rfl (s_mv (v := .sl v2) rfl) ?_
      refine f_op rfl rfl (s_as (v := .sl v2) rfl) ?_
      refine f_nil ?_
      exact f_ret (.tmp rfl (.nil)) rfl

theorem sim78 {a0 : Sl} {a1 : Int} {H : Hp} {p : Sl × Hp} (h : r78 a0 a1 H = some p) : CallSim Try.prog 78 [.sl a0, .int .i64 a1] H (.sl p.1) p.2 := by
  refine callSim (fn := Try.f78) (ret := ret78) Try.func78 rfl Try.ntmps78 rfl ?_ h
  unfold r78
  refine f_seq ?_
  refine f_region ?_
  refine f_op rfl rfl (s_as (v := .sl ⟨true, 0, 0, 0, 0, 0⟩) rfl) ?_
  refine f_nil ?_
  refine f_seq ?_
  refine f_region ?_
  refine f_op rfl rfl (s_as (v := .sl ⟨true, 0, 0, 0, 0, 0⟩) rfl) ?_
  refine f_nil ?_
  refine f_seq ?_
  refine f_seq ?_
  refine f_region ?_
  refine f_op rfl rfl (s_mv (v := .sl a0) rfl) ?_
  refine f_op rfl rfl (s_lenS rfl Try.underlying22 rfl) ?_
  refine f_op rfl rfl (s_mv (v := .int .i64 0) rfl) ?_
  refine f_nil ?_
  refine f_block ?_
  refine f_loop ?_
  refine f_keep [1, 5, 8, 9, 10] ?_
  exact s78_l0 FUEL a1 ⟨true, 0, 0, 0, 0, 0⟩ a0 (a0.len : Int) 0 H

/- 34 congou/congouref08.IsRow -/
theorem ok34 : FnOk Try.prog 34 := ⟨⟨Try.f34, Try.func34, by kernel_rfl, rfl⟩⟩
theorem s34_j2 (kt1 : Int → Sl → Int → Int → Hp → Option (Bool × Hp)) (hkt1 : ∀ (v1 : Int) (v2 : Sl) (v3 : Int) (v4 : Int) (H : Hp), Fin Try.prog Try.f34 ret34 49 (todoAt (bodyOf Try.f34) [1, 1, 1, 0, 1, 0, 0] []) [(0, .int .i64 v1), (1, .sl v2), (5, .int .i64 v3), (6, .int .i64 v4)] H (kt1 v1 v2 v3 v4 H)) (v1 : Int) (v2 : Sl) (v3 : Int) (v4 : Int) (v5 : Bool) (H : Hp) : Fin Try.prog Try.f34 ret34 49 (todoAt (bodyOf Try.f34) [1, 1, 1, 0, 1, 0, 0, 1, 0, 0, 1, 1] []) [(0, .int .i64 v1), (1, .sl v2), (5, .int .i64 v3), (6, .int .i64 v4), (48, .bool v5)] H (r34_j2 kt1 v1 v2 v3 v4 v5 H) := by
  unfold r34_j2
  refine f_if (fun h1 => ?_) (fun h1 => ?_)
  · skip
    refine f_know 48 rfl (bool_T h1) ?_
    refine f_condT rfl ?_
    refine f_seq ?_
    refine f_region ?_
    refine f_op rfl rfl (s_as (v := .bool false) rfl) ?_
    refine f_nil ?_
    exact f_ret (.tmp rfl (.nil)) rfl
  · skip
    refine f_know 48 rfl (bool_F h1) ?_
    refine f_condF rfl ?_
    refine f_skip ?_
    refine f_inBlock ?_
    refine f_region ?_
    refine f_op rfl rfl (s_mv (v := .int .i64 v4) rfl) ?_
    refine f_op rfl rfl (s_add rfl rfl) ?_
    refine f_op rfl rfl (s_as (v := .int .i64 (w64 (v4 + 1))) rfl) ?_
    refine f_nil ?_
    refine f_inLoop ?_
    refine f_keep [0, 1, 5, 6] ?_
    exact hkt1 v1 v2 v3 (w64 (v4 + 1)) H

theorem s34_l1 : ∀ (k_ : Nat) (v1 : Int) (v2 : Sl) (v3 : Int) (v4 : Int) (H : Hp), Fin Try.prog Try.f34 ret34 49 (todoAt (bodyOf Try.f34) [1, 1, 1, 0, 1, 0, 0] []) [(0, .int .i64 v1), (1, .sl v2), (5, .int .i64 v3), (6, .int .i64 v4)] H (r34_l1 k_ v1 v2 v3 v4 H) := by
  intro k_
  induction k_ with
  | zero => intro _ _ _ _ _; exact f_none
  | succ k_ ih =>
    intro v1 v2 v3 v4 H
    rw [r34_l1]
    refine f_seq ?_
    refine f_seq ?_
    refine f_region ?_
    refine f_op rfl rfl (s_mv (v := .int .i64 v4) rfl) ?_
    refine f_op rfl rfl (s_mv (v := .int .i64 v3) rfl) ?_
    refine f_op rfl rfl (s_leq rfl rfl) ?_
    refine f_nil ?_
    refine f_if (fun h1 => ?_) (fun h1 => ?_)
    · skip
      refine f_know 26 rfl (dec_true h1) ?_
      refine f_condT rfl ?_
      refine f_skip ?_
      refine f_seq ?_
      refine f_block ?_
      refine f_seq ?_
      refine f_region ?_
      refine f_op rfl rfl (s_mv (v := .sl v2) rfl) ?_
      refine f_op rfl rfl (s_mv (v := .int .i64 v4) rfl) ?_
      refine o_bind ?_; intro p2 hp2
      refine f_op rfl rfl (s_callF rfl ok78 (sim78 hp2)) ?_
      refine f_op rfl rfl (s_as (v := .sl p2.1) rfl) ?_
      refine f_nil ?_
      refine f_seq ?_
      refine f_if (fun h3 => ?_) (fun h3 => ?_)
      · skip
        refine f_draw (Φ := fun _ => True) [0, 0, 0, 0, 0, 0, 0, 0, 0, 0, 0, 0, 0, 0, 0, 0, 0] (Trc.pure rfl rfl rfl (fun _ _ => s_mv (v := .sl p2.1) rfl) (Trc.pure rfl rfl rfl (fun _ _ => s_lenS rfl Try.underlying22 rfl) (Trc.pure rfl rfl rfl (fun _ _ => s_neq rfl rfl) (Trc.pure rfl rfl rfl (fun _ _ => s_mv (v := .bool (decide ((p2.1.len : Int) ≠ 2))) rfl) (Trc.know 35 rfl (dec_true h3) (Trc.no rfl rfl rfl (Trc.no rfl rfl rfl (Trc.no rfl rfl rfl (Trc.no rfl rfl rfl (Trc.no rfl rfl rfl (Trc.no rfl rfl rfl (Trc.no rfl rfl rfl (Trc.no rfl rfl rfl (Trc.no rfl rfl rfl (Trc.no rfl rfl rfl (Trc.no rfl rfl rfl (Trc.no rfl rfl rfl (Trc.pure rfl rfl rfl (fun _ _ => s_pickT (v := .bool true) rfl rfl) (Trc.nil (trivial)))))))))))))))))))) rfl (by decide +kernel) mixed ?_
        refine f_keep [0, 1, 5, 6, 48] ?_
        exact s34_j2 _ (fun v1_ v2_ v3_ v4_ H_ => ih v1_ v2_ v3_ v4_ H_) v1 v2 v3 v4 true p2.2
      · skip
        refine f_ck fun g4 => ?_
        refine f_bind ?_; intro x5 hx5
        refine f_ck fun g6 => ?_
        refine f_bind ?_; intro x7 hx7
        refine f_draw (Φ := fun _ => True) [0, 0, 0, 0, 0, 0, 1, 0, 0, 1, 0, 0, 0, 0, 0, 0, 0] (Trc.pure rfl rfl rfl (fun _ _ => s_mv (v := .sl p2.1) rfl) (Trc.pure rfl rfl rfl (fun _ _ => s_lenS rfl Try.underlying22 rfl) (Trc.pure rfl rfl rfl (fun _ _ => s_neq rfl rfl) (Trc.pure rfl rfl rfl (fun _ _ => s_mv (v := .bool (decide ((p2.1.len : Int) ≠ 2))) rfl) (Trc.know 35 rfl (dec_false h3) (Trc.pure rfl rfl rfl (fun _ _ => s_mv (v := .sl p2.1) rfl) (Trc.pure rfl rfl rfl (fun _ _ => s_idx Try.underlying22 ty3 rfl rfl g4) (Trc.read rfl rfl rfl (s_load Try.underlying3 rfl rfl (ldI_eq hx5)) (Trc.pure rfl rfl rfl (fun _ _ => s_mv (v := .sl p2.1) rfl) (Trc.pure rfl rfl rfl (fun _ _ => s_idx Try.underlying22 ty3 rfl rfl g6) (Trc.read rfl rfl rfl (s_load Try.underlying3 rfl rfl (ldI_eq hx7)) (Trc.pure rfl rfl rfl (fun _ _ => s_sub rfl rfl) (Trc.pure rfl rfl rfl (fun _ _ => s_mv (v := .int .i64 v4) rfl) (Trc.pure rfl rfl rfl (fun _ _ => s_mv (v := .int .i64 v1) rfl) (Trc.pure rfl rfl rfl (fun _ _ => s_add rfl rfl) (Trc.pure rfl rfl rfl (fun _ _ => s_sub rfl rfl) (Trc.pure rfl rfl rfl (fun _ _ => s_neq rfl rfl) (Trc.pure rfl rfl rfl (fun _ _ => s_pickF (v := .bool (decide ((w64 (x5 - x7)) ≠ (w64 ((w64 (v4 + v1)) - 1))))) rfl rfl) (Trc.nil (trivial)))))))))))))))))))) rfl (by decide +kernel) mixed ?_
        refine f_keep [0, 1, 5, 6, 48] ?_
        exact s34_j2 _ (fun v1_ v2_ v3_ v4_ H_ => ih v1_ v2_ v3_ v4_ H_) v1 v2 v3 v4 (decide ((w64 (x5 - x7)) ≠ (w64 ((w64 (v4 + v1)) - 1)))) p2.2
    · skip
      refine f_know 26 rfl (dec_false h1) ?_
      refine f_condF rfl ?_
      refine f_exit rfl ?_
      refine f_seq ?_
      refine f_region ?_
      refine f_op rfl rfl (s_as (v := .bool true) rfl) ?_
      refine f_nil ?_
      exact f_ret (.tmp rfl (.nil)) rfl

theorem s34_j0 (v1 : Int) (v2 : Sl) (v3 : Int) (v4 : Bool) (H : Hp) : Fin Try.prog Try.f34 ret34 49 (todoAt (bodyOf Try.f34) [1, 1, 0, 1] []) [(0, .int .i64 v1), (1, .sl v2), (5, .int .i64 v3), (23, .bool v4)] H (r34_j0 v1 v2 v3 v4 H) := by
  unfold r34_j0
  refine f_if (fun h1 => ?_) (fun h1 => ?_)
  · skip
    refine f_know 23 rfl (bool_T h1) ?_
    refine f_condT rfl ?_
    refine f_seq ?_
    refine f_region ?_
    refine f_op rfl rfl (s_as (v := .bool false) rfl) ?_
    refine f_nil ?_
    exact f_ret (.tmp rfl (.nil)) rfl
  · skip
    refine f_know 23 rfl (bool_F h1) ?_
    refine f_condF rfl ?_
    refine f_skip ?_
    refine f_seq ?_
    refine f_seq ?_
    refine f_region ?_
    refine f_op rfl rfl (s_as (v := .int .i64 1) rfl) ?_
    refine f_nil ?_
    refine f_block ?_
    refine f_loop ?_
    refine f_keep [0, 1, 5, 6] ?_
    exact s34_l1 FUEL v1 v2 v3 1 H

theorem sim34 {a0 : Int} {a1 : Sl} {H : Hp} {p : Bool × Hp} (h : r34 a0 a1 H = some p) : CallSim Try.prog 34 [.int .i64 a0, .sl a1] H (.bool p.1) p.2 := by
  refine callSim (fn := Try.f34) (ret := ret34) Try.func34 rfl Try.ntmps34 rfl ?_ h
  unfold r34
  refine f_seq ?_
  refine f_region ?_
  refine f_op rfl rfl (s_as (v := .bool false) rfl) ?_
  refine f_nil ?_
  refine f_seq ?_
  refine f_region ?_
  refine f_op rfl rfl (s_mv (v := .sl a1) rfl) ?_
  refine f_op rfl rfl (s_lenS rfl Try.underlying22 rfl) ?_
  refine f_op rfl rfl (s_quo rfl rfl (by decide)) ?_
  refine f_op rfl rfl (s_as (v := .int .i64 (w64 (Int.tdiv (a1.len : Int) 2))) rfl) ?_
  refine f_nil ?_
  refine f_seq ?_
  refine f_seq ?_
  refine f_region ?_
  refine f_op rfl rfl (s_mv (v := .int .i64 (w64 (Int.tdiv (a1.len : Int) 2))) rfl) ?_
  refine f_op rfl rfl (s_lss rfl rfl) ?_
  refine f_op rfl rfl (s_mv (v := .bool (decide ((w64 (Int.tdiv (a1.len : Int) 2)) < 1))) rfl) ?_
  refine o_if (fun h1 => ?_) (fun h1 => ?_)
  · skip
    refine o_know 13 rfl (dec_true h1) ?_
    refine f_no rfl rfl ?_
    refine f_no rfl rfl ?_
    refine f_op rfl rfl (s_pickT (v := .bool true) rfl rfl) ?_
    refine f_op rfl rfl (s_mv (v := .bool true) rfl) ?_
    refine f_no rfl rfl ?_
    refine f_no rfl rfl ?_
    refine f_no rfl rfl ?_
    refine f_no rfl rfl ?_
    refine f_no rfl rfl ?_
    refine f_op rfl rfl (s_pickT (v := .bool true) rfl rfl) ?_
    refine f_nil ?_
    refine f_keep [0, 1, 5, 23] ?_
    exact s34_j0 a0 a1 (w64 (Int.tdiv (a1.len : Int) 2)) true H
  · skip
    refine o_know 13 rfl (dec_false h1) ?_
    refine f_op rfl rfl (s_mv (v := .int .i64 (w64 (Int.tdiv (a1.len : Int) 2))) rfl) ?_
    refine f_op rfl rfl (s_gtr rfl rfl) ?_
    refine f_op rfl rfl (s_pickF (v := .bool (decide (8 < (w64 (Int.tdiv (a1.len : Int) 2))))) rfl rfl) ?_
    refine f_op rfl rfl (s_mv (v := .bool (decide (8 < (w64 (Int.tdiv (a1.len : Int) 2))))) rfl) ?_
    refine o_if (fun h2 => ?_) (fun h2 => ?_)
    · skip
      refine o_know 17 rfl (dec_true h2) ?_
      refine f_no rfl rfl ?_
      refine f_no rfl rfl ?_
      refine f_no rfl rfl ?_
      refine f_no rfl rfl ?_
      refine f_no rfl rfl ?_
      refine f_op rfl rfl (s_pickT (v := .bool true) rfl rfl) ?_
      refine f_nil ?_
      refine f_keep [0, 1, 5, 23] ?_
      exact s34_j0 a0 a1 (w64 (Int.tdiv (a1.len : Int) 2)) true H
    · skip
      refine o_know 17 rfl (dec_false h2) ?_
      refine f_op rfl rfl (s_mv (v := .sl a1) rfl) ?_
      refine f_op rfl rfl (s_lenS rfl Try.underlying22 rfl) ?_
      refine f_op rfl rfl (s_mv (v := .int .i64 (w64 (Int.tdiv (a1.len : Int) 2))) rfl) ?_
      refine f_op rfl rfl (s_mul rfl rfl) ?_
      refine f_op rfl rfl (s_neq rfl rfl) ?_
      refine f_op rfl rfl (s_pickF (v := .bool (decide ((a1.len : Int) ≠ (w64 (2 * (w64 (Int.tdiv (a1.len : Int) 2))))))) rfl rfl) ?_
      refine f_nil ?_
      refine f_keep [0, 1, 5, 23] ?_
      exact s34_j0 a0 a1 (w64 (Int.tdiv (a1.len : Int) 2)) (decide ((a1.len : Int) ≠ (w64 (2 * (w64 (Int.tdiv (a1.len : Int) 2)))))) H

end Go.Lt.P8
