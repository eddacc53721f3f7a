/- PRINTED BY A PROGRAM OF OURS: what each function that 'PairsFirst' reaches computes on the abstract heap, and that the translated code does just that. Nothing is asked of the input. -/
import Derived.Test.YthmhdbmpeepmaaaG3R0
set_option linter.unusedVariables false
set_option linter.unusedSimpArgs false
set_option maxRecDepth 100000
set_option maxHeartbeats 4000000
namespace Go.Lt.P8
open Go Go.Lt Go.Proofs
/- 80 congou/pairs.isShift -/
theorem ok80 : FnOk Try.prog 80 := ⟨⟨Try.f80, Try.func80, by kernel_rfl, rfl⟩⟩
theorem sim80 {a0 : Int} {H : Hp} {p : Bool × Hp} (h : r80 a0 H = some p) : CallSim Try.prog 80 [.int .i64 a0] H (.bool p.1) p.2 := by
  refine callSim (fn := Try.f80) (ret := ret80) Try.func80 rfl Try.ntmps80 rfl ?_ h
  unfold r80
  refine f_seq ?_
  refine f_region ?_
  refine f_op rfl rfl (s_as (v := .bool false) rfl) ?_
  refine f_nil ?_
  refine f_seq ?_
  refine f_region ?_
  refine f_op rfl rfl (s_mv (v := .int .i64 a0) rfl) ?_
  refine f_op rfl rfl (s_eql rfl rfl) ?_
  refine f_op rfl rfl (s_mv (v := .bool (decide (a0 = 1))) rfl) ?_
  refine o_if (fun h1 => ?_) (fun h1 => ?_)
  · skip
    refine o_know 5 rfl (dec_true h1) ?_
    refine f_no rfl rfl ?_
    refine f_no rfl rfl ?_
    refine f_op rfl rfl (s_pickT (v := .bool true) rfl rfl) ?_
    refine f_op rfl rfl (s_as (v := .bool true) rfl) ?_
    refine f_nil ?_
    exact f_ret (.tmp rfl (.nil)) rfl
  · skip
    refine o_know 5 rfl (dec_false h1) ?_
    refine f_op rfl rfl (s_mv (v := .int .i64 a0) rfl) ?_
    refine f_op rfl rfl (s_eql rfl rfl) ?_
    refine f_op rfl rfl (s_pickF (v := .bool (decide (a0 = 2))) rfl rfl) ?_
    refine f_op rfl rfl (s_as (v := .bool (decide (a0 = 2))) rfl) ?_
    refine f_nil ?_
    exact f_ret (.tmp rfl (.nil)) rfl

/- 72 congou/pairs.isRows -/
theorem ok72 : FnOk Try.prog 72 := ⟨⟨Try.f72, Try.func72, by kernel_rfl, rfl⟩⟩
theorem sim72 {a0 : Int} {a1 : Int} {H : Hp} {p : Bool × Hp} (h : r72 a0 a1 H = some p) : CallSim Try.prog 72 [.int .i64 a0, .int .i64 a1] H (.bool p.1) p.2 := by
  refine callSim (fn := Try.f72) (ret := ret72) Try.func72 rfl Try.ntmps72 rfl ?_ h
  unfold r72
  refine f_seq ?_
  refine f_region ?_
  refine f_op rfl rfl (s_as (v := .bool false) rfl) ?_
  refine f_nil ?_
  refine f_seq ?_
  refine f_region ?_
  refine f_op rfl rfl (s_mv (v := .int .i64 a0) rfl) ?_
  refine f_op rfl rfl (s_geq rfl rfl) ?_
  refine f_op rfl rfl (s_mv (v := .bool (decide (1 ≤ a0))) rfl) ?_
  refine o_if (fun h1 => ?_) (fun h1 => ?_)
  · skip
    refine o_know 7 rfl (dec_true h1) ?_
    refine f_op rfl rfl (s_mv (v := .int .i64 a0) rfl) ?_
    refine f_op rfl rfl (s_leq rfl rfl) ?_
    refine f_op rfl rfl (s_pickT (v := .bool (decide (a0 ≤ 8))) rfl rfl) ?_
    refine f_op rfl rfl (s_mv (v := .bool (decide (a0 ≤ 8))) rfl) ?_
    refine o_if (fun h2 => ?_) (fun h2 => ?_)
    · skip
      refine o_know 11 rfl (dec_true h2) ?_
      refine f_op rfl rfl (s_mv (v := .int .i64 a1) rfl) ?_
      refine o_bind ?_; intro p3 hp3
      refine f_op rfl rfl (s_callF rfl ok80 (sim80 hp3)) ?_
      refine f_op rfl rfl (s_pickT (v := .bool p3.1) rfl rfl) ?_
      refine f_op rfl rfl (s_as (v := .bool p3.1) rfl) ?_
      refine f_nil ?_
      exact f_ret (.tmp rfl (.nil)) rfl
    · skip
      refine o_know 11 rfl (dec_false h2) ?_
      refine f_no rfl rfl ?_
      refine f_no rfl rfl ?_
      refine f_op rfl rfl (s_pickF (v := .bool false) rfl rfl) ?_
      refine f_op rfl rfl (s_as (v := .bool false) rfl) ?_
      refine f_nil ?_
      exact f_ret (.tmp rfl (.nil)) rfl
  · skip
    refine o_know 7 rfl (dec_false h1) ?_
    refine f_no rfl rfl ?_
    refine f_no rfl rfl ?_
    refine f_op rfl rfl (s_pickF (v := .bool false) rfl rfl) ?_
    refine f_op rfl rfl (s_mv (v := .bool false) rfl) ?_
    refine f_no rfl rfl ?_
    refine f_no rfl rfl ?_
    refine f_op rfl rfl (s_pickF (v := .bool false) rfl rfl) ?_
    refine f_op rfl rfl (s_as (v := .bool false) rfl) ?_
    refine f_nil ?_
    exact f_ret (.tmp rfl (.nil)) rfl

/- 73 congou/pairs.rows -/
theorem ok73 : FnOk Try.prog 73 := ⟨⟨Try.f73, Try.func73, by kernel_rfl, rfl⟩⟩
theorem sim73 {app : App} (happ : AppSim Try.prog app) {a0 : Int} {a1 : Int} {a2 : AV} {H : Hp} {p : Unit × Hp} (h : r73 app a0 a1 a2 H = some p) : CallSim Try.prog 73 [.int .i64 a0, .int .i64 a1, a2] H (.tup []) p.2 := by
  refine callSim (fn := Try.f73) (ret := ret73) Try.func73 rfl Try.ntmps73 rfl ?_ h
  unfold r73
  refine f_seq ?_
  refine f_region ?_
  refine f_op rfl rfl (s_box1 (v := .int .i64 a0) rfl rfl) ?_
  refine f_op rfl rfl (s_box1 (v := .int .i64 a1) rfl rfl) ?_
  refine o_ck fun g1 => ?_
  refine f_op rfl rfl (s_box1 (v := a2) rfl g1) ?_
  refine o_hp ?_; intro H2 hH2
  refine f_nil ?_
  refine f_seq ?_
  refine f_region ?_
  refine o_bind ?_; intro x3 hx3
  refine f_op rfl rfl (s_load Try.underlying3 rfl rfl (ldI_eq hx3)) ?_
  refine f_op rfl rfl (s_mul rfl rfl) ?_
  refine o_ck fun g4 => ?_
  refine f_op rfl rfl (s_makeSlice Try.underlying22 ty3 rfl rfl (by decide) (by decide) rfl rfl g4) ?_
  refine f_op rfl rfl (s_alloc (zs := [.sl ⟨true, 0, 0, 0, 0, 0⟩]) ty22 rfl rfl) ?_
  refine o_bind ?_; intro H5 hH5
  refine f_op rfl rfl (s_store (s := 1) ty22 rfl rfl rfl hH5) ?_
  refine f_nil ?_
  refine f_seq ?_
  refine f_region ?_
  refine f_op rfl rfl (s_alloc (zs := [.nilfn]) ty37 rfl rfl) ?_
  refine o_hp ?_; intro H6 hH6
  refine f_nil ?_
  refine f_seq ?_
  refine f_region ?_
  refine f_op rfl rfl (s_makeFunc rfl rfl) ?_
  refine o_bind ?_; intro H7 hH7
  refine f_op rfl rfl (s_store (s := 1) ty37 rfl rfl rfl hH7) ?_
  refine f_nil ?_
  refine f_region ?_
  refine o_bind ?_; intro x8 hx8
  refine f_op rfl rfl (s_load Try.underlying37 rfl rfl (ldV_eq hx8)) ?_
  refine o_bind ?_; intro p9 hp9
  refine o_bind ?_; intro x10 hx10
  refine f_op rfl rfl (s_callv happ rfl rfl hp9) ?_
  refine o_know 13 rfl (asB_eq hx10) ?_
  refine f_nil ?_
  exact f_end (.nil) rfl

/- 20 congou/pairs.First -/
theorem ok20 : FnOk Try.prog 20 := ⟨⟨Try.f20, Try.func20, by kernel_rfl, rfl⟩⟩
theorem sim20 {app : App} (happ : AppSim Try.prog app) {a0 : Int} {a1 : Int} {H : Hp} {p : (Sl × Int) × Hp} (h : r20 app a0 a1 H = some p) : CallSim Try.prog 20 [.int .i64 a0, .int .i64 a1] H (.tup [.sl p.1.1, .int .i64 p.1.2]) p.2 := by
  refine callSim (fn := Try.f20) (ret := ret20) Try.func20 rfl Try.ntmps20 rfl ?_ h
  unfold r20
  refine f_seq ?_
  refine f_region ?_
  refine f_op rfl rfl (s_as (v := .sl ⟨true, 0, 0, 0, 0, 0⟩) rfl) ?_
  refine f_op rfl rfl (s_as (v := .int .i64 0) rfl) ?_
  refine f_nil ?_
  refine f_seq ?_
  refine f_seq ?_
  refine f_region ?_
  refine f_op rfl rfl (s_mv (v := .int .i64 a0) rfl) ?_
  refine f_op rfl rfl (s_mv (v := .int .i64 a1) rfl) ?_
  refine o_bind ?_; intro p1 hp1
  refine f_op rfl rfl (s_callF rfl ok72 (sim72 hp1)) ?_
  refine f_op rfl rfl (s_not rfl) ?_
  refine f_nil ?_
  refine f_if (fun h2 => ?_) (fun h2 => ?_)
  · skip
    refine f_know 10 rfl (bool_notT h2) ?_
    refine f_condF rfl ?_
    refine f_skip ?_
    refine f_seq ?_
    refine f_region ?_
    refine f_op rfl rfl (s_alloc (zs := [.sl ⟨true, 0, 0, 0, 0, 0⟩]) ty22 rfl rfl) ?_
    refine o_hp ?_; intro H3 hH3
    refine f_nil ?_
    refine f_seq ?_
    refine f_region ?_
    refine f_op rfl rfl (s_mv (v := .int .i64 a0) rfl) ?_
    refine f_op rfl rfl (s_mv (v := .int .i64 a1) rfl) ?_
    refine f_op rfl rfl (s_makeFunc rfl rfl) ?_
    refine o_bind ?_; intro p4 hp4
    refine f_op rfl rfl (s_callF rfl ok73 (sim73 happ hp4)) ?_
    refine f_nil ?_
    refine f_seq ?_
    refine f_seq ?_
    refine f_region ?_
    refine o_bind ?_; intro x5 hx5
    refine f_op rfl rfl (s_load Try.underlying22 rfl rfl (ldSl_eq hx5)) ?_
    refine f_op rfl rfl (s_eqNil Try.underlying22 rfl rfl) ?_
    refine f_nil ?_
    refine f_if (fun h6 => ?_) (fun h6 => ?_)
    · skip
      refine f_know 16 rfl (bool_T h6) ?_
      refine f_condT rfl ?_
      refine f_seq ?_
      refine f_region ?_
      refine f_op rfl rfl (s_as (v := .sl ⟨true, 0, 0, 0, 0, 0⟩) rfl) ?_
      refine f_op rfl rfl (s_as (v := .int .i64 4) rfl) ?_
      refine f_nil ?_
      exact f_ret (.tmp rfl (.tmp rfl (.nil))) rfl
    · skip
      refine f_know 16 rfl (bool_F h6) ?_
      refine f_condF rfl ?_
      refine f_skip ?_
      refine f_seq ?_
      refine f_region ?_
      refine o_bind ?_; intro x7 hx7
      refine f_op rfl rfl (s_load Try.underlying22 rfl rfl (ldSl_eq hx7)) ?_
      refine f_op rfl rfl (s_as (v := .sl x7) rfl) ?_
      refine f_op rfl rfl (s_as (v := .int .i64 0) rfl) ?_
      refine f_nil ?_
      exact f_ret (.tmp rfl (.tmp rfl (.nil))) rfl
  · skip
    refine f_know 10 rfl (bool_notF h2) ?_
    refine f_condT rfl ?_
    refine f_seq ?_
    refine f_region ?_
    refine f_op rfl rfl (s_as (v := .sl ⟨true, 0, 0, 0, 0, 0⟩) rfl) ?_
    refine f_op rfl rfl (s_as (v := .int .i64 2) rfl) ?_
    refine f_nil ?_
    exact f_ret (.tmp rfl (.tmp rfl (.nil))) rfl

/- 21 congou/pairs.Count -/
theorem ok21 : FnOk Try.prog 21 := ⟨⟨Try.f21, Try.func21, by kernel_rfl, rfl⟩⟩
theorem sim21 {app : App} (happ : AppSim Try.prog app) {a0 : Int} {a1 : Int} {H : Hp} {p : (Int × Int) × Hp} (h : r21 app a0 a1 H = some p) : CallSim Try.prog 21 [.int .i64 a0, .int .i64 a1] H (.tup [.int .i64 p.1.1, .int .i64 p.1.2]) p.2 := by
  refine callSim (fn := Try.f21) (ret := ret21) Try.func21 rfl Try.ntmps21 rfl ?_ h
  unfold r21
  refine f_seq ?_
  refine f_region ?_
  refine f_op rfl rfl (s_as (v := .int .i64 0) rfl) ?_
  refine f_op rfl rfl (s_as (v := .int .i64 0) rfl) ?_
  refine f_nil ?_
  refine f_seq ?_
  refine f_seq ?_
  refine f_region ?_
  refine f_op rfl rfl (s_mv (v := .int .i64 a0) rfl) ?_
  refine f_op rfl rfl (s_mv (v := .int .i64 a1) rfl) ?_
  refine o_bind ?_; intro p1 hp1
  refine f_op rfl rfl (s_callF rfl ok72 (sim72 hp1)) ?_
  refine f_op rfl rfl (s_not rfl) ?_
  refine f_nil ?_
  refine f_if (fun h2 => ?_) (fun h2 => ?_)
  · skip
    refine f_know 10 rfl (bool_notT h2) ?_
    refine f_condF rfl ?_
    refine f_skip ?_
    refine f_seq ?_
    refine f_region ?_
    refine f_op rfl rfl (s_alloc (zs := [.int .i64 0]) ty3 rfl rfl) ?_
    refine o_bind ?_; intro H3 hH3
    refine f_op rfl rfl (s_store (s := 1) ty3 rfl rfl rfl hH3) ?_
    refine f_nil ?_
    refine f_seq ?_
    refine f_region ?_
    refine f_op rfl rfl (s_mv (v := .int .i64 a0) rfl) ?_
    refine f_op rfl rfl (s_mv (v := .int .i64 a1) rfl) ?_
    refine f_op rfl rfl (s_makeFunc rfl rfl) ?_
    refine o_bind ?_; intro p4 hp4
    refine f_op rfl rfl (s_callF rfl ok73 (sim73 happ hp4)) ?_
    refine f_nil ?_
    refine f_seq ?_
    refine f_region ?_
    refine o_bind ?_; intro x5 hx5
    refine f_op rfl rfl (s_load Try.underlying3 rfl rfl (ldI_eq hx5)) ?_
    refine f_op rfl rfl (s_as (v := .int .i64 x5) rfl) ?_
    refine f_op rfl rfl (s_as (v := .int .i64 0) rfl) ?_
    refine f_nil ?_
    exact f_ret (.tmp rfl (.tmp rfl (.nil))) rfl
  · skip
    refine f_know 10 rfl (bool_notF h2) ?_
    refine f_condT rfl ?_
    refine f_seq ?_
    refine f_region ?_
    refine f_op rfl rfl (s_as (v := .int .i64 0) rfl) ?_
    refine f_op rfl rfl (s_as (v := .int .i64 2) rfl) ?_
    refine f_nil ?_
    exact f_ret (.tmp rfl (.tmp rfl (.nil))) rfl

/- 33 congou/congouref08.Shift -/
theorem ok33 : FnOk Try.prog 33 := ⟨⟨Try.f33, Try.func33, by kernel_rfl, rfl⟩⟩
theorem sim33 {a0 : Int} {H : Hp} {p : Bool × Hp} (h : r33 a0 H = some p) : CallSim Try.prog 33 [.int .i64 a0] H (.bool p.1) p.2 := by
  refine callSim (fn := Try.f33) (ret := ret33) Try.func33 rfl Try.ntmps33 rfl ?_ h
  unfold r33
  refine f_seq ?_
  refine f_region ?_
  refine f_op rfl rfl (s_as (v := .bool false) rfl) ?_
  refine f_nil ?_
  refine f_seq ?_
  refine f_region ?_
  refine f_op rfl rfl (s_mv (v := .int .i64 a0) rfl) ?_
  refine f_op rfl rfl (s_eql rfl rfl) ?_
  refine f_op rfl rfl (s_mv (v := .bool (decide (a0 = 1))) rfl) ?_
  refine o_if (fun h1 => ?_) (fun h1 => ?_)
  · skip
    refine o_know 5 rfl (dec_true h1) ?_
    refine f_no rfl rfl ?_
    refine f_no rfl rfl ?_
    refine f_op rfl rfl (s_pickT (v := .bool true) rfl rfl) ?_
    refine f_op rfl rfl (s_as (v := .bool true) rfl) ?_
    refine f_nil ?_
    exact f_ret (.tmp rfl (.nil)) rfl
  · skip
    refine o_know 5 rfl (dec_false h1) ?_
    refine f_op rfl rfl (s_mv (v := .int .i64 a0) rfl) ?_
    refine f_op rfl rfl (s_eql rfl rfl) ?_
    refine f_op rfl rfl (s_pickF (v := .bool (decide (a0 = 2))) rfl rfl) ?_
    refine f_op rfl rfl (s_as (v := .bool (decide (a0 = 2))) rfl) ?_
    refine f_nil ?_
    exact f_ret (.tmp rfl (.nil)) rfl

/- 22 congou/congoulaw08.size -/
theorem ok22 : FnOk Try.prog 22 := ⟨⟨Try.f22, Try.func22, by kernel_rfl, rfl⟩⟩
theorem sim22 {a0 : Int} {a1 : Int} {H : Hp} {p : Bool × Hp} (h : r22 a0 a1 H = some p) : CallSim Try.prog 22 [.int .i64 a0, .int .i64 a1] H (.bool p.1) p.2 := by
  refine callSim (fn := Try.f22) (ret := ret22) Try.func22 rfl Try.ntmps22 rfl ?_ h
  unfold r22
  refine f_seq ?_
  refine f_region ?_
  refine f_op rfl rfl (s_as (v := .bool false) rfl) ?_
  refine f_nil ?_
  refine f_seq ?_
  refine f_region ?_
  refine f_op rfl rfl (s_mv (v := .int .i64 a0) rfl) ?_
  refine f_op rfl rfl (s_geq rfl rfl) ?_
  refine f_op rfl rfl (s_mv (v := .bool (decide (1 ≤ a0))) rfl) ?_
  refine o_if (fun h1 => ?_) (fun h1 => ?_)
  · skip
    refine o_know 7 rfl (dec_true h1) ?_
    refine f_op rfl rfl (s_mv (v := .int .i64 a0) rfl) ?_
    refine f_op rfl rfl (s_leq rfl rfl) ?_
    refine f_op rfl rfl (s_pickT (v := .bool (decide (a0 ≤ 8))) rfl rfl) ?_
    refine f_op rfl rfl (s_mv (v := .bool (decide (a0 ≤ 8))) rfl) ?_
    refine o_if (fun h2 => ?_) (fun h2 => ?_)
    · skip
      refine o_know 11 rfl (dec_true h2) ?_
      refine f_op rfl rfl (s_mv (v := .int .i64 a1) rfl) ?_
      refine o_bind ?_; intro p3 hp3
      refine f_op rfl rfl (s_callF rfl ok33 (sim33 hp3)) ?_
      refine f_op rfl rfl (s_pickT (v := .bool p3.1) rfl rfl) ?_
      refine f_op rfl rfl (s_as (v := .bool p3.1) rfl) ?_
      refine f_nil ?_
      exact f_ret (.tmp rfl (.nil)) rfl
    · skip
      refine o_know 11 rfl (dec_false h2) ?_
      refine f_no rfl rfl ?_
      refine f_no rfl rfl ?_
      refine f_op rfl rfl (s_pickF (v := .bool false) rfl rfl) ?_
      refine f_op rfl rfl (s_as (v := .bool false) rfl) ?_
      refine f_nil ?_
      exact f_ret (.tmp rfl (.nil)) rfl
  · skip
    refine o_know 7 rfl (dec_false h1) ?_
    refine f_no rfl rfl ?_
    refine f_no rfl rfl ?_
    refine f_op rfl rfl (s_pickF (v := .bool false) rfl rfl) ?_
    refine f_op rfl rfl (s_mv (v := .bool false) rfl) ?_
    refine f_no rfl rfl ?_
    refine f_no rfl rfl ?_
    refine f_op rfl rfl (s_pickF (v := .bool false) rfl rfl) ?_
    refine f_op rfl rfl (s_as (v := .bool false) rfl) ?_
    refine f_nil ?_
    exact f_ret (.tmp rfl (.nil)) rfl

/- 25 slices.Equal[[]int,int] -/
theorem ok25 : FnOk Try.prog 25 := ⟨⟨Try.f25, Try.func25, by kernel_rfl, rfl⟩⟩
theorem s25_l0 : ∀ (k_ : Nat) (v1 : Sl) (v2 : Sl) (v3 : Int) (v4 : Int) (H : Hp), Fin Try.prog Try.f25 ret25 26 (todoAt (bodyOf Try.f25) [1, 1, 0, 1, 0, 0] []) [(0, .sl v1), (1, .sl v2), (12, .int .i64 v3), (13, .int .i64 v4)] H (r25_l0 k_ v1 v2 v3 v4 H) := by
  intro k_
  induction k_ with
  | zero => intro _ _ _ _ _; exact f_none
  | succ k_ ih =>
    intro v1 v2 v3 v4 H
    rw [r25_l0]
    refine f_seq ?_
    refine f_region ?_
    refine f_op rfl rfl (s_lss rfl rfl) ?_
    refine f_nil ?_
    refine f_seq ?_
    refine f_if (fun h1 => ?_) (fun h1 => ?_)
    · skip
      refine f_know 14 rfl (dec_true h1) ?_
      refine f_condT rfl ?_
      refine f_skip ?_
      refine f_seq ?_
      refine f_block ?_
      refine f_seq ?_
      refine f_region ?_
      refine f_op rfl rfl (s_mv (v := .int .i64 v4) rfl) ?_
      refine f_op rfl rfl (s_as (v := .int .i64 v4) rfl) ?_
      refine f_nil ?_
      refine f_seq ?_
      refine f_ck fun g2 => ?_
      refine f_bind ?_; intro x3 hx3
      refine f_ck fun g4 => ?_
      refine f_bind ?_; intro x5 hx5
      refine f_draw (Φ := fun _ => True) [0, 0, 0, 1, 0, 0, 0, 1, 0] (Trc.pure rfl rfl rfl (fun _ _ => s_mv (v := .sl v1) rfl) (Trc.pure rfl rfl rfl (fun _ _ => s_mv (v := .int .i64 v4) rfl) (Trc.pure rfl rfl rfl (fun _ _ => s_idx Try.underlying22 ty3 rfl rfl g2) (Trc.read rfl rfl rfl (s_load Try.underlying3 rfl rfl (ldI_eq hx3)) (Trc.pure rfl rfl rfl (fun _ _ => s_mv (v := .sl v2) rfl) (Trc.pure rfl rfl rfl (fun _ _ => s_mv (v := .int .i64 v4) rfl) (Trc.pure rfl rfl rfl (fun _ _ => s_idx Try.underlying22 ty3 rfl rfl g4) (Trc.read rfl rfl rfl (s_load Try.underlying3 rfl rfl (ldI_eq hx5)) (Trc.pure rfl rfl rfl (fun _ _ => s_neq rfl rfl) (Trc.nil (trivial))))))))))) rfl (by decide +kernel) mixed ?_
      refine f_if (fun h6 => ?_) (fun h6 => ?_)
      · skip
        refine f_know 24 rfl (dec_true h6) ?_
        refine f_condT rfl ?_
        refine f_seq ?_
        refine f_region ?_
        refine f_op rfl rfl (s_as (v := .bool false) rfl) ?_
        refine f_nil ?_
        exact f_ret (.tmp rfl (.nil)) rfl
      · skip
        refine f_know 24 rfl (dec_false h6) ?_
        refine f_condF rfl ?_
        refine f_skip ?_
        refine f_inBlock ?_
        refine f_region ?_
        refine f_op rfl rfl (s_add rfl rfl) ?_
        refine f_op rfl rfl (s_mv (v := .int .i64 (w64 (v4 + 1))) rfl) ?_
        refine f_nil ?_
        refine f_inLoop ?_
        refine f_keep [0, 1, 12, 13] ?_
        exact ih v1 v2 v3 (w64 (v4 + 1)) H
    · skip
      refine f_know 14 rfl (dec_false h1) ?_
      refine f_condF rfl ?_
      refine f_exit rfl ?_
      refine f_seq ?_
      refine f_region ?_
      refine f_op rfl rfl (s_as (v := .bool true) rfl) ?_
      refine f_nil ?_
      exact f_ret (.tmp rfl (.nil)) rfl

theorem sim25 {a0 : Sl} {a1 : Sl} {H : Hp} {p : Bool × Hp} (h : r25 a0 a1 H = some p) : CallSim Try.prog 25 [.sl a0, .sl a1] H (.bool p.1) p.2 := by
  refine callSim (fn := Try.f25) (ret := ret25) Try.func25 rfl Try.ntmps25 rfl ?_ h
  unfold r25
  refine f_seq ?_
  refine f_region ?_
  refine f_op rfl rfl (s_as (v := .bool false) rfl) ?_
  refine f_nil ?_
  refine f_seq ?_
  refine f_seq ?_
  refine f_region ?_
  refine f_op rfl rfl (s_mv (v := .sl a0) rfl) ?_
  refine f_op rfl rfl (s_lenS rfl Try.underlying22 rfl) ?_
  refine f_op rfl rfl (s_mv (v := .sl a1) rfl) ?_
  refine f_op rfl rfl (s_lenS rfl Try.underlying22 rfl) ?_
  refine f_op rfl rfl (s_neq rfl rfl) ?_
  refine f_nil ?_
  refine f_if (fun h1 => ?_) (fun h1 => ?_)
  · skip
    refine f_know 10 rfl (dec_true h1) ?_
    refine f_condT rfl ?_
    refine f_seq ?_
    refine f_region ?_
    refine f_op rfl rfl (s_as (v := .bool false) rfl) ?_
    refine f_nil ?_
    exact f_ret (.tmp rfl (.nil)) rfl
  · skip
    refine f_know 10 rfl (dec_false h1) ?_
    refine f_condF rfl ?_
    refine f_skip ?_
    refine f_seq ?_
    refine f_seq ?_
    refine f_region ?_
    refine f_op rfl rfl (s_mv (v := .sl a0) rfl) ?_
    refine f_op rfl rfl (s_lenS rfl Try.underlying22 rfl) ?_
    refine f_op rfl rfl (s_mv (v := .int .i64 0) rfl) ?_
    refine f_nil ?_
    refine f_block ?_
    refine f_loop ?_
    refine f_keep [0, 1, 12, 13] ?_
    exact s25_l0 FUEL a0 a1 (a0.len : Int) 0 H

/- 23 congou/congoulaw08.awake -/
theorem ok23 : FnOk Try.prog 23 := ⟨⟨Try.f23, Try.func23, by kernel_rfl, rfl⟩⟩
theorem sim23 {app : App} (happ : AppSim Try.prog app) {H : Hp} {p : Bool × Hp} (h : r23 app H = some p) : CallSim Try.prog 23 [] H (.bool p.1) p.2 := by
  refine callSim (fn := Try.f23) (ret := ret23) Try.func23 rfl Try.ntmps23 rfl ?_ h
  unfold r23
  refine f_seq ?_
  refine f_region ?_
  refine f_op rfl rfl (s_as (v := .bool false) rfl) ?_
  refine f_nil ?_
  refine f_seq ?_
  refine f_region ?_
  refine o_bind ?_; intro p1 hp1
  refine f_op rfl rfl (s_callF rfl ok20 (sim20 happ hp1)) ?_
  refine f_op rfl rfl (s_mv (v := .tup [.sl p1.1.1, .int .i64 p1.1.2]) rfl) ?_
  refine f_op rfl rfl (s_extract (r := .sl p1.1.1) rfl rfl) ?_
  refine f_op rfl rfl (s_extract (r := .int .i64 p1.1.2) rfl rfl) ?_
  refine f_op rfl rfl (s_as (v := .sl p1.1.1) rfl) ?_
  refine f_op rfl rfl (s_as (v := .int .i64 p1.1.2) rfl) ?_
  refine f_nil ?_
  refine f_seq ?_
  refine f_region ?_
  refine f_op rfl rfl (s_mv (v := .int .i64 p1.1.2) rfl) ?_
  refine f_op rfl rfl (s_eql rfl rfl) ?_
  refine f_op rfl rfl (s_mv (v := .bool (decide (p1.1.2 = 0))) rfl) ?_
  refine o_if (fun h2 => ?_) (fun h2 => ?_)
  · skip
    refine o_know 9 rfl (dec_true h2) ?_
    refine f_op rfl rfl (s_mv (v := .sl p1.1.1) rfl) ?_
    refine f_op rfl rfl (s_buildSlice (cs := [.int .i64 1, .int .i64 1]) Try.underlying22 ty3 (by decide) (by decide) rfl (by decide) rfl) ?_
    refine o_bind ?_; intro p3 hp3
    refine f_op rfl rfl (s_callF rfl ok25 (sim25 hp3)) ?_
    refine f_op rfl rfl (s_pickT (v := .bool p3.1) rfl rfl) ?_
    refine f_op rfl rfl (s_as (v := .bool p3.1) rfl) ?_
    refine f_nil ?_
    exact f_ret (.tmp rfl (.nil)) rfl
  · skip
    refine o_know 9 rfl (dec_false h2) ?_
    refine f_no rfl rfl ?_
    refine f_no rfl rfl ?_
    refine f_no rfl rfl ?_
    refine f_op rfl rfl (s_pickF (v := .bool false) rfl rfl) ?_
    refine f_op rfl rfl (s_as (v := .bool false) rfl) ?_
    refine f_nil ?_
    exact f_ret (.tmp rfl (.nil)) rfl

/- 76 congou/congouref08.rows -/
theorem ok76 : FnOk Try.prog 76 := ⟨⟨Try.f76, Try.func76, by kernel_rfl, rfl⟩⟩
theorem s76_j3 {app : App} (happ : AppSim Try.prog app) (kt1 : Int → Int → Sl → Int → Int → Sl → Int → Hp → Option (Sl × Hp)) (hkt1 : ∀ (v1 : Int) (v2 : Int) (v3 : Sl) (v4 : Int) (v5 : Int) (v6 : Sl) (v7 : Int) (H : Hp), Fin Try.prog Try.f76 ret76 86 (todoAt (bodyOf Try.f76) [1, 1, 1, 1, 1, 0, 1, 0, 0] []) [(0, .int .i64 v1), (1, .int .i64 v2), (2, .sl v3), (3, .int .i64 v4), (9, .int .i64 v5), (10, .sl v6), (11, .int .i64 v7)] H (kt1 v1 v2 v3 v4 v5 v6 v7 H)) (v1 : Int) (v2 : Int) (v3 : Sl) (v4 : Int) (v5 : Int) (v6 : Sl) (v7 : Int) (v8 : Int) (v9 : Bool) (H : Hp) : Fin Try.prog Try.f76 ret76 86 (todoAt (bodyOf Try.f76) [1, 1, 1, 1, 1, 0, 1, 0, 0, 1, 0, 0, 1, 0, 1] []) [(0, .int .i64 v1), (1, .int .i64 v2), (2, .sl v3), (3, .int .i64 v4), (9, .int .i64 v5), (10, .sl v6), (11, .int .i64 v7), (12, .int .i64 v8), (63, .bool v9)] H (r76_j3 app kt1 v1 v2 v3 v4 v5 v6 v7 v8 v9 H) := by
  unfold r76_j3
  refine f_if (fun h1 => ?_) (fun h1 => ?_)
  · skip
    refine f_know 63 rfl (bool_T h1) ?_
    refine f_condT rfl ?_
    refine f_exit rfl ?_
    refine f_region ?_
    refine f_op rfl rfl (s_mv (v := .int .i64 v7) rfl) ?_
    refine f_op rfl rfl (s_add rfl rfl) ?_
    refine f_op rfl rfl (s_as (v := .int .i64 (w64 (v7 + 1))) rfl) ?_
    refine f_nil ?_
    refine f_inLoop ?_
    refine f_keep [0, 1, 2, 3, 9, 10, 11] ?_
    exact hkt1 v1 v2 v3 v4 v5 v6 (w64 (v7 + 1)) H
  · skip
    refine f_know 63 rfl (bool_F h1) ?_
    refine f_condF rfl ?_
    refine f_skip ?_
    refine f_seq ?_
    refine f_region ?_
    refine f_op rfl rfl (s_buildSlice0 Try.underlying22 ty3) ?_
    refine f_op rfl rfl (s_mv (v := .sl v3) rfl) ?_
    refine o_bind ?_; intro x2 hx2
    refine o_ck fun g3 => ?_
    refine o_bind ?_; intro x4 hx4
    refine f_op rfl rfl (s_append rfl rfl Try.underlying22 Try.underlying22 ty3 (by decide) rfl (by decide) rfl rfl hx2 g3 hx4) ?_
    refine f_op rfl rfl (s_as (v := .sl x4.1) rfl) ?_
    refine f_nil ?_
    refine f_seq ?_
    refine f_region ?_
    refine f_op rfl rfl (s_mv (v := .sl x4.1) rfl) ?_
    refine f_op rfl rfl (s_mv (v := .int .i64 v5) rfl) ?_
    refine f_op rfl rfl (s_mv (v := .int .i64 v7) rfl) ?_
    refine o_ck fun g5 => ?_
    refine f_op rfl rfl (s_idx Try.underlying22 ty3 rfl rfl g5) ?_
    refine o_bind ?_; intro H6 hH6
    refine f_op rfl rfl (s_store (s := 1) ty3 rfl rfl rfl hH6) ?_
    refine f_nil ?_
    refine f_seq ?_
    refine f_region ?_
    refine f_op rfl rfl (s_mv (v := .sl x4.1) rfl) ?_
    refine f_op rfl rfl (s_mv (v := .int .i64 v8) rfl) ?_
    refine f_op rfl rfl (s_mv (v := .int .i64 v7) rfl) ?_
    refine o_ck fun g7 => ?_
    refine f_op rfl rfl (s_idx Try.underlying22 ty3 rfl rfl g7) ?_
    refine o_bind ?_; intro H8 hH8
    refine f_op rfl rfl (s_store (s := 1) ty3 rfl rfl rfl hH8) ?_
    refine f_nil ?_
    refine f_region ?_
    refine f_op rfl rfl (s_mv (v := .sl v6) rfl) ?_
    refine f_op rfl rfl (s_mv (v := .int .i64 v1) rfl) ?_
    refine f_op rfl rfl (s_mv (v := .int .i64 v2) rfl) ?_
    refine f_op rfl rfl (s_mv (v := .sl x4.1) rfl) ?_
    refine f_op rfl rfl (s_mv (v := .int .i64 v4) rfl) ?_
    refine f_op rfl rfl (s_mv (v := .int .i64 v7) rfl) ?_
    refine o_ck fun g9 => ?_
    refine f_op rfl rfl (s_shl rfl rfl g9) ?_
    refine f_op rfl rfl (s_or rfl rfl) ?_
    refine o_bind ?_; intro p10 hp10
    refine o_bind ?_; intro x11 hx11
    refine f_op rfl rfl (s_callA happ rfl hp10) ?_
    refine o_know 83 rfl (asSl_eq hx11) ?_
    refine o_bind ?_; intro x12 hx12
    refine o_ck fun g13 => ?_
    refine o_bind ?_; intro x14 hx14
    refine f_op rfl rfl (s_append rfl rfl Try.underlying51 Try.underlying51 ty22 (by decide) rfl (by decide) rfl rfl hx12 g13 hx14) ?_
    refine f_op rfl rfl (s_as (v := .sl x14.1) rfl) ?_
    refine f_nil ?_
    refine f_inBlock ?_
    refine f_region ?_
    refine f_op rfl rfl (s_mv (v := .int .i64 v7) rfl) ?_
    refine f_op rfl rfl (s_add rfl rfl) ?_
    refine f_op rfl rfl (s_as (v := .int .i64 (w64 (v7 + 1))) rfl) ?_
    refine f_nil ?_
    refine f_inLoop ?_
    refine f_keep [0, 1, 2, 3, 9, 10, 11] ?_
    exact hkt1 v1 v2 v3 v4 v5 x14.1 (w64 (v7 + 1)) x14.2

theorem s76_l1 {app : App} (happ : AppSim Try.prog app) : ∀ (k_ : Nat) (v1 : Int) (v2 : Int) (v3 : Sl) (v4 : Int) (v5 : Int) (v6 : Sl) (v7 : Int) (H : Hp), Fin Try.prog Try.f76 ret76 86 (todoAt (bodyOf Try.f76) [1, 1, 1, 1, 1, 0, 1, 0, 0] []) [(0, .int .i64 v1), (1, .int .i64 v2), (2, .sl v3), (3, .int .i64 v4), (9, .int .i64 v5), (10, .sl v6), (11, .int .i64 v7)] H (r76_l1 app k_ v1 v2 v3 v4 v5 v6 v7 H) := by
  intro k_
  induction k_ with
  | zero => intro _ _ _ _ _ _ _ _; exact f_none
  | succ k_ ih =>
    intro v1 v2 v3 v4 v5 v6 v7 H
    rw [r76_l1]
    refine f_seq ?_
    refine f_seq ?_
    refine f_region ?_
    refine f_op rfl rfl (s_mv (v := .int .i64 v7) rfl) ?_
    refine f_op rfl rfl (s_mv (v := .int .i64 v1) rfl) ?_
    refine f_op rfl rfl (s_leq rfl rfl) ?_
    refine f_nil ?_
    refine f_if (fun h1 => ?_) (fun h1 => ?_)
    · skip
      refine f_know 37 rfl (dec_true h1) ?_
      refine f_condT rfl ?_
      refine f_skip ?_
      refine f_seq ?_
      refine f_block ?_
      refine f_seq ?_
      refine f_region ?_
      refine f_op rfl rfl (s_mv (v := .int .i64 v5) rfl) ?_
      refine f_op rfl rfl (s_mv (v := .int .i64 v7) rfl) ?_
      refine f_op rfl rfl (s_add rfl rfl) ?_
      refine f_op rfl rfl (s_mv (v := .int .i64 v2) rfl) ?_
      refine f_op rfl rfl (s_add rfl rfl) ?_
      refine f_op rfl rfl (s_sub rfl rfl) ?_
      refine f_op rfl rfl (s_as (v := .int .i64 (w64 ((w64 ((w64 (v5 + v7)) + v2)) - 1))) rfl) ?_
      refine f_nil ?_
      refine f_seq ?_
      refine f_seq ?_
      refine f_region ?_
      refine f_op rfl rfl (s_mv (v := .int .i64 v4) rfl) ?_
      refine f_op rfl rfl (s_mv (v := .int .i64 v7) rfl) ?_
      refine o_ck fun g2 => ?_
      refine f_op rfl rfl (s_shr rfl rfl g2) ?_
      refine f_op rfl rfl (s_and rfl rfl) ?_
      refine f_op rfl rfl (s_eql rfl rfl) ?_
      refine f_op rfl rfl (s_mv (v := .bool (decide ((bitsOf .and .i64 (shrOf .i64 v4 v7) 1) = 1))) rfl) ?_
      refine o_if (fun h3 => ?_) (fun h3 => ?_)
      · skip
        refine o_know 51 rfl (dec_true h3) ?_
        refine f_no rfl rfl ?_
        refine f_no rfl rfl ?_
        refine f_no rfl rfl ?_
        refine f_no rfl rfl ?_
        refine f_op rfl rfl (s_pickT (v := .bool true) rfl rfl) ?_
        refine f_op rfl rfl (s_mv (v := .bool true) rfl) ?_
        refine f_no rfl rfl ?_
        refine f_no rfl rfl ?_
        refine f_no rfl rfl ?_
        refine f_no rfl rfl ?_
        refine f_no rfl rfl ?_
        refine f_op rfl rfl (s_pickT (v := .bool true) rfl rfl) ?_
        refine f_nil ?_
        refine f_keep [0, 1, 2, 3, 9, 10, 11, 12, 63] ?_
        exact s76_j3 happ _ (fun v1_ v2_ v3_ v4_ v5_ v6_ v7_ H_ => ih v1_ v2_ v3_ v4_ v5_ v6_ v7_ H_) v1 v2 v3 v4 v5 v6 v7 (w64 ((w64 ((w64 (v5 + v7)) + v2)) - 1)) true H
      · skip
        refine o_know 51 rfl (dec_false h3) ?_
        refine f_op rfl rfl (s_mv (v := .int .i64 (w64 ((w64 ((w64 (v5 + v7)) + v2)) - 1))) rfl) ?_
        refine f_op rfl rfl (s_mv (v := .int .i64 v1) rfl) ?_
        refine f_op rfl rfl (s_mul rfl rfl) ?_
        refine f_op rfl rfl (s_geq rfl rfl) ?_
        refine f_op rfl rfl (s_pickF (v := .bool (decide ((w64 (2 * v1)) ≤ (w64 ((w64 ((w64 (v5 + v7)) + v2)) - 1))))) rfl rfl) ?_
        refine f_op rfl rfl (s_mv (v := .bool (decide ((w64 (2 * v1)) ≤ (w64 ((w64 ((w64 (v5 + v7)) + v2)) - 1))))) rfl) ?_
        refine o_if (fun h4 => ?_) (fun h4 => ?_)
        · skip
          refine o_know 57 rfl (dec_true h4) ?_
          refine f_no rfl rfl ?_
          refine f_no rfl rfl ?_
          refine f_no rfl rfl ?_
          refine f_no rfl rfl ?_
          refine f_no rfl rfl ?_
          refine f_op rfl rfl (s_pickT (v := .bool true) rfl rfl) ?_
          refine f_nil ?_
          refine f_keep [0, 1, 2, 3, 9, 10, 11, 12, 63] ?_
          exact s76_j3 happ _ (fun v1_ v2_ v3_ v4_ v5_ v6_ v7_ H_ => ih v1_ v2_ v3_ v4_ v5_ v6_ v7_ H_) v1 v2 v3 v4 v5 v6 v7 (w64 ((w64 ((w64 (v5 + v7)) + v2)) - 1)) true H
        · skip
          refine o_know 57 rfl (dec_false h4) ?_
          refine f_op rfl rfl (s_mv (v := .sl v3) rfl) ?_
          refine f_op rfl rfl (s_mv (v := .int .i64 (w64 ((w64 ((w64 (v5 + v7)) + v2)) - 1))) rfl) ?_
          refine o_ck fun g5 => ?_
          refine f_op rfl rfl (s_idx Try.underlying22 ty3 rfl rfl g5) ?_
          refine o_bind ?_; intro x6 hx6
          refine f_op rfl rfl (s_load Try.underlying3 rfl rfl (ldI_eq hx6)) ?_
          refine f_op rfl rfl (s_neq rfl rfl) ?_
          refine f_op rfl rfl (s_pickF (v := .bool (decide (x6 ≠ 0))) rfl rfl) ?_
          refine f_nil ?_
          refine f_keep [0, 1, 2, 3, 9, 10, 11, 12, 63] ?_
          exact s76_j3 happ _ (fun v1_ v2_ v3_ v4_ v5_ v6_ v7_ H_ => ih v1_ v2_ v3_ v4_ v5_ v6_ v7_ H_) v1 v2 v3 v4 v5 v6 v7 (w64 ((w64 ((w64 (v5 + v7)) + v2)) - 1)) (decide (x6 ≠ 0)) H
    · skip
      refine f_know 37 rfl (dec_false h1) ?_
      refine f_condF rfl ?_
      refine f_exit rfl ?_
      refine f_seq ?_
      refine f_region ?_
      refine f_op rfl rfl (s_mv (v := .sl v6) rfl) ?_
      refine f_op rfl rfl (s_as (v := .sl v6) rfl) ?_
      refine f_nil ?_
      exact f_ret (.tmp rfl (.nil)) rfl

theorem s76_j2 {app : App} (happ : AppSim Try.prog app) (kt0 : Int → Int → Sl → Int → Int → Hp → Option (Sl × Hp)) (hkt0 : ∀ (v1 : Int) (v2 : Int) (v3 : Sl) (v4 : Int) (v5 : Int) (H : Hp), Fin Try.prog Try.f76 ret76 86 (todoAt (bodyOf Try.f76) [1, 1, 0, 0, 0] []) [(0, .int .i64 v1), (1, .int .i64 v2), (2, .sl v3), (3, .int .i64 v4), (9, .int .i64 v5)] H (kt0 v1 v2 v3 v4 v5 H)) (v1 : Int) (v2 : Int) (v3 : Sl) (v4 : Int) (v5 : Int) (v6 : Bool) (H : Hp) : Fin Try.prog Try.f76 ret76 86 (todoAt (bodyOf Try.f76) [1, 1, 0, 0, 0, 0, 1] []) [(0, .int .i64 v1), (1, .int .i64 v2), (2, .sl v3), (3, .int .i64 v4), (9, .int .i64 v5), (24, .bool v6)] H (r76_j2 app kt0 v1 v2 v3 v4 v5 v6 H) := by
  unfold r76_j2
  refine f_if (fun h1 => ?_) (fun h1 => ?_)
  · skip
    refine f_know 24 rfl (bool_T h1) ?_
    refine f_condT rfl ?_
    refine f_skip ?_
    refine f_block ?_
    refine f_region ?_
    refine f_op rfl rfl (s_mv (v := .int .i64 v5) rfl) ?_
    refine f_op rfl rfl (s_add rfl rfl) ?_
    refine f_op rfl rfl (s_as (v := .int .i64 (w64 (v5 + 1))) rfl) ?_
    refine f_nil ?_
    refine f_inBlock ?_
    refine f_inLoop ?_
    refine f_keep [0, 1, 2, 3, 9] ?_
    exact hkt0 v1 v2 v3 v4 (w64 (v5 + 1)) H
  · skip
    refine f_know 24 rfl (bool_F h1) ?_
    refine f_condF rfl ?_
    refine f_exit rfl ?_
    refine f_seq ?_
    refine f_seq ?_
    refine f_region ?_
    refine f_op rfl rfl (s_mv (v := .int .i64 v5) rfl) ?_
    refine f_op rfl rfl (s_mv (v := .int .i64 v1) rfl) ?_
    refine f_op rfl rfl (s_mul rfl rfl) ?_
    refine f_op rfl rfl (s_eql rfl rfl) ?_
    refine f_nil ?_
    refine f_if (fun h2 => ?_) (fun h2 => ?_)
    · skip
      refine f_know 30 rfl (dec_true h2) ?_
      refine f_condT rfl ?_
      refine f_seq ?_
      refine f_region ?_
      refine f_op rfl rfl (s_buildSlice0 Try.underlying22 ty3) ?_
      refine f_op rfl rfl (s_mv (v := .sl v3) rfl) ?_
      refine o_bind ?_; intro x3 hx3
      refine o_ck fun g4 => ?_
      refine o_bind ?_; intro x5 hx5
      refine f_op rfl rfl (s_append rfl rfl Try.underlying22 Try.underlying22 ty3 (by decide) rfl (by decide) rfl rfl hx3 g4 hx5) ?_
      refine f_op rfl rfl (s_buildSlice (cs := [.sl x5.1]) Try.underlying51 ty22 (by decide) (by decide) rfl (by decide) rfl) ?_
      refine f_op rfl rfl (s_as (v := .sl ⟨false, x5.2.n, 0, 1, 1, 0⟩) rfl) ?_
      refine o_hp ?_; intro H6 hH6
      refine f_nil ?_
      exact f_ret (.tmp rfl (.nil)) rfl
    · skip
      refine f_know 30 rfl (dec_false h2) ?_
      refine f_condF rfl ?_
      refine f_skip ?_
      refine f_seq ?_
      refine f_region ?_
      refine f_op rfl rfl (s_as (v := .sl ⟨true, 0, 0, 0, 0, 0⟩) rfl) ?_
      refine f_nil ?_
      refine f_seq ?_
      refine f_seq ?_
      refine f_region ?_
      refine f_op rfl rfl (s_as (v := .int .i64 1) rfl) ?_
      refine f_nil ?_
      refine f_block ?_
      refine f_loop ?_
      refine f_keep [0, 1, 2, 3, 9, 10, 11] ?_
      exact s76_l1 happ FUEL v1 v2 v3 v4 v5 ⟨true, 0, 0, 0, 0, 0⟩ 1 H

theorem s76_l0 {app : App} (happ : AppSim Try.prog app) : ∀ (k_ : Nat) (v1 : Int) (v2 : Int) (v3 : Sl) (v4 : Int) (v5 : Int) (H : Hp), Fin Try.prog Try.f76 ret76 86 (todoAt (bodyOf Try.f76) [1, 1, 0, 0, 0] []) [(0, .int .i64 v1), (1, .int .i64 v2), (2, .sl v3), (3, .int .i64 v4), (9, .int .i64 v5)] H (r76_l0 app k_ v1 v2 v3 v4 v5 H) := by
  intro k_
  induction k_ with
  | zero => intro _ _ _ _ _ _; exact f_none
  | succ k_ ih =>
    intro v1 v2 v3 v4 v5 H
    rw [r76_l0]
    refine f_seq ?_
    refine f_seq ?_
    refine f_region ?_
    refine f_op rfl rfl (s_mv (v := .int .i64 v5) rfl) ?_
    refine f_op rfl rfl (s_mv (v := .int .i64 v1) rfl) ?_
    refine f_op rfl rfl (s_mul rfl rfl) ?_
    refine f_op rfl rfl (s_lss rfl rfl) ?_
    refine f_op rfl rfl (s_mv (v := .bool (decide (v5 < (w64 (2 * v1))))) rfl) ?_
    refine o_if (fun h1 => ?_) (fun h1 => ?_)
    · skip
      refine o_know 18 rfl (dec_true h1) ?_
      refine f_op rfl rfl (s_mv (v := .sl v3) rfl) ?_
      refine f_op rfl rfl (s_mv (v := .int .i64 v5) rfl) ?_
      refine o_ck fun g2 => ?_
      refine f_op rfl rfl (s_idx Try.underlying22 ty3 rfl rfl g2) ?_
      refine o_bind ?_; intro x3 hx3
      refine f_op rfl rfl (s_load Try.underlying3 rfl rfl (ldI_eq hx3)) ?_
      refine f_op rfl rfl (s_neq rfl rfl) ?_
      refine f_op rfl rfl (s_pickT (v := .bool (decide (x3 ≠ 0))) rfl rfl) ?_
      refine f_nil ?_
      refine f_keep [0, 1, 2, 3, 9, 24] ?_
      exact s76_j2 happ _ (fun v1_ v2_ v3_ v4_ v5_ H_ => ih v1_ v2_ v3_ v4_ v5_ H_) v1 v2 v3 v4 v5 (decide (x3 ≠ 0)) H
    · skip
      refine o_know 18 rfl (dec_false h1) ?_
      refine f_no rfl rfl ?_
      refine f_no rfl rfl ?_
      refine f_no rfl rfl ?_
      refine f_no rfl rfl ?_
      refine f_no rfl rfl ?_
      refine f_op rfl rfl (s_pickF (v := .bool false) rfl rfl) ?_
      refine f_nil ?_
      refine f_keep [0, 1, 2, 3, 9, 24] ?_
      exact s76_j2 happ _ (fun v1_ v2_ v3_ v4_ v5_ H_ => ih v1_ v2_ v3_ v4_ v5_ H_) v1 v2 v3 v4 v5 false H

theorem sim76 {app : App} (happ : AppSim Try.prog app) {a0 : Int} {a1 : Int} {a2 : Sl} {a3 : Int} {H : Hp} {p : Sl × Hp} (h : r76 app a0 a1 a2 a3 H = some p) : CallSim Try.prog 76 [.int .i64 a0, .int .i64 a1, .sl a2, .int .i64 a3] H (.sl p.1) p.2 := by
  refine callSim (fn := Try.f76) (ret := ret76) Try.func76 rfl Try.ntmps76 rfl ?_ h
  unfold r76
  refine f_seq ?_
  refine f_region ?_
  refine f_op rfl rfl (s_as (v := .sl ⟨true, 0, 0, 0, 0, 0⟩) rfl) ?_
  refine f_nil ?_
  refine f_seq ?_
  refine f_region ?_
  refine f_op rfl rfl (s_as (v := .int .i64 0) rfl) ?_
  refine f_nil ?_
  refine f_seq ?_
  refine f_block ?_
  refine f_loop ?_
  refine f_keep [0, 1, 2, 3, 9] ?_
  exact s76_l0 happ FUEL a0 a1 a2 a3 0 H

/- 24 congou/congouref08.First -/
theorem ok24 : FnOk Try.prog 24 := ⟨⟨Try.f24, Try.func24, by kernel_rfl, rfl⟩⟩
theorem sim24 {app : App} (happ : AppSim Try.prog app) {a0 : Int} {a1 : Int} {H : Hp} {p : (Sl × Int) × Hp} (h : r24 app a0 a1 H = some p) : CallSim Try.prog 24 [.int .i64 a0, .int .i64 a1] H (.tup [.sl p.1.1, .int .i64 p.1.2]) p.2 := by
  refine callSim (fn := Try.f24) (ret := ret24) Try.func24 rfl Try.ntmps24 rfl ?_ h
  unfold r24
  refine f_seq ?_
  refine f_region ?_
  refine f_op rfl rfl (s_as (v := .sl ⟨true, 0, 0, 0, 0, 0⟩) rfl) ?_
  refine f_op rfl rfl (s_as (v := .int .i64 0) rfl) ?_
  refine f_nil ?_
  refine f_seq ?_
  refine f_region ?_
  refine f_op rfl rfl (s_mv (v := .int .i64 a0) rfl) ?_
  refine f_op rfl rfl (s_mv (v := .int .i64 a1) rfl) ?_
  refine f_op rfl rfl (s_mv (v := .int .i64 a0) rfl) ?_
  refine f_op rfl rfl (s_mul rfl rfl) ?_
  refine o_ck fun g1 => ?_
  refine f_op rfl rfl (s_makeSlice Try.underlying22 ty3 rfl rfl (by decide) (by decide) rfl rfl g1) ?_
  refine o_bind ?_; intro p2 hp2
  refine f_op rfl rfl (s_callF rfl ok76 (sim76 happ hp2)) ?_
  refine f_op rfl rfl (s_as (v := .sl p2.1) rfl) ?_
  refine f_nil ?_
  refine f_seq ?_
  refine f_seq ?_
  refine f_region ?_
  refine f_op rfl rfl (s_mv (v := .sl p2.1) rfl) ?_
  refine f_op rfl rfl (s_lenS rfl Try.underlying51 rfl) ?_
  refine f_op rfl rfl (s_eql rfl rfl) ?_
  refine f_nil ?_
  refine f_if (fun h3 => ?_) (fun h3 => ?_)
  · skip
    refine f_know 15 rfl (dec_true h3) ?_
    refine f_condT rfl ?_
    refine f_seq ?_
    refine f_region ?_
    refine f_op rfl rfl (s_as (v := .sl ⟨true, 0, 0, 0, 0, 0⟩) rfl) ?_
    refine f_op rfl rfl (s_as (v := .int .i64 4) rfl) ?_
    refine f_nil ?_
    exact f_ret (.tmp rfl (.tmp rfl (.nil))) rfl
  · skip
    refine f_know 15 rfl (dec_false h3) ?_
    refine f_condF rfl ?_
    refine f_skip ?_
    refine f_seq ?_
    refine f_region ?_
    refine f_op rfl rfl (s_mv (v := .sl p2.1) rfl) ?_
    refine o_ck fun g4 => ?_
    refine f_op rfl rfl (s_idx Try.underlying51 ty22 rfl rfl g4) ?_
    refine o_bind ?_; intro x5 hx5
    refine f_op rfl rfl (s_load Try.underlying22 rfl rfl (ldSl_eq hx5)) ?_
    refine f_op rfl rfl (s_as (v := .sl x5) rfl) ?_
    refine f_op rfl rfl (s_as (v := .int .i64 0) rfl) ?_
    refine f_nil ?_
    exact f_ret (.tmp rfl (.tmp rfl (.nil))) rfl

/- 26 congou/congouref08.Count -/
theorem ok26 : FnOk Try.prog 26 := ⟨⟨Try.f26, Try.func26, by kernel_rfl, rfl⟩⟩
theorem sim26 {app : App} (happ : AppSim Try.prog app) {a0 : Int} {a1 : Int} {H : Hp} {p : Int × Hp} (h : r26 app a0 a1 H = some p) : CallSim Try.prog 26 [.int .i64 a0, .int .i64 a1] H (.int .i64 p.1) p.2 := by
  refine callSim (fn := Try.f26) (ret := ret26) Try.func26 rfl Try.ntmps26 rfl ?_ h
  unfold r26
  refine f_seq ?_
  refine f_region ?_
  refine f_op rfl rfl (s_as (v := .int .i64 0) rfl) ?_
  refine f_nil ?_
  refine f_seq ?_
  refine f_region ?_
  refine f_op rfl rfl (s_mv (v := .int .i64 a0) rfl) ?_
  refine f_op rfl rfl (s_mv (v := .int .i64 a1) rfl) ?_
  refine f_op rfl rfl (s_mv (v := .int .i64 a0) rfl) ?_
  refine f_op rfl rfl (s_mul rfl rfl) ?_
  refine o_ck fun g1 => ?_
  refine f_op rfl rfl (s_makeSlice Try.underlying22 ty3 rfl rfl (by decide) (by decide) rfl rfl g1) ?_
  refine o_bind ?_; intro p2 hp2
  refine f_op rfl rfl (s_callF rfl ok76 (sim76 happ hp2)) ?_
  refine f_op rfl rfl (s_lenS rfl Try.underlying51 rfl) ?_
  refine f_op rfl rfl (s_as (v := .int .i64 (p2.1.len : Int)) rfl) ?_
  refine f_nil ?_
  exact f_ret (.tmp rfl (.nil)) rfl

/- 3 congou/congoulaw08.PairsFirst -/
theorem ok3 : FnOk Try.prog 3 := ⟨⟨Try.f3, Try.func3, by kernel_rfl, rfl⟩⟩
theorem sim3 {app : App} (happ : AppSim Try.prog app) {a0 : Int} {a1 : Int} {H : Hp} {p : Bool × Hp} (h : r3 app a0 a1 H = some p) : CallSim Try.prog 3 [.int .i64 a0, .int .i64 a1] H (.bool p.1) p.2 := by
  refine callSim (fn := Try.f3) (ret := ret3) Try.func3 rfl Try.ntmps3 rfl ?_ h
  unfold r3
  refine f_seq ?_
  refine f_region ?_
  refine f_op rfl rfl (s_as (v := .bool false) rfl) ?_
  refine f_nil ?_
  refine f_seq ?_
  refine f_region ?_
  refine f_op rfl rfl (s_mv (v := .int .i64 a0) rfl) ?_
  refine f_op rfl rfl (s_mv (v := .int .i64 a1) rfl) ?_
  refine o_bind ?_; intro p1 hp1
  refine f_op rfl rfl (s_callF rfl ok20 (sim20 happ hp1)) ?_
  refine f_op rfl rfl (s_mv (v := .tup [.sl p1.1.1, .int .i64 p1.1.2]) rfl) ?_
  refine f_op rfl rfl (s_extract (r := .sl p1.1.1) rfl rfl) ?_
  refine f_op rfl rfl (s_extract (r := .int .i64 p1.1.2) rfl rfl) ?_
  refine f_op rfl rfl (s_as (v := .sl p1.1.1) rfl) ?_
  refine f_op rfl rfl (s_as (v := .int .i64 p1.1.2) rfl) ?_
  refine f_nil ?_
  refine f_seq ?_
  refine f_region ?_
  refine f_op rfl rfl (s_mv (v := .int .i64 a0) rfl) ?_
  refine f_op rfl rfl (s_mv (v := .int .i64 a1) rfl) ?_
  refine o_bind ?_; intro p2 hp2
  refine f_op rfl rfl (s_callF rfl ok21 (sim21 happ hp2)) ?_
  refine f_op rfl rfl (s_mv (v := .tup [.int .i64 p2.1.1, .int .i64 p2.1.2]) rfl) ?_
  refine f_op rfl rfl (s_extract (r := .int .i64 p2.1.1) rfl rfl) ?_
  refine f_op rfl rfl (s_extract (r := .int .i64 p2.1.2) rfl rfl) ?_
  refine f_op rfl rfl (s_as (v := .int .i64 p2.1.1) rfl) ?_
  refine f_op rfl rfl (s_as (v := .int .i64 p2.1.2) rfl) ?_
  refine f_nil ?_
  refine f_seq ?_
  refine f_seq ?_
  refine f_region ?_
  refine f_op rfl rfl (s_mv (v := .int .i64 a0) rfl) ?_
  refine f_op rfl rfl (s_mv (v := .int .i64 a1) rfl) ?_
  refine o_bind ?_; intro p3 hp3
  refine f_op rfl rfl (s_callF rfl ok22 (sim22 hp3)) ?_
  refine f_op rfl rfl (s_not rfl) ?_
  refine f_nil ?_
  refine f_if (fun h4 => ?_) (fun h4 => ?_)
  · skip
    refine f_know 26 rfl (bool_notT h4) ?_
    refine f_condF rfl ?_
    refine f_skip ?_
    refine f_seq ?_
    refine f_region ?_
    refine f_op rfl rfl (s_mv (v := .int .i64 a0) rfl) ?_
    refine f_op rfl rfl (s_mv (v := .int .i64 a1) rfl) ?_
    refine o_bind ?_; intro p5 hp5
    refine f_op rfl rfl (s_callF rfl ok24 (sim24 happ hp5)) ?_
    refine f_op rfl rfl (s_mv (v := .tup [.sl p5.1.1, .int .i64 p5.1.2]) rfl) ?_
    refine f_op rfl rfl (s_extract (r := .sl p5.1.1) rfl rfl) ?_
    refine f_op rfl rfl (s_extract (r := .int .i64 p5.1.2) rfl rfl) ?_
    refine f_op rfl rfl (s_as (v := .sl p5.1.1) rfl) ?_
    refine f_op rfl rfl (s_as (v := .int .i64 p5.1.2) rfl) ?_
    refine f_nil ?_
    refine f_seq ?_
    refine f_region ?_
    refine f_op rfl rfl (s_mv (v := .sl p1.1.1) rfl) ?_
    refine f_op rfl rfl (s_mv (v := .sl p5.1.1) rfl) ?_
    refine o_bind ?_; intro p6 hp6
    refine f_op rfl rfl (s_callF rfl ok25 (sim25 hp6)) ?_
    refine f_op rfl rfl (s_mv (v := .bool p6.1) rfl) ?_
    refine o_if (fun h7 => ?_) (fun h7 => ?_)
    · skip
      refine o_know 54 rfl (bool_T h7) ?_
      refine f_op rfl rfl (s_mv (v := .int .i64 p1.1.2) rfl) ?_
      refine f_op rfl rfl (s_mv (v := .int .i64 p5.1.2) rfl) ?_
      refine f_op rfl rfl (s_eql rfl rfl) ?_
      refine f_op rfl rfl (s_pickT (v := .bool (decide (p1.1.2 = p5.1.2))) rfl rfl) ?_
      refine f_op rfl rfl (s_mv (v := .bool (decide (p1.1.2 = p5.1.2))) rfl) ?_
      refine o_if (fun h8 => ?_) (fun h8 => ?_)
      · skip
        refine o_know 59 rfl (dec_true h8) ?_
        refine f_op rfl rfl (s_mv (v := .int .i64 p2.1.1) rfl) ?_
        refine f_op rfl rfl (s_mv (v := .int .i64 a0) rfl) ?_
        refine f_op rfl rfl (s_mv (v := .int .i64 a1) rfl) ?_
        refine o_bind ?_; intro p9 hp9
        refine f_op rfl rfl (s_callF rfl ok26 (sim26 happ hp9)) ?_
        refine f_op rfl rfl (s_eql rfl rfl) ?_
        refine f_op rfl rfl (s_pickT (v := .bool (decide (p2.1.1 = p9.1))) rfl rfl) ?_
        refine f_op rfl rfl (s_mv (v := .bool (decide (p2.1.1 = p9.1))) rfl) ?_
        refine o_if (fun h10 => ?_) (fun h10 => ?_)
        · skip
          refine o_know 66 rfl (dec_true h10) ?_
          refine f_op rfl rfl (s_mv (v := .int .i64 p2.1.2) rfl) ?_
          refine f_op rfl rfl (s_eql rfl rfl) ?_
          refine f_op rfl rfl (s_pickT (v := .bool (decide (p2.1.2 = 0))) rfl rfl) ?_
          refine f_op rfl rfl (s_mv (v := .bool (decide (p2.1.2 = 0))) rfl) ?_
          refine o_if (fun h11 => ?_) (fun h11 => ?_)
          · skip
            refine o_know 70 rfl (dec_true h11) ?_
            refine o_bind ?_; intro p12 hp12
            refine f_op rfl rfl (s_callF rfl ok23 (sim23 happ hp12)) ?_
            refine f_op rfl rfl (s_pickT (v := .bool p12.1) rfl rfl) ?_
            refine f_op rfl rfl (s_as (v := .bool p12.1) rfl) ?_
            refine f_nil ?_
            exact f_ret (.tmp rfl (.nil)) rfl
          · skip
            refine o_know 70 rfl (dec_false h11) ?_
            refine f_no rfl rfl ?_
            refine f_op rfl rfl (s_pickF (v := .bool false) rfl rfl) ?_
            refine f_op rfl rfl (s_as (v := .bool false) rfl) ?_
            refine f_nil ?_
            exact f_ret (.tmp rfl (.nil)) rfl
        · skip
          refine o_know 66 rfl (dec_false h10) ?_
          refine f_no rfl rfl ?_
          refine f_no rfl rfl ?_
          refine f_op rfl rfl (s_pickF (v := .bool false) rfl rfl) ?_
          refine f_op rfl rfl (s_mv (v := .bool false) rfl) ?_
          refine f_no rfl rfl ?_
          refine f_op rfl rfl (s_pickF (v := .bool false) rfl rfl) ?_
          refine f_op rfl rfl (s_as (v := .bool false) rfl) ?_
          refine f_nil ?_
          exact f_ret (.tmp rfl (.nil)) rfl
      · skip
        refine o_know 59 rfl (dec_false h8) ?_
        refine f_no rfl rfl ?_
        refine f_no rfl rfl ?_
        refine f_no rfl rfl ?_
        refine f_no rfl rfl ?_
        refine f_no rfl rfl ?_
        refine f_op rfl rfl (s_pickF (v := .bool false) rfl rfl) ?_
        refine f_op rfl rfl (s_mv (v := .bool false) rfl) ?_
        refine f_no rfl rfl ?_
        refine f_no rfl rfl ?_
        refine f_op rfl rfl (s_pickF (v := .bool false) rfl rfl) ?_
        refine f_op rfl rfl (s_mv (v := .bool false) rfl) ?_
        refine f_no rfl rfl ?_
        refine f_op rfl rfl (s_pickF (v := .bool false) rfl rfl) ?_
        refine f_op rfl rfl (s_as (v := .bool false) rfl) ?_
        refine f_nil ?_
        exact f_ret (.tmp rfl (.nil)) rfl
    · skip
      refine o_know 54 rfl (bool_F h7) ?_
      refine f_no rfl rfl ?_
      refine f_no rfl rfl ?_
      refine f_no rfl rfl ?_
      refine f_op rfl rfl (s_pickF (v := .bool false) rfl rfl) ?_
      refine f_op rfl rfl (s_mv (v := .bool false) rfl) ?_
      refine f_no rfl rfl ?_
      refine f_no rfl rfl ?_
      refine f_no rfl rfl ?_
      refine f_no rfl rfl ?_
      refine f_no rfl rfl ?_
      refine f_op rfl rfl (s_pickF (v := .bool false) rfl rfl) ?_
      refine f_op rfl rfl (s_mv (v := .bool false) rfl) ?_
      refine f_no rfl rfl ?_
      refine f_no rfl rfl ?_
      refine f_op rfl rfl (s_pickF (v := .bool false) rfl rfl) ?_
      refine f_op rfl rfl (s_mv (v := .bool false) rfl) ?_
      refine f_no rfl rfl ?_
      refine f_op rfl rfl (s_pickF (v := .bool false) rfl rfl) ?_
      refine f_op rfl rfl (s_as (v := .bool false) rfl) ?_
      refine f_nil ?_
      exact f_ret (.tmp rfl (.nil)) rfl
  · skip
    refine f_know 26 rfl (bool_notF h4) ?_
    refine f_condT rfl ?_
    refine f_seq ?_
    refine f_region ?_
    refine f_op rfl rfl (s_mv (v := .sl p1.1.1) rfl) ?_
    refine f_op rfl rfl (s_lenS rfl Try.underlying22 rfl) ?_
    refine f_op rfl rfl (s_eql rfl rfl) ?_
    refine f_op rfl rfl (s_mv (v := .bool (decide ((p1.1.1.len : Int) = 0))) rfl) ?_
    refine o_if (fun h13 => ?_) (fun h13 => ?_)
    · skip
      refine o_know 30 rfl (dec_true h13) ?_
      refine f_op rfl rfl (s_mv (v := .int .i64 p2.1.1) rfl) ?_
      refine f_op rfl rfl (s_eql rfl rfl) ?_
      refine f_op rfl rfl (s_pickT (v := .bool (decide (p2.1.1 = 0))) rfl rfl) ?_
      refine f_op rfl rfl (s_mv (v := .bool (decide (p2.1.1 = 0))) rfl) ?_
      refine o_if (fun h14 => ?_) (fun h14 => ?_)
      · skip
        refine o_know 34 rfl (dec_true h14) ?_
        refine f_op rfl rfl (s_mv (v := .int .i64 p1.1.2) rfl) ?_
        refine f_op rfl rfl (s_eql rfl rfl) ?_
        refine f_op rfl rfl (s_pickT (v := .bool (decide (p1.1.2 = 2))) rfl rfl) ?_
        refine f_op rfl rfl (s_mv (v := .bool (decide (p1.1.2 = 2))) rfl) ?_
        refine o_if (fun h15 => ?_) (fun h15 => ?_)
        · skip
          refine o_know 38 rfl (dec_true h15) ?_
          refine f_op rfl rfl (s_mv (v := .int .i64 p2.1.2) rfl) ?_
          refine f_op rfl rfl (s_eql rfl rfl) ?_
          refine f_op rfl rfl (s_pickT (v := .bool (decide (p2.1.2 = 2))) rfl rfl) ?_
          refine f_op rfl rfl (s_mv (v := .bool (decide (p2.1.2 = 2))) rfl) ?_
          refine o_if (fun h16 => ?_) (fun h16 => ?_)
          · skip
            refine o_know 42 rfl (dec_true h16) ?_
            refine o_bind ?_; intro p17 hp17
            refine f_op rfl rfl (s_callF rfl ok23 (sim23 happ hp17)) ?_
            refine f_op rfl rfl (s_pickT (v := .bool p17.1) rfl rfl) ?_
            refine f_op rfl rfl (s_as (v := .bool p17.1) rfl) ?_
            refine f_nil ?_
            exact f_ret (.tmp rfl (.nil)) rfl
          · skip
            refine o_know 42 rfl (dec_false h16) ?_
            refine f_no rfl rfl ?_
            refine f_op rfl rfl (s_pickF (v := .bool false) rfl rfl) ?_
            refine f_op rfl rfl (s_as (v := .bool false) rfl) ?_
            refine f_nil ?_
            exact f_ret (.tmp rfl (.nil)) rfl
        · skip
          refine o_know 38 rfl (dec_false h15) ?_
          refine f_no rfl rfl ?_
          refine f_no rfl rfl ?_
          refine f_op rfl rfl (s_pickF (v := .bool false) rfl rfl) ?_
          refine f_op rfl rfl (s_mv (v := .bool false) rfl) ?_
          refine f_no rfl rfl ?_
          refine f_op rfl rfl (s_pickF (v := .bool false) rfl rfl) ?_
          refine f_op rfl rfl (s_as (v := .bool false) rfl) ?_
          refine f_nil ?_
          exact f_ret (.tmp rfl (.nil)) rfl
      · skip
        refine o_know 34 rfl (dec_false h14) ?_
        refine f_no rfl rfl ?_
        refine f_no rfl rfl ?_
        refine f_op rfl rfl (s_pickF (v := .bool false) rfl rfl) ?_
        refine f_op rfl rfl (s_mv (v := .bool false) rfl) ?_
        refine f_no rfl rfl ?_
        refine f_no rfl rfl ?_
        refine f_op rfl rfl (s_pickF (v := .bool false) rfl rfl) ?_
        refine f_op rfl rfl (s_mv (v := .bool false) rfl) ?_
        refine f_no rfl rfl ?_
        refine f_op rfl rfl (s_pickF (v := .bool false) rfl rfl) ?_
        refine f_op rfl rfl (s_as (v := .bool false) rfl) ?_
        refine f_nil ?_
        exact f_ret (.tmp rfl (.nil)) rfl
    · skip
      refine o_know 30 rfl (dec_false h13) ?_
      refine f_no rfl rfl ?_
      refine f_no rfl rfl ?_
      refine f_op rfl rfl (s_pickF (v := .bool false) rfl rfl) ?_
      refine f_op rfl rfl (s_mv (v := .bool false) rfl) ?_
      refine f_no rfl rfl ?_
      refine f_no rfl rfl ?_
      refine f_op rfl rfl (s_pickF (v := .bool false) rfl rfl) ?_
      refine f_op rfl rfl (s_mv (v := .bool false) rfl) ?_
      refine f_no rfl rfl ?_
      refine f_no rfl rfl ?_
      refine f_op rfl rfl (s_pickF (v := .bool false) rfl rfl) ?_
      refine f_op rfl rfl (s_mv (v := .bool false) rfl) ?_
      refine f_no rfl rfl ?_
      refine f_op rfl rfl (s_pickF (v := .bool false) rfl rfl) ?_
      refine f_op rfl rfl (s_as (v := .bool false) rfl) ?_
      refine f_nil ?_
      exact f_ret (.tmp rfl (.nil)) rfl

/- 36 slices.Clone[[]int,int] -/
theorem ok36 : FnOk Try.prog 36 := ⟨⟨Try.f36, Try.func36, by kernel_rfl, rfl⟩⟩
theorem sim36 {a0 : Sl} {H : Hp} {p : Sl × Hp} (h : r36 a0 H = some p) : CallSim Try.prog 36 [.sl a0] H (.sl p.1) p.2 := by
  refine callSim (fn := Try.f36) (ret := ret36) Try.func36 rfl Try.ntmps36 rfl ?_ h
  unfold r36
  refine f_seq ?_
  refine f_region ?_
  refine f_op rfl rfl (s_as (v := .sl ⟨true, 0, 0, 0, 0, 0⟩) rfl) ?_
  refine f_nil ?_
  refine f_seq ?_
  refine f_seq ?_
  refine f_region ?_
  refine f_op rfl rfl (s_mv (v := .sl a0) rfl) ?_
  refine f_op rfl rfl (s_eqNil Try.underlying22 rfl rfl) ?_
  refine f_nil ?_
  refine f_if (fun h1 => ?_) (fun h1 => ?_)
  · skip
    refine f_know 4 rfl (bool_T h1) ?_
    refine f_condT rfl ?_
    refine f_seq ?_
    refine f_region ?_
    refine f_op rfl rfl (s_as (v := .sl ⟨true, 0, 0, 0, 0, 0⟩) rfl) ?_
    refine f_nil ?_
    exact f_ret (.tmp rfl (.nil)) rfl
  · skip
    refine f_know 4 rfl (bool_F h1) ?_
    refine f_condF rfl ?_
    refine f_skip ?_
    refine f_seq ?_
    refine f_region ?_
    refine f_op rfl rfl (s_buildSlice0 Try.underlying22 ty3) ?_
    refine f_op rfl rfl (s_mv (v := .sl a0) rfl) ?_
    refine o_bind ?_; intro x2 hx2
    refine o_ck fun g3 => ?_
    refine o_bind ?_; intro x4 hx4
    refine f_op rfl rfl (s_append rfl rfl Try.underlying22 Try.underlying22 ty3 (by decide) rfl (by decide) rfl rfl hx2 g3 hx4) ?_
    refine f_op rfl rfl (s_as (v := .sl x4.1) rfl) ?_
    refine f_nil ?_
    exact f_ret (.tmp rfl (.nil)) rfl

/- 74 congou/pairs.First$1 -/
theorem ok74 : FnOk Try.prog 74 := ⟨⟨Try.f74, Try.func74, by kernel_rfl, rfl⟩⟩
theorem sim74 {a0 : Sl} {c0 : Nat} {H : Hp} {p : Bool × Hp} (h : r74 a0 c0 H = some p) : CallSim Try.prog 74 [.sl a0, .ptr c0 0] H (.bool p.1) p.2 := by
  refine callSim (fn := Try.f74) (ret := ret74) Try.func74 rfl Try.ntmps74 rfl ?_ h
  unfold r74
  refine f_seq ?_
  refine f_region ?_
  refine f_op rfl rfl (s_as (v := .bool false) rfl) ?_
  refine f_nil ?_
  refine f_seq ?_
  refine f_region ?_
  refine f_op rfl rfl (s_mv (v := .sl a0) rfl) ?_
  refine o_bind ?_; intro p1 hp1
  refine f_op rfl rfl (s_callF rfl ok36 (sim36 hp1)) ?_
  refine o_bind ?_; intro H2 hH2
  refine f_op rfl rfl (s_store (s := 1) ty22 rfl rfl rfl hH2) ?_
  refine f_nil ?_
  refine f_seq ?_
  refine f_region ?_
  refine f_op rfl rfl (s_as (v := .bool false) rfl) ?_
  refine f_nil ?_
  exact f_ret (.tmp rfl (.nil)) rfl

/- 75 congou/pairs.Count$1 -/
theorem ok75 : FnOk Try.prog 75 := ⟨⟨Try.f75, Try.func75, by kernel_rfl, rfl⟩⟩
theorem sim75 {a0 : Sl} {c0 : Nat} {H : Hp} {p : Bool × Hp} (h : r75 a0 c0 H = some p) : CallSim Try.prog 75 [.sl a0, .ptr c0 0] H (.bool p.1) p.2 := by
  refine callSim (fn := Try.f75) (ret := ret75) Try.func75 rfl Try.ntmps75 rfl ?_ h
  unfold r75
  refine f_seq ?_
  refine f_region ?_
  refine f_op rfl rfl (s_as (v := .bool false) rfl) ?_
  refine f_nil ?_
  refine f_seq ?_
  refine f_region ?_
  refine o_bind ?_; intro x1 hx1
  refine f_op rfl rfl (s_load Try.underlying3 rfl rfl (ldI_eq hx1)) ?_
  refine f_op rfl rfl (s_add rfl rfl) ?_
  refine o_bind ?_; intro H2 hH2
  refine f_op rfl rfl (s_store (s := 1) ty3 rfl rfl rfl hH2) ?_
  refine f_nil ?_
  refine f_seq ?_
  refine f_region ?_
  refine f_op rfl rfl (s_as (v := .bool true) rfl) ?_
  refine f_nil ?_
  exact f_ret (.tmp rfl (.nil)) rfl

/- 108 slices.Index[[]int,int] -/
theorem ok108 : FnOk Try.prog 108 := ⟨⟨Try.f108, Try.func108, by kernel_rfl, rfl⟩⟩
theorem s108_l0 : ∀ (k_ : Nat) (v1 : Sl) (v2 : Int) (v3 : Int) (v4 : Int) (H : Hp), Fin Try.prog Try.f108 ret108 19 (todoAt (bodyOf Try.f108) [1, 0, 1, 0, 0] []) [(0, .sl v1), (1, .int .i64 v2), (7, .int .i64 v3), (8, .int .i64 v4)] H (r108_l0 k_ v1 v2 v3 v4 H) := by
  intro k_
  induction k_ with
  | zero => intro _ _ _ _ _; exact f_none
  | succ k_ ih =>
    intro v1 v2 v3 v4 H
    rw [r108_l0]
    refine f_seq ?_
    refine f_region ?_
    refine f_op rfl rfl (s_lss rfl rfl) ?_
    refine f_nil ?_
    refine f_seq ?_
    refine f_if (fun h1 => ?_) (fun h1 => ?_)
    · skip
      refine f_know 9 rfl (dec_true h1) ?_
      refine f_condT rfl ?_
      refine f_skip ?_
      refine f_seq ?_
      refine f_block ?_
      refine f_seq ?_
      refine f_region ?_
      refine f_op rfl rfl (s_mv (v := .int .i64 v4) rfl) ?_
      refine f_op rfl rfl (s_as (v := .int .i64 v4) rfl) ?_
      refine f_nil ?_
      refine f_seq ?_
      refine f_region ?_
      refine f_op rfl rfl (s_mv (v := .int .i64 v2) rfl) ?_
      refine f_op rfl rfl (s_mv (v := .sl v1) rfl) ?_
      refine f_op rfl rfl (s_mv (v := .int .i64 v4) rfl) ?_
      refine o_ck fun g2 => ?_
      refine f_op rfl rfl (s_idx Try.underlying22 ty3 rfl rfl g2) ?_
      refine o_bind ?_; intro x3 hx3
      refine f_op rfl rfl (s_load Try.underlying3 rfl rfl (ldI_eq hx3)) ?_
      refine f_op rfl rfl (s_eql rfl rfl) ?_
      refine f_nil ?_
      refine f_if (fun h4 => ?_) (fun h4 => ?_)
      · skip
        refine f_know 16 rfl (dec_true h4) ?_
        refine f_condT rfl ?_
        refine f_seq ?_
        refine f_region ?_
        refine f_op rfl rfl (s_mv (v := .int .i64 v4) rfl) ?_
        refine f_op rfl rfl (s_as (v := .int .i64 v4) rfl) ?_
        refine f_nil ?_
        exact f_ret (.tmp rfl (.nil)) rfl
      · skip
        refine f_know 16 rfl (dec_false h4) ?_
        refine f_condF rfl ?_
        refine f_skip ?_
        refine f_inBlock ?_
        refine f_region ?_
        refine f_op rfl rfl (s_add rfl rfl) ?_
        refine f_op rfl rfl (s_mv (v := .int .i64 (w64 (v4 + 1))) rfl) ?_
        refine f_nil ?_
        refine f_inLoop ?_
        refine f_keep [0, 1, 7, 8] ?_
        exact ih v1 v2 v3 (w64 (v4 + 1)) H
    · skip
      refine f_know 9 rfl (dec_false h1) ?_
      refine f_condF rfl ?_
      refine f_exit rfl ?_
      refine f_seq ?_
      refine f_region ?_
      refine f_op rfl rfl (s_as (v := .int .i64 (-1)) rfl) ?_
      refine f_nil ?_
      exact f_ret (.tmp rfl (.nil)) rfl

theorem sim108 {a0 : Sl} {a1 : Int} {H : Hp} {p : Int × Hp} (h : r108 a0 a1 H = some p) : CallSim Try.prog 108 [.sl a0, .int .i64 a1] H (.int .i64 p.1) p.2 := by
  refine callSim (fn := Try.f108) (ret := ret108) Try.func108 rfl Try.ntmps108 rfl ?_ h
  unfold r108
  refine f_seq ?_
  refine f_region ?_
  refine f_op rfl rfl (s_as (v := .int .i64 0) rfl) ?_
  refine f_nil ?_
  refine f_seq ?_
  refine f_seq ?_
  refine f_region ?_
  refine f_op rfl rfl (s_mv (v := .sl a0) rfl) ?_
  refine f_op rfl rfl (s_lenS rfl Try.underlying22 rfl) ?_
  refine f_op rfl rfl (s_mv (v := .int .i64 0) rfl) ?_
  refine f_nil ?_
  refine f_block ?_
  refine f_loop ?_
  refine f_keep [0, 1, 7, 8] ?_
  exact s108_l0 FUEL a0 a1 (a0.len : Int) 0 H

end Go.Lt.P8
