/- PRINTED BY A PROGRAM OF OURS: what each function that 'PairsMeet' reaches computes on the abstract heap, and that the translated code does just that. Nothing is asked of the input. -/
import Derived.Test.YthmhdbmpeepmaaaG18R1
set_option linter.unusedVariables false
set_option linter.unusedSimpArgs false
set_option maxRecDepth 100000
set_option maxHeartbeats 4000000
namespace Go.Lt.P8
open Go Go.Lt Go.Proofs
/- 80 congou/pairs.isShift -/
theorem ok80 : FnOk Try.prog 80 := ⟨⟨Try.f80, Try.func80, by kernel_rfl, rfl⟩⟩
theorem sim80 {a0 : Int} {H : Hp} {p : Bool × Hp} (h : r80 a0 H = some p) : CallSim Try.prog 80 [.int .i64 a0] H (.bool p.1) p.2 := by
  refine callSim (fn := Try.f80) (ret := ret80) Try.func80 rfl Try.ntmps80 rfl ?_ h
  unfold r80
  refine f_seq ?_
  refine f_region ?_
  refine f_op rfl rfl (s_as (v := .bool false) rfl) ?_
  refine f_nil ?_
  refine f_seq ?_
  refine f_region ?_
  refine f_op rfl rfl (s_mv (v := .int .i64 a0) rfl) ?_
  refine f_op rfl rfl (s_eql rfl rfl) ?_
  refine f_op rfl rfl (s_mv (v := .bool (decide (a0 = 1))) rfl) ?_
  refine o_if (fun h1 => ?_) (fun h1 => ?_)
  · skip
    refine o_know 5 rfl (dec_true h1) ?_
    refine f_no rfl rfl ?_
    refine f_no rfl rfl ?_
    refine f_op rfl rfl (s_pickT (v := .bool true) rfl rfl) ?_
    refine f_op rfl rfl (s_as (v := .bool true) rfl) ?_
    refine f_nil ?_
    exact f_ret (.tmp rfl (.nil)) rfl
  · skip
    refine o_know 5 rfl (dec_false h1) ?_
    refine f_op rfl rfl (s_mv (v := .int .i64 a0) rfl) ?_
    refine f_op rfl rfl (s_eql rfl rfl) ?_
    refine f_op rfl rfl (s_pickF (v := .bool (decide (a0 = 2))) rfl rfl) ?_
    refine f_op rfl rfl (s_as (v := .bool (decide (a0 = 2))) rfl) ?_
    refine f_nil ?_
    exact f_ret (.tmp rfl (.nil)) rfl

/- 72 congou/pairs.isRows -/
theorem ok72 : FnOk Try.prog 72 := ⟨⟨Try.f72, Try.func72, by kernel_rfl, rfl⟩⟩
theorem sim72 {a0 : Int} {a1 : Int} {H : Hp} {p : Bool × Hp} (h : r72 a0 a1 H = some p) : CallSim Try.prog 72 [.int .i64 a0, .int .i64 a1] H (.bool p.1) p.2 := by
  refine callSim (fn := Try.f72) (ret := ret72) Try.func72 rfl Try.ntmps72 rfl ?_ h
  unfold r72
  refine f_seq ?_
  refine f_region ?_
  refine f_op rfl rfl (s_as (v := .bool false) rfl) ?_
  refine f_nil ?_
  refine f_seq ?_
  refine f_region ?_
  refine f_op rfl rfl (s_mv (v := .int .i64 a0) rfl) ?_
  refine f_op rfl rfl (s_geq rfl rfl) ?_
  refine f_op rfl rfl (s_mv (v := .bool (decide (1 ≤ a0))) rfl) ?_
  refine o_if (fun h1 => ?_) (fun h1 => ?_)
  · skip
    refine o_know 7 rfl (dec_true h1) ?_
    refine f_op rfl rfl (s_mv (v := .int .i64 a0) rfl) ?_
    refine f_op rfl rfl (s_leq rfl rfl) ?_
    refine f_op rfl rfl (s_pickT (v := .bool (decide (a0 ≤ 8))) rfl rfl) ?_
    refine f_op rfl rfl (s_mv (v := .bool (decide (a0 ≤ 8))) rfl) ?_
    refine o_if (fun h2 => ?_) (fun h2 => ?_)
    · skip
      refine o_know 11 rfl (dec_true h2) ?_
      refine f_op rfl rfl (s_mv (v := .int .i64 a1) rfl) ?_
      refine o_bind ?_; intro p3 hp3
      refine f_op rfl rfl (s_callF rfl ok80 (sim80 hp3)) ?_
      refine f_op rfl rfl (s_pickT (v := .bool p3.1) rfl rfl) ?_
      refine f_op rfl rfl (s_as (v := .bool p3.1) rfl) ?_
      refine f_nil ?_
      exact f_ret (.tmp rfl (.nil)) rfl
    · skip
      refine o_know 11 rfl (dec_false h2) ?_
      refine f_no rfl rfl ?_
      refine f_no rfl rfl ?_
      refine f_op rfl rfl (s_pickF (v := .bool false) rfl rfl) ?_
      refine f_op rfl rfl (s_as (v := .bool false) rfl) ?_
      refine f_nil ?_
      exact f_ret (.tmp rfl (.nil)) rfl
  · skip
    refine o_know 7 rfl (dec_false h1) ?_
    refine f_no rfl rfl ?_
    refine f_no rfl rfl ?_
    refine f_op rfl rfl (s_pickF (v := .bool false) rfl rfl) ?_
    refine f_op rfl rfl (s_mv (v := .bool false) rfl) ?_
    refine f_no rfl rfl ?_
    refine f_no rfl rfl ?_
    refine f_op rfl rfl (s_pickF (v := .bool false) rfl rfl) ?_
    refine f_op rfl rfl (s_as (v := .bool false) rfl) ?_
    refine f_nil ?_
    exact f_ret (.tmp rfl (.nil)) rfl

/- 73 congou/pairs.rows -/
theorem ok73 : FnOk Try.prog 73 := ⟨⟨Try.f73, Try.func73, by kernel_rfl, rfl⟩⟩
theorem sim73 {app : App} (happ : AppSim Try.prog app) {a0 : Int} {a1 : Int} {a2 : AV} {H : Hp} {p : Unit × Hp} (h : r73 app a0 a1 a2 H = some p) : CallSim Try.prog 73 [.int .i64 a0, .int .i64 a1, a2] H (.tup []) p.2 := by
  refine callSim (fn := Try.f73) (ret := ret73) Try.func73 rfl Try.ntmps73 rfl ?_ h
  unfold r73
  refine f_seq ?_
  refine f_region ?_
  refine f_op rfl rfl (s_box1 (v := .int .i64 a0) rfl rfl) ?_
  refine f_op rfl rfl (s_box1 (v := .int .i64 a1) rfl rfl) ?_
  refine o_ck fun g1 => ?_
  refine f_op rfl rfl (s_box1 (v := a2) rfl g1) ?_
  refine o_hp ?_; intro H2 hH2
  refine f_nil ?_
  refine f_seq ?_
  refine f_region ?_
  refine o_bind ?_; intro x3 hx3
  refine f_op rfl rfl (s_load Try.underlying3 rfl rfl (ldI_eq hx3)) ?_
  refine f_op rfl rfl (s_mul rfl rfl) ?_
  refine o_ck fun g4 => ?_
  refine f_op rfl rfl (s_makeSlice Try.underlying22 ty3 rfl rfl (by decide) (by decide) rfl rfl g4) ?_
  refine f_op rfl rfl (s_alloc (zs := [.sl ⟨true, 0, 0, 0, 0, 0⟩]) ty22 rfl rfl) ?_
  refine o_bind ?_; intro H5 hH5
  refine f_op rfl rfl (s_store (s := 1) ty22 rfl rfl rfl hH5) ?_
  refine f_nil ?_
  refine f_seq ?_
  refine f_region ?_
  refine f_op rfl rfl (s_alloc (zs := [.nilfn]) ty37 rfl rfl) ?_
  refine o_hp ?_; intro H6 hH6
  refine f_nil ?_
  refine f_seq ?_
  refine f_region ?_
  refine f_op rfl rfl (s_makeFunc rfl rfl) ?_
  refine o_bind ?_; intro H7 hH7
  refine f_op rfl rfl (s_store (s := 1) ty37 rfl rfl rfl hH7) ?_
  refine f_nil ?_
  refine f_region ?_
  refine o_bind ?_; intro x8 hx8
  refine f_op rfl rfl (s_load Try.underlying37 rfl rfl (ldV_eq hx8)) ?_
  refine o_bind ?_; intro p9 hp9
  refine o_bind ?_; intro x10 hx10
  refine f_op rfl rfl (s_callv happ rfl rfl hp9) ?_
  refine o_know 13 rfl (asB_eq hx10) ?_
  refine f_nil ?_
  exact f_end (.nil) rfl

/- 20 congou/pairs.First -/
theorem ok20 : FnOk Try.prog 20 := ⟨⟨Try.f20, Try.func20, by kernel_rfl, rfl⟩⟩
theorem sim20 {app : App} (happ : AppSim Try.prog app) {a0 : Int} {a1 : Int} {H : Hp} {p : (Sl × Int) × Hp} (h : r20 app a0 a1 H = some p) : CallSim Try.prog 20 [.int .i64 a0, .int .i64 a1] H (.tup [.sl p.1.1, .int .i64 p.1.2]) p.2 := by
  refine callSim (fn := Try.f20) (ret := ret20) Try.func20 rfl Try.ntmps20 rfl ?_ h
  unfold r20
  refine f_seq ?_
  refine f_region ?_
  refine f_op rfl rfl (s_as (v := .sl ⟨true, 0, 0, 0, 0, 0⟩) rfl) ?_
  refine f_op rfl rfl (s_as (v := .int .i64 0) rfl) ?_
  refine f_nil ?_
  refine f_seq ?_
  refine f_seq ?_
  refine f_region ?_
  refine f_op rfl rfl (s_mv (v := .int .i64 a0) rfl) ?_
  refine f_op rfl rfl (s_mv (v := .int .i64 a1) rfl) ?_
  refine o_bind ?_; intro p1 hp1
  refine f_op rfl rfl (s_callF rfl ok72 (sim72 hp1)) ?_
  refine f_op rfl rfl (s_not rfl) ?_
  refine f_nil ?_
  refine f_if (fun h2 => ?_) (fun h2 => ?_)
  · skip
    refine f_know 10 rfl (bool_notT h2) ?_
    refine f_condF rfl ?_
    refine f_skip ?_
    refine f_seq ?_
    refine f_region ?_
    refine f_op rfl rfl (s_alloc (zs := [.sl ⟨true, 0, 0, 0, 0, 0⟩]) ty22 rfl rfl) ?_
    refine o_hp ?_; intro H3 hH3
    refine f_nil ?_
    refine f_seq ?_
    refine f_region ?_
    refine f_op rfl rfl (s_mv (v := .int .i64 a0) rfl) ?_
    refine f_op rfl rfl (s_mv (v := .int .i64 a1) rfl) ?_
    refine f_op rfl rfl (s_makeFunc rfl rfl) ?_
    refine o_bind ?_; intro p4 hp4
    refine f_op rfl rfl (s_callF rfl ok73 (sim73 happ hp4)) ?_
    refine f_nil ?_
    refine f_seq ?_
    refine f_seq ?_
    refine f_region ?_
    refine o_bind ?_; intro x5 hx5
    refine f_op rfl rfl (s_load Try.underlying22 rfl rfl (ldSl_eq hx5)) ?_
    refine f_op rfl rfl (s_eqNil Try.underlying22 rfl rfl) ?_
    refine f_nil ?_
    refine f_if (fun h6 => ?_) (fun h6 => ?_)
    · skip
      refine f_know 16 rfl (bool_T h6) ?_
      refine f_condT rfl ?_
      refine f_seq ?_
      refine f_region ?_
      refine f_op rfl rfl (s_as (v := .sl ⟨true, 0, 0, 0, 0, 0⟩) rfl) ?_
      refine f_op rfl rfl (s_as (v := .int .i64 4) rfl) ?_
      refine f_nil ?_
      exact f_ret (.tmp rfl (.tmp rfl (.nil))) rfl
    · skip
      refine f_know 16 rfl (bool_F h6) ?_
      refine f_condF rfl ?_
      refine f_skip ?_
      refine f_seq ?_
      refine f_region ?_
      refine o_bind ?_; intro x7 hx7
      refine f_op rfl rfl (s_load Try.underlying22 rfl rfl (ldSl_eq hx7)) ?_
      refine f_op rfl rfl (s_as (v := .sl x7) rfl) ?_
      refine f_op rfl rfl (s_as (v := .int .i64 0) rfl) ?_
      refine f_nil ?_
      exact f_ret (.tmp rfl (.tmp rfl (.nil))) rfl
  · skip
    refine f_know 10 rfl (bool_notF h2) ?_
    refine f_condT rfl ?_
    refine f_seq ?_
    refine f_region ?_
    refine f_op rfl rfl (s_as (v := .sl ⟨true, 0, 0, 0, 0, 0⟩) rfl) ?_
    refine f_op rfl rfl (s_as (v := .int .i64 2) rfl) ?_
    refine f_nil ?_
    exact f_ret (.tmp rfl (.tmp rfl (.nil))) rfl

/- 25 slices.Equal[[]int,int] -/
theorem ok25 : FnOk Try.prog 25 := ⟨⟨Try.f25, Try.func25, by kernel_rfl, rfl⟩⟩
theorem s25_l0 : ∀ (k_ : Nat) (v1 : Sl) (v2 : Sl) (v3 : Int) (v4 : Int) (H : Hp), Fin Try.prog Try.f25 ret25 26 (todoAt (bodyOf Try.f25) [1, 1, 0, 1, 0, 0] []) [(0, .sl v1), (1, .sl v2), (12, .int .i64 v3), (13, .int .i64 v4)] H (r25_l0 k_ v1 v2 v3 v4 H) := by
  intro k_
  induction k_ with
  | zero => intro _ _ _ _ _; exact f_none
  | succ k_ ih =>
    intro v1 v2 v3 v4 H
    rw [r25_l0]
    refine f_seq ?_
    refine f_region ?_
    refine f_op rfl rfl (s_lss rfl rfl) ?_
    refine f_nil ?_
    refine f_seq ?_
    refine f_if (fun h1 => ?_) (fun h1 => ?_)
    · skip
      refine f_know 14 rfl (dec_true h1) ?_
      refine f_condT rfl ?_
      refine f_skip ?_
      refine f_seq ?_
      refine f_block ?_
      refine f_seq ?_
      refine f_region ?_
      refine f_op rfl rfl (s_mv (v := .int .i64 v4) rfl) ?_
      refine f_op rfl rfl (s_as (v := .int .i64 v4) rfl) ?_
      refine f_nil ?_
      refine f_seq ?_
      refine f_ck fun g2 => ?_
      refine f_bind ?_; intro x3 hx3
      refine f_ck fun g4 => ?_
      refine f_bind ?_; intro x5 hx5
      refine f_draw (Φ := fun _ => True) [0, 0, 0, 1, 0, 0, 0, 1, 0] (Trc.pure rfl rfl rfl (fun _ _ => s_mv (v := .sl v1) rfl) (Trc.pure rfl rfl rfl (fun _ _ => s_mv (v := .int .i64 v4) rfl) (Trc.pure rfl rfl rfl (fun _ _ => s_idx Try.underlying22 ty3 rfl rfl g2) (Trc.read rfl rfl rfl (s_load Try.underlying3 rfl rfl (ldI_eq hx3)) (Trc.pure rfl rfl rfl (fun _ _ => s_mv (v := .sl v2) rfl) (Trc.pure rfl rfl rfl (fun _ _ => s_mv (v := .int .i64 v4) rfl) (Trc.pure rfl rfl rfl (fun _ _ => s_idx Try.underlying22 ty3 rfl rfl g4) (Trc.read rfl rfl rfl (s_load Try.underlying3 rfl rfl (ldI_eq hx5)) (Trc.pure rfl rfl rfl (fun _ _ => s_neq rfl rfl) (Trc.nil (trivial))))))))))) rfl (by decide +kernel) mixed ?_
      refine f_if (fun h6 => ?_) (fun h6 => ?_)
      · skip
        refine f_know 24 rfl (dec_true h6) ?_
        refine f_condT rfl ?_
        refine f_seq ?_
        refine f_region ?_
        refine f_op rfl rfl (s_as (v := .bool false) rfl) ?_
        refine f_nil ?_
        exact f_ret (.tmp rfl (.nil)) rfl
      · skip
        refine f_know 24 rfl (dec_false h6) ?_
        refine f_condF rfl ?_
        refine f_skip ?_
        refine f_inBlock ?_
        refine f_region ?_
        refine f_op rfl rfl (s_add rfl rfl) ?_
        refine f_op rfl rfl (s_mv (v := .int .i64 (w64 (v4 + 1))) rfl) ?_
        refine f_nil ?_
        refine f_inLoop ?_
        refine f_keep [0, 1, 12, 13] ?_
        exact ih v1 v2 v3 (w64 (v4 + 1)) H
    · skip
      refine f_know 14 rfl (dec_false h1) ?_
      refine f_condF rfl ?_
      refine f_exit rfl ?_
      refine f_seq ?_
      refine f_region ?_
      refine f_op rfl rfl (s_as (v := .bool true) rfl) ?_
      refine f_nil ?_
      exact f_ret (.tmp rfl (.nil)) rfl

theorem sim25 {a0 : Sl} {a1 : Sl} {H : Hp} {p : Bool × Hp} (h : r25 a0 a1 H = some p) : CallSim Try.prog 25 [.sl a0, .sl a1] H (.bool p.1) p.2 := by
  refine callSim (fn := Try.f25) (ret := ret25) Try.func25 rfl Try.ntmps25 rfl ?_ h
  unfold r25
  refine f_seq ?_
  refine f_region ?_
  refine f_op rfl rfl (s_as (v := .bool false) rfl) ?_
  refine f_nil ?_
  refine f_seq ?_
  refine f_seq ?_
  refine f_region ?_
  refine f_op rfl rfl (s_mv (v := .sl a0) rfl) ?_
  refine f_op rfl rfl (s_lenS rfl Try.underlying22 rfl) ?_
  refine f_op rfl rfl (s_mv (v := .sl a1) rfl) ?_
  refine f_op rfl rfl (s_lenS rfl Try.underlying22 rfl) ?_
  refine f_op rfl rfl (s_neq rfl rfl) ?_
  refine f_nil ?_
  refine f_if (fun h1 => ?_) (fun h1 => ?_)
  · skip
    refine f_know 10 rfl (dec_true h1) ?_
    refine f_condT rfl ?_
    refine f_seq ?_
    refine f_region ?_
    refine f_op rfl rfl (s_as (v := .bool false) rfl) ?_
    refine f_nil ?_
    exact f_ret (.tmp rfl (.nil)) rfl
  · skip
    refine f_know 10 rfl (dec_false h1) ?_
    refine f_condF rfl ?_
    refine f_skip ?_
    refine f_seq ?_
    refine f_seq ?_
    refine f_region ?_
    refine f_op rfl rfl (s_mv (v := .sl a0) rfl) ?_
    refine f_op rfl rfl (s_lenS rfl Try.underlying22 rfl) ?_
    refine f_op rfl rfl (s_mv (v := .int .i64 0) rfl) ?_
    refine f_nil ?_
    refine f_block ?_
    refine f_loop ?_
    refine f_keep [0, 1, 12, 13] ?_
    exact s25_l0 FUEL a0 a1 (a0.len : Int) 0 H

/- 23 congou/congoulaw08.awake -/
theorem ok23 : FnOk Try.prog 23 := ⟨⟨Try.f23, Try.func23, by kernel_rfl, rfl⟩⟩
theorem sim23 {app : App} (happ : AppSim Try.prog app) {H : Hp} {p : Bool × Hp} (h : r23 app H = some p) : CallSim Try.prog 23 [] H (.bool p.1) p.2 := by
  refine callSim (fn := Try.f23) (ret := ret23) Try.func23 rfl Try.ntmps23 rfl ?_ h
  unfold r23
  refine f_seq ?_
  refine f_region ?_
  refine f_op rfl rfl (s_as (v := .bool false) rfl) ?_
  refine f_nil ?_
  refine f_seq ?_
  refine f_region ?_
  refine o_bind ?_; intro p1 hp1
  refine f_op rfl rfl (s_callF rfl ok20 (sim20 happ hp1)) ?_
  refine f_op rfl rfl (s_mv (v := .tup [.sl p1.1.1, .int .i64 p1.1.2]) rfl) ?_
  refine f_op rfl rfl (s_extract (r := .sl p1.1.1) rfl rfl) ?_
  refine f_op rfl rfl (s_extract (r := .int .i64 p1.1.2) rfl rfl) ?_
  refine f_op rfl rfl (s_as (v := .sl p1.1.1) rfl) ?_
  refine f_op rfl rfl (s_as (v := .int .i64 p1.1.2) rfl) ?_
  refine f_nil ?_
  refine f_seq ?_
  refine f_region ?_
  refine f_op rfl rfl (s_mv (v := .int .i64 p1.1.2) rfl) ?_
  refine f_op rfl rfl (s_eql rfl rfl) ?_
  refine f_op rfl rfl (s_mv (v := .bool (decide (p1.1.2 = 0))) rfl) ?_
  refine o_if (fun h2 => ?_) (fun h2 => ?_)
  · skip
    refine o_know 9 rfl (dec_true h2) ?_
    refine f_op rfl rfl (s_mv (v := .sl p1.1.1) rfl) ?_
    refine f_op rfl rfl (s_buildSlice (cs := [.int .i64 1, .int .i64 1]) Try.underlying22 ty3 (by decide) (by decide) rfl (by decide) rfl) ?_
    refine o_bind ?_; intro p3 hp3
    refine f_op rfl rfl (s_callF rfl ok25 (sim25 hp3)) ?_
    refine f_op rfl rfl (s_pickT (v := .bool p3.1) rfl rfl) ?_
    refine f_op rfl rfl (s_as (v := .bool p3.1) rfl) ?_
    refine f_nil ?_
    exact f_ret (.tmp rfl (.nil)) rfl
  · skip
    refine o_know 9 rfl (dec_false h2) ?_
    refine f_no rfl rfl ?_
    refine f_no rfl rfl ?_
    refine f_no rfl rfl ?_
    refine f_op rfl rfl (s_pickF (v := .bool false) rfl rfl) ?_
    refine f_op rfl rfl (s_as (v := .bool false) rfl) ?_
    refine f_nil ?_
    exact f_ret (.tmp rfl (.nil)) rfl

/- 100 congou/pairs.isPlayers -/
theorem ok100 : FnOk Try.prog 100 := ⟨⟨Try.f100, Try.func100, by kernel_rfl, rfl⟩⟩
theorem sim100 {a0 : Int} {H : Hp} {p : Bool × Hp} (h : r100 a0 H = some p) : CallSim Try.prog 100 [.int .i64 a0] H (.bool p.1) p.2 := by
  refine callSim (fn := Try.f100) (ret := ret100) Try.func100 rfl Try.ntmps100 rfl ?_ h
  unfold r100
  refine f_seq ?_
  refine f_region ?_
  refine f_op rfl rfl (s_as (v := .bool false) rfl) ?_
  refine f_nil ?_
  refine f_seq ?_
  refine f_region ?_
  refine f_op rfl rfl (s_mv (v := .int .i64 a0) rfl) ?_
  refine f_op rfl rfl (s_geq rfl rfl) ?_
  refine f_op rfl rfl (s_mv (v := .bool (decide (1 ≤ a0))) rfl) ?_
  refine o_if (fun h1 => ?_) (fun h1 => ?_)
  · skip
    refine o_know 5 rfl (dec_true h1) ?_
    refine f_op rfl rfl (s_mv (v := .int .i64 a0) rfl) ?_
    refine f_op rfl rfl (s_leq rfl rfl) ?_
    refine f_op rfl rfl (s_pickT (v := .bool (decide (a0 ≤ 4))) rfl rfl) ?_
    refine f_op rfl rfl (s_as (v := .bool (decide (a0 ≤ 4))) rfl) ?_
    refine f_nil ?_
    exact f_ret (.tmp rfl (.nil)) rfl
  · skip
    refine o_know 5 rfl (dec_false h1) ?_
    refine f_no rfl rfl ?_
    refine f_no rfl rfl ?_
    refine f_op rfl rfl (s_pickF (v := .bool false) rfl rfl) ?_
    refine f_op rfl rfl (s_as (v := .bool false) rfl) ?_
    refine f_nil ?_
    exact f_ret (.tmp rfl (.nil)) rfl

/- 101 slices.IsSortedFunc[[][2]int,[2]int] -/
theorem ok101 : FnOk Try.prog 101 := ⟨⟨Try.f101, Try.func101, by kernel_rfl, rfl⟩⟩
theorem s101_l0 {app : App} (happ : AppSim Try.prog app) : ∀ (k_ : Nat) (v1 : Sl) (v2 : AV) (v3 : Int) (H : Hp), Fin Try.prog Try.f101 ret101 25 (todoAt (bodyOf Try.f101) [1, 0, 1, 0, 0] []) [(0, .sl v1), (1, v2), (5, .int .i64 v3)] H (r101_l0 app k_ v1 v2 v3 H) := by
  intro k_
  induction k_ with
  | zero => intro _ _ _ _; exact f_none
  | succ k_ ih =>
    intro v1 v2 v3 H
    rw [r101_l0]
    refine f_seq ?_
    refine f_seq ?_
    refine f_region ?_
    refine f_op rfl rfl (s_mv (v := .int .i64 v3) rfl) ?_
    refine f_op rfl rfl (s_gtr rfl rfl) ?_
    refine f_nil ?_
    refine f_if (fun h1 => ?_) (fun h1 => ?_)
    · skip
      refine f_know 10 rfl (dec_true h1) ?_
      refine f_condT rfl ?_
      refine f_skip ?_
      refine f_seq ?_
      refine f_block ?_
      refine f_seq ?_
      refine f_ck fun g2 => ?_
      refine f_bind ?_; intro x3 hx3
      refine f_bind ?_; intro x4 hx4
      refine f_ck fun g5 => ?_
      refine f_bind ?_; intro x6 hx6
      refine f_bind ?_; intro x7 hx7
      refine f_bind ?_; intro p8 hp8
      refine f_bind ?_; intro x9 hx9
      refine f_draw (Φ := fun _ => True) [0, 0, 0, 0, 1, 0, 0, 0, 0, 1, 2, 0] (Trc.pure rfl rfl rfl (fun _ _ => s_mv (v := v2) rfl) (Trc.pure rfl rfl rfl (fun _ _ => s_mv (v := .sl v1) rfl) (Trc.pure rfl rfl rfl (fun _ _ => s_mv (v := .int .i64 v3) rfl) (Trc.pure rfl rfl rfl (fun _ _ => s_idx Try.underlying40 ty43 rfl rfl g2) (Trc.read rfl rfl rfl (s_loads Try.underlying43 rfl ty43 rfl (lds_cons (ldI_eq hx3) (lds_cons (ldI_eq hx4) (lds_nil)))) (Trc.pure rfl rfl rfl (fun _ _ => s_mv (v := .sl v1) rfl) (Trc.pure rfl rfl rfl (fun _ _ => s_mv (v := .int .i64 v3) rfl) (Trc.pure rfl rfl rfl (fun _ _ => s_sub rfl rfl) (Trc.pure rfl rfl rfl (fun _ _ => s_idx Try.underlying40 ty43 rfl rfl g5) (Trc.read rfl rfl rfl (s_loads Try.underlying43 rfl ty43 rfl (lds_cons (ldI_eq hx6) (lds_cons (ldI_eq hx7) (lds_nil)))) (Trc.eff rfl rfl rfl (trivial) (s_callv happ rfl rfl hp8) (Trc.know 23 rfl (asI_eq hx9) (Trc.pure rfl rfl rfl (fun _ _ => s_lss rfl rfl) (Trc.nil (trivial))))))))))))))) rfl (by decide +kernel) mixed ?_
      refine f_if (fun h10 => ?_) (fun h10 => ?_)
      · skip
        refine f_know 24 rfl (dec_true h10) ?_
        refine f_condT rfl ?_
        refine f_seq ?_
        refine f_region ?_
        refine f_op rfl rfl (s_as (v := .bool false) rfl) ?_
        refine f_nil ?_
        exact f_ret (.tmp rfl (.nil)) rfl
      · skip
        refine f_know 24 rfl (dec_false h10) ?_
        refine f_condF rfl ?_
        refine f_skip ?_
        refine f_inBlock ?_
        refine f_region ?_
        refine f_op rfl rfl (s_mv (v := .int .i64 v3) rfl) ?_
        refine f_op rfl rfl (s_sub rfl rfl) ?_
        refine f_op rfl rfl (s_as (v := .int .i64 (w64 (v3 - 1))) rfl) ?_
        refine f_nil ?_
        refine f_inLoop ?_
        refine f_keep [0, 1, 5] ?_
        exact ih v1 v2 (w64 (v3 - 1)) p8.2
    · skip
      refine f_know 10 rfl (dec_false h1) ?_
      refine f_condF rfl ?_
      refine f_exit rfl ?_
      refine f_seq ?_
      refine f_region ?_
      refine f_op rfl rfl (s_as (v := .bool true) rfl) ?_
      refine f_nil ?_
      exact f_ret (.tmp rfl (.nil)) rfl

theorem sim101 {app : App} (happ : AppSim Try.prog app) {a0 : Sl} {a1 : AV} {H : Hp} {p : Bool × Hp} (h : r101 app a0 a1 H = some p) : CallSim Try.prog 101 [.sl a0, a1] H (.bool p.1) p.2 := by
  refine callSim (fn := Try.f101) (ret := ret101) Try.func101 rfl Try.ntmps101 rfl ?_ h
  unfold r101
  refine f_seq ?_
  refine f_region ?_
  refine f_op rfl rfl (s_as (v := .bool false) rfl) ?_
  refine f_nil ?_
  refine f_seq ?_
  refine f_seq ?_
  refine f_region ?_
  refine f_op rfl rfl (s_mv (v := .sl a0) rfl) ?_
  refine f_op rfl rfl (s_lenS rfl Try.underlying40 rfl) ?_
  refine f_op rfl rfl (s_sub rfl rfl) ?_
  refine f_op rfl rfl (s_as (v := .int .i64 (w64 ((a0.len : Int) - 1))) rfl) ?_
  refine f_nil ?_
  refine f_block ?_
  refine f_loop ?_
  refine f_keep [0, 1, 5] ?_
  exact s101_l0 happ FUEL a0 a1 (w64 ((a0.len : Int) - 1)) H

/- 109 cmp.isNaN[int] -/
theorem ok109 : FnOk Try.prog 109 := ⟨⟨Try.f109, Try.func109, by kernel_rfl, rfl⟩⟩
theorem sim109 {a0 : Int} {H : Hp} {p : Bool × Hp} (h : r109 a0 H = some p) : CallSim Try.prog 109 [.int .i64 a0] H (.bool p.1) p.2 := by
  refine callSim (fn := Try.f109) (ret := ret109) Try.func109 rfl Try.ntmps109 rfl ?_ h
  unfold r109
  refine f_seq ?_
  refine f_region ?_
  refine f_op rfl rfl (s_as (v := .bool false) rfl) ?_
  refine f_nil ?_
  refine f_seq ?_
  refine f_region ?_
  refine f_op rfl rfl (s_mv (v := .int .i64 a0) rfl) ?_
  refine f_op rfl rfl (s_mv (v := .int .i64 a0) rfl) ?_
  refine f_op rfl rfl (s_neq rfl rfl) ?_
  refine f_op rfl rfl (s_as (v := .bool (decide (a0 ≠ a0))) rfl) ?_
  refine f_nil ?_
  exact f_ret (.tmp rfl (.nil)) rfl

/- 87 cmp.Compare[int] -/
theorem ok87 : FnOk Try.prog 87 := ⟨⟨Try.f87, Try.func87, by kernel_rfl, rfl⟩⟩
theorem sim87 {a0 : Int} {a1 : Int} {H : Hp} {p : Int × Hp} (h : r87 a0 a1 H = some p) : CallSim Try.prog 87 [.int .i64 a0, .int .i64 a1] H (.int .i64 p.1) p.2 := by
  refine callSim (fn := Try.f87) (ret := ret87) Try.func87 rfl Try.ntmps87 rfl ?_ h
  unfold r87
  refine f_seq ?_
  refine f_region ?_
  refine f_op rfl rfl (s_as (v := .int .i64 0) rfl) ?_
  refine f_nil ?_
  refine f_seq ?_
  refine f_region ?_
  refine f_op rfl rfl (s_mv (v := .int .i64 a0) rfl) ?_
  refine o_bind ?_; intro p1 hp1
  refine f_op rfl rfl (s_callF rfl ok109 (sim109 hp1)) ?_
  refine f_op rfl rfl (s_as (v := .bool p1.1) rfl) ?_
  refine f_nil ?_
  refine f_seq ?_
  refine f_region ?_
  refine f_op rfl rfl (s_mv (v := .int .i64 a1) rfl) ?_
  refine o_bind ?_; intro p2 hp2
  refine f_op rfl rfl (s_callF rfl ok109 (sim109 hp2)) ?_
  refine f_op rfl rfl (s_as (v := .bool p2.1) rfl) ?_
  refine f_nil ?_
  refine f_seq ?_
  refine f_seq ?_
  refine f_region ?_
  refine f_op rfl rfl (s_mv (v := .bool p1.1) rfl) ?_
  refine f_nil ?_
  refine f_if (fun h3 => ?_) (fun h3 => ?_)
  · skip
    refine f_know 11 rfl (bool_T h3) ?_
    refine f_condT rfl ?_
    refine f_seq ?_
    refine f_seq ?_
    refine f_region ?_
    refine f_op rfl rfl (s_mv (v := .bool p2.1) rfl) ?_
    refine f_nil ?_
    refine f_if (fun h4 => ?_) (fun h4 => ?_)
    · skip
      refine f_know 12 rfl (bool_T h4) ?_
      refine f_condT rfl ?_
      refine f_seq ?_
      refine f_region ?_
      refine f_op rfl rfl (s_as (v := .int .i64 0) rfl) ?_
      refine f_nil ?_
      exact f_ret (.tmp rfl (.nil)) rfl
    · skip
      refine f_know 12 rfl (bool_F h4) ?_
      refine f_condF rfl ?_
      refine f_skip ?_
      refine f_seq ?_
      refine f_region ?_
      refine f_op rfl rfl (s_as (v := .int .i64 (-1)) rfl) ?_
      refine f_nil ?_
      exact f_ret (.tmp rfl (.nil)) rfl
  · skip
    refine f_know 11 rfl (bool_F h3) ?_
    refine f_condF rfl ?_
    refine f_skip ?_
    refine f_seq ?_
    refine f_seq ?_
    refine f_region ?_
    refine f_op rfl rfl (s_mv (v := .bool p2.1) rfl) ?_
    refine f_nil ?_
    refine f_if (fun h5 => ?_) (fun h5 => ?_)
    · skip
      refine f_know 13 rfl (bool_T h5) ?_
      refine f_condT rfl ?_
      refine f_seq ?_
      refine f_region ?_
      refine f_op rfl rfl (s_as (v := .int .i64 1) rfl) ?_
      refine f_nil ?_
      exact f_ret (.tmp rfl (.nil)) rfl
    · skip
      refine f_know 13 rfl (bool_F h5) ?_
      refine f_condF rfl ?_
      refine f_skip ?_
      refine f_seq ?_
      refine f_seq ?_
      refine f_region ?_
      refine f_op rfl rfl (s_mv (v := .int .i64 a0) rfl) ?_
      refine f_op rfl rfl (s_mv (v := .int .i64 a1) rfl) ?_
      refine f_op rfl rfl (s_lss rfl rfl) ?_
      refine f_nil ?_
      refine f_if (fun h6 => ?_) (fun h6 => ?_)
      · skip
        refine f_know 16 rfl (dec_true h6) ?_
        refine f_condT rfl ?_
        refine f_seq ?_
        refine f_region ?_
        refine f_op rfl rfl (s_as (v := .int .i64 (-1)) rfl) ?_
        refine f_nil ?_
        exact f_ret (.tmp rfl (.nil)) rfl
      · skip
        refine f_know 16 rfl (dec_false h6) ?_
        refine f_condF rfl ?_
        refine f_skip ?_
        refine f_seq ?_
        refine f_seq ?_
        refine f_region ?_
        refine f_op rfl rfl (s_mv (v := .int .i64 a0) rfl) ?_
        refine f_op rfl rfl (s_mv (v := .int .i64 a1) rfl) ?_
        refine f_op rfl rfl (s_gtr rfl rfl) ?_
        refine f_nil ?_
        refine f_if (fun h7 => ?_) (fun h7 => ?_)
        · skip
          refine f_know 19 rfl (dec_true h7) ?_
          refine f_condT rfl ?_
          refine f_seq ?_
          refine f_region ?_
          refine f_op rfl rfl (s_as (v := .int .i64 1) rfl) ?_
          refine f_nil ?_
          exact f_ret (.tmp rfl (.nil)) rfl
        · skip
          refine f_know 19 rfl (dec_false h7) ?_
          refine f_condF rfl ?_
          refine f_skip ?_
          refine f_seq ?_
          refine f_region ?_
          refine f_op rfl rfl (s_as (v := .int .i64 0) rfl) ?_
          refine f_nil ?_
          exact f_ret (.tmp rfl (.nil)) rfl

/- 113 cmp.Or[int] -/
theorem ok113 : FnOk Try.prog 113 := ⟨⟨Try.f113, Try.func113, by kernel_rfl, rfl⟩⟩
theorem s113_l0 : ∀ (k_ : Nat) (v1 : Int) (v2 : Sl) (v3 : Int) (v4 : Int) (H : Hp), Fin Try.prog Try.f113 ret113 18 (todoAt (bodyOf Try.f113) [1, 1, 0, 1, 0, 0] []) [(3, .int .i64 v1), (6, .sl v2), (7, .int .i64 v3), (8, .int .i64 v4)] H (r113_l0 k_ v1 v2 v3 v4 H) := by
  intro k_
  induction k_ with
  | zero => intro _ _ _ _ _; exact f_none
  | succ k_ ih =>
    intro v1 v2 v3 v4 H
    rw [r113_l0]
    refine f_seq ?_
    refine f_region ?_
    refine f_op rfl rfl (s_lss rfl rfl) ?_
    refine f_nil ?_
    refine f_seq ?_
    refine f_if (fun h1 => ?_) (fun h1 => ?_)
    · skip
      refine f_know 9 rfl (dec_true h1) ?_
      refine f_condT rfl ?_
      refine f_skip ?_
      refine f_seq ?_
      refine f_block ?_
      refine f_seq ?_
      refine f_region ?_
      refine o_ck fun g2 => ?_
      refine f_op rfl rfl (s_idx Try.underlying22 ty3 rfl rfl g2) ?_
      refine o_bind ?_; intro x3 hx3
      refine f_op rfl rfl (s_load Try.underlying3 rfl rfl (ldI_eq hx3)) ?_
      refine f_op rfl rfl (s_as (v := .int .i64 x3) rfl) ?_
      refine f_nil ?_
      refine f_seq ?_
      refine f_region ?_
      refine f_op rfl rfl (s_mv (v := .int .i64 x3) rfl) ?_
      refine f_op rfl rfl (s_mv (v := .int .i64 v1) rfl) ?_
      refine f_op rfl rfl (s_neq rfl rfl) ?_
      refine f_nil ?_
      refine f_if (fun h4 => ?_) (fun h4 => ?_)
      · skip
        refine f_know 14 rfl (dec_true h4) ?_
        refine f_condT rfl ?_
        refine f_seq ?_
        refine f_region ?_
        refine f_op rfl rfl (s_mv (v := .int .i64 x3) rfl) ?_
        refine f_op rfl rfl (s_as (v := .int .i64 x3) rfl) ?_
        refine f_nil ?_
        exact f_ret (.tmp rfl (.nil)) rfl
      · skip
        refine f_know 14 rfl (dec_false h4) ?_
        refine f_condF rfl ?_
        refine f_skip ?_
        refine f_inBlock ?_
        refine f_region ?_
        refine f_op rfl rfl (s_add rfl rfl) ?_
        refine f_op rfl rfl (s_mv (v := .int .i64 (w64 (v4 + 1))) rfl) ?_
        refine f_nil ?_
        refine f_inLoop ?_
        refine f_keep [3, 6, 7, 8] ?_
        exact ih v1 v2 v3 (w64 (v4 + 1)) H
    · skip
      refine f_know 9 rfl (dec_false h1) ?_
      refine f_condF rfl ?_
      refine f_exit rfl ?_
      refine f_seq ?_
      refine f_region ?_
      refine f_op rfl rfl (s_mv (v := .int .i64 v1) rfl) ?_
      refine f_op rfl rfl (s_as (v := .int .i64 v1) rfl) ?_
      refine f_nil ?_
      exact f_ret (.tmp rfl (.nil)) rfl

theorem sim113 {a0 : Sl} {H : Hp} {p : Int × Hp} (h : r113 a0 H = some p) : CallSim Try.prog 113 [.sl a0] H (.int .i64 p.1) p.2 := by
  refine callSim (fn := Try.f113) (ret := ret113) Try.func113 rfl Try.ntmps113 rfl ?_ h
  unfold r113
  refine f_seq ?_
  refine f_region ?_
  refine f_op rfl rfl (s_as (v := .int .i64 0) rfl) ?_
  refine f_nil ?_
  refine f_seq ?_
  refine f_region ?_
  refine f_op rfl rfl (s_as (v := .int .i64 0) rfl) ?_
  refine f_nil ?_
  refine f_seq ?_
  refine f_seq ?_
  refine f_region ?_
  refine f_op rfl rfl (s_mv (v := .sl a0) rfl) ?_
  refine f_op rfl rfl (s_lenS rfl Try.underlying22 rfl) ?_
  refine f_op rfl rfl (s_mv (v := .int .i64 0) rfl) ?_
  refine f_nil ?_
  refine f_block ?_
  refine f_loop ?_
  refine f_keep [3, 6, 7, 8] ?_
  exact s113_l0 FUEL 0 a0 (a0.len : Int) 0 H

/- 102 congou/pairs.comparePairs -/
theorem ok102 : FnOk Try.prog 102 := ⟨⟨Try.f102, Try.func102, by kernel_rfl, rfl⟩⟩
theorem sim102 {a0_0 : Int} {a0_1 : Int} {a1_0 : Int} {a1_1 : Int} {H : Hp} {p : Int × Hp} (h : r102 a0_0 a0_1 a1_0 a1_1 H = some p) : CallSim Try.prog 102 [.agg [.int .i64 a0_0, .int .i64 a0_1], .agg [.int .i64 a1_0, .int .i64 a1_1]] H (.int .i64 p.1) p.2 := by
  refine callSim (fn := Try.f102) (ret := ret102) Try.func102 rfl Try.ntmps102 rfl ?_ h
  unfold r102
  refine f_seq ?_
  refine f_region ?_
  refine f_op rfl rfl (s_box (v := .agg [.int .i64 a0_0, .int .i64 a0_1]) rfl rfl) ?_
  refine f_op rfl rfl (s_box (v := .agg [.int .i64 a1_0, .int .i64 a1_1]) rfl rfl) ?_
  refine f_op rfl rfl (s_as (v := .int .i64 0) rfl) ?_
  refine o_hp ?_; intro H1 hH1
  refine f_nil ?_
  refine f_seq ?_
  refine f_bind ?_; intro x2 hx2
  refine f_bind ?_; intro x3 hx3
  refine f_bind ?_; intro p4 hp4
  refine f_bind ?_; intro x5 hx5
  refine f_bind ?_; intro x6 hx6
  refine f_bind ?_; intro p7 hp7
  refine f_bind ?_; intro p8 hp8
  refine f_ck fun g9 => ?_
  refine f_ck fun g10 => ?_
  refine f_ck fun g11 => ?_
  refine f_ck fun g12 => ?_
  refine f_ck fun g13 => ?_
  refine f_ck fun g14 => ?_
  refine f_ck fun g15 => ?_
  refine f_ck fun g16 => ?_
  refine f_draw (Φ := fun H_ => H_.ld H.n (0 + (1 : Int).toNat * 1) = some (.int .i64 x5) ∧ H_.ld ((H.push (.cells [.int .i64 a0_0, .int .i64 a0_1] false)).n) (0 + (1 : Int).toNat * 1) = some (.int .i64 x6)) [0, 1, 0, 1, 2, 0, 0, 0, 0, 2, 2, 2, 0] (Trc.pure rfl rfl rfl (fun _ _ => s_idxA Try.underlying43 ty3 rfl rfl (by decide)) (Trc.read rfl rfl rfl (s_load Try.underlying3 rfl rfl (ldI_eq hx2)) (Trc.pure rfl rfl rfl (fun _ _ => s_idxA Try.underlying43 ty3 rfl rfl (by decide)) (Trc.read rfl rfl rfl (s_load Try.underlying3 rfl rfl (ldI_eq hx3)) (Trc.eff rfl rfl rfl (⟨ldI_eq g9, ldI_eq g10⟩) (s_callF rfl ok87 (sim87 hp4)) (Trc.pure rfl rfl rfl (fun _ _ => s_idxA Try.underlying43 ty3 rfl rfl (by decide)) (Trc.pure rfl rfl rfl (fun _ hp_ => s_load Try.underlying3 rfl rfl hp_.1) (Trc.pure rfl rfl rfl (fun _ _ => s_idxA Try.underlying43 ty3 rfl rfl (by decide)) (Trc.pure rfl rfl rfl (fun _ hp_ => s_load Try.underlying3 rfl rfl hp_.2) (Trc.eff rfl rfl rfl (⟨ldI_eq hx5, ldI_eq hx6⟩) (s_callF rfl ok87 (sim87 hp7)) (Trc.eff rfl rfl rfl (⟨ldI_eq g11, ldI_eq g12⟩) (s_buildSlice (cs := [.int .i64 p4.1, .int .i64 p7.1]) Try.underlying22 ty3 (by decide) (by decide) rfl (by decide) rfl) (Trc.eff rfl rfl rfl (⟨ldI_eq g13, ldI_eq g14⟩) (s_callF rfl ok113 (sim113 hp8)) (Trc.pure rfl rfl rfl (fun _ _ => s_as (v := .int .i64 p8.1) rfl) (Trc.nil (⟨ldI_eq g15, ldI_eq g16⟩))))))))))))))) rfl (by decide +kernel) mixed ?_
  exact f_ret (.tmp rfl (.nil)) rfl

/- 62 congou/pairs.IsRounds -/
theorem ok62 : FnOk Try.prog 62 := ⟨⟨Try.f62, Try.func62, by kernel_rfl, rfl⟩⟩
theorem s62_j3 {app : App} (happ : AppSim Try.prog app) (kt2 : Int → Nat → Int → Sl → Int → Int → Sl → Int → Int → Hp → Option ((Bool × Int) × Hp)) (hkt2 : ∀ (v1 : Int) (v2 : Nat) (v3 : Int) (v4 : Sl) (v5 : Int) (v6 : Int) (v7 : Sl) (v8 : Int) (v9 : Int) (H : Hp), Fin Try.prog Try.f62 ret62 84 (todoAt (bodyOf Try.f62) [1, 1, 1, 1, 0, 1, 0, 0, 1, 1, 0, 0, 1, 1, 1, 0, 1, 0, 0] []) [(0, .int .i64 v1), (6, .map v2), (9, .int .i64 v3), (22, .sl v4), (23, .int .i64 v5), (24, .int .i64 v6), (37, .sl v7), (38, .int .i64 v8), (39, .int .i64 v9)] H (kt2 v1 v2 v3 v4 v5 v6 v7 v8 v9 H)) (v1 : Int) (v2 : Nat) (v3 : Int) (v4 : Nat) (v5 : Sl) (v6 : Int) (v7 : Int) (v8 : Sl) (v9 : Int) (v10 : Int) (v11 : Bool) (H : Hp) : Fin Try.prog Try.f62 ret62 84 (todoAt (bodyOf Try.f62) [1, 1, 1, 1, 0, 1, 0, 0, 1, 1, 0, 0, 1, 1, 1, 0, 1, 0, 0, 1, 1, 0, 0, 1, 0, 1] []) [(0, .int .i64 v1), (6, .map v2), (9, .int .i64 v3), (11, .ptr v4 0), (22, .sl v5), (23, .int .i64 v6), (24, .int .i64 v7), (37, .sl v8), (38, .int .i64 v9), (39, .int .i64 v10), (64, .bool v11)] H (r62_j3 app kt2 v1 v2 v3 v4 v5 v6 v7 v8 v9 v10 v11 H) := by
  unfold r62_j3
  refine f_if (fun h1 => ?_) (fun h1 => ?_)
  · skip
    refine f_know 64 rfl (bool_T h1) ?_
    refine f_condT rfl ?_
    refine f_seq ?_
    refine f_region ?_
    refine f_op rfl rfl (s_as (v := .bool false) rfl) ?_
    refine f_op rfl rfl (s_as (v := .int .i64 0) rfl) ?_
    refine f_nil ?_
    exact f_ret (.tmp rfl (.tmp rfl (.nil))) rfl
  · skip
    refine f_know 64 rfl (bool_F h1) ?_
    refine f_condF rfl ?_
    refine f_skip ?_
    refine f_seq ?_
    refine f_region ?_
    refine f_op rfl rfl (s_mv (v := .map v2) rfl) ?_
    refine o_bind ?_; intro x2 hx2
    refine o_bind ?_; intro x3 hx3
    refine f_op rfl rfl (s_loads Try.underlying43 rfl ty43 rfl (lds_cons (ldI_eq hx2) (lds_cons (ldI_eq hx3) (lds_nil)))) ?_
    refine o_bind ?_; intro H4 hH4
    refine f_op rfl rfl (s_mapUpdate (kt := (.arr 2 .i64)) Try.underlying99 ⟨3, _, _, Try.underlying43, Try.underlying3, ty3⟩ rfl rfl rfl (msetT_eq hH4).1 (msetT_eq hH4).2) ?_
    refine f_nil ?_
    refine f_bind ?_; intro x5 hx5
    refine f_ck fun g6 => ?_
    refine f_bind ?_; intro x7 hx7
    refine f_ck fun g8 => ?_
    refine f_draw (Φ := fun _ => True) [0, 0, 1, 0, 0, 1, 0, 0, 0, 0] (Trc.pure rfl rfl rfl (fun _ _ => s_mv (v := .int .i64 v3) rfl) (Trc.pure rfl rfl rfl (fun _ _ => s_idxA Try.underlying43 ty3 rfl rfl (by decide)) (Trc.read rfl rfl rfl (s_load Try.underlying3 rfl rfl (ldI_eq hx5)) (Trc.pure rfl rfl rfl (fun _ _ => s_shl rfl rfl g6) (Trc.pure rfl rfl rfl (fun _ _ => s_idxA Try.underlying43 ty3 rfl rfl (by decide)) (Trc.read rfl rfl rfl (s_load Try.underlying3 rfl rfl (ldI_eq hx7)) (Trc.pure rfl rfl rfl (fun _ _ => s_shl rfl rfl g8) (Trc.pure rfl rfl rfl (fun _ _ => s_or rfl rfl) (Trc.pure rfl rfl rfl (fun _ _ => s_or rfl rfl) (Trc.pure rfl rfl rfl (fun _ _ => s_as (v := .int .i64 (bitsOf .or .i64 v3 (bitsOf .or .i64 (shlOf .i64 1 x5) (shlOf .i64 1 x7)))) rfl) (Trc.nil (trivial)))))))))))) rfl (by decide +kernel) mixed ?_
    refine f_inBlock ?_
    refine f_region ?_
    refine f_op rfl rfl (s_add rfl rfl) ?_
    refine f_op rfl rfl (s_mv (v := .int .i64 (w64 (v10 + 1))) rfl) ?_
    refine f_nil ?_
    refine f_inLoop ?_
    refine f_keep [0, 6, 9, 22, 23, 24, 37, 38, 39] ?_
    exact hkt2 v1 v2 (bitsOf .or .i64 v3 (bitsOf .or .i64 (shlOf .i64 1 x5) (shlOf .i64 1 x7))) v5 v6 v7 v8 v9 (w64 (v10 + 1)) H4

theorem s62_l2 {app : App} (happ : AppSim Try.prog app) (kt0 : Int → Nat → Sl → Int → Int → Hp → Option ((Bool × Int) × Hp)) (hkt0 : ∀ (v1 : Int) (v2 : Nat) (v3 : Sl) (v4 : Int) (v5 : Int) (H : Hp), Fin Try.prog Try.f62 ret62 84 (todoAt (bodyOf Try.f62) [1, 1, 1, 1, 0, 1, 0, 0] []) [(0, .int .i64 v1), (6, .map v2), (22, .sl v3), (23, .int .i64 v4), (24, .int .i64 v5)] H (kt0 v1 v2 v3 v4 v5 H)) : ∀ (k_ : Nat) (v1 : Int) (v2 : Nat) (v3 : Int) (v4 : Sl) (v5 : Int) (v6 : Int) (v7 : Sl) (v8 : Int) (v9 : Int) (H : Hp), Fin Try.prog Try.f62 ret62 84 (todoAt (bodyOf Try.f62) [1, 1, 1, 1, 0, 1, 0, 0, 1, 1, 0, 0, 1, 1, 1, 0, 1, 0, 0] []) [(0, .int .i64 v1), (6, .map v2), (9, .int .i64 v3), (22, .sl v4), (23, .int .i64 v5), (24, .int .i64 v6), (37, .sl v7), (38, .int .i64 v8), (39, .int .i64 v9)] H (r62_l2 app kt0 k_ v1 v2 v3 v4 v5 v6 v7 v8 v9 H) := by
  intro k_
  induction k_ with
  | zero => intro _ _ _ _ _ _ _ _ _ _; exact f_none
  | succ k_ ih =>
    intro v1 v2 v3 v4 v5 v6 v7 v8 v9 H
    rw [r62_l2]
    refine f_seq ?_
    refine f_region ?_
    refine f_op rfl rfl (s_lss rfl rfl) ?_
    refine f_nil ?_
    refine f_seq ?_
    refine f_if (fun h1 => ?_) (fun h1 => ?_)
    · skip
      refine f_know 40 rfl (dec_true h1) ?_
      refine f_condT rfl ?_
      refine f_skip ?_
      refine f_seq ?_
      refine f_block ?_
      refine f_seq ?_
      refine f_region ?_
      refine o_ck fun g2 => ?_
      refine f_op rfl rfl (s_idx Try.underlying40 ty43 rfl rfl g2) ?_
      refine o_bind ?_; intro x3 hx3
      refine o_bind ?_; intro x4 hx4
      refine f_op rfl rfl (s_loads Try.underlying43 rfl ty43 rfl (lds_cons (ldI_eq hx3) (lds_cons (ldI_eq hx4) (lds_nil)))) ?_
      refine f_op rfl rfl (s_alloc (zs := [.int .i64 0, .int .i64 0]) ty43 rfl rfl) ?_
      refine o_bind ?_; intro H5 hH5
      refine f_op rfl rfl (s_stores ty43 rfl rfl rfl rfl hH5 (Nat.le_of_eq (sts_mono hH5).symm)) ?_
      refine f_nil ?_
      refine f_seq ?_
      refine f_seq ?_
      refine f_region ?_
      refine f_op rfl rfl (s_idxA Try.underlying43 ty3 rfl rfl (by decide)) ?_
      refine o_bind ?_; intro x6 hx6
      refine f_op rfl rfl (s_load Try.underlying3 rfl rfl (ldI_eq hx6)) ?_
      refine f_op rfl rfl (s_lss rfl rfl) ?_
      refine f_op rfl rfl (s_mv (v := .bool (decide (x6 < 0))) rfl) ?_
      refine o_if (fun h7 => ?_) (fun h7 => ?_)
      · skip
        refine o_know 46 rfl (dec_true h7) ?_
        refine f_no rfl rfl ?_
        refine f_no rfl rfl ?_
        refine f_no rfl rfl ?_
        refine f_no rfl rfl ?_
        refine f_no rfl rfl ?_
        refine f_op rfl rfl (s_pickT (v := .bool true) rfl rfl) ?_
        refine f_op rfl rfl (s_mv (v := .bool true) rfl) ?_
        refine f_no rfl rfl ?_
        refine f_no rfl rfl ?_
        refine f_no rfl rfl ?_
        refine f_no rfl rfl ?_
        refine f_no rfl rfl ?_
        refine f_op rfl rfl (s_pickT (v := .bool true) rfl rfl) ?_
        refine f_op rfl rfl (s_mv (v := .bool true) rfl) ?_
        refine f_no rfl rfl ?_
        refine f_no rfl rfl ?_
        refine f_no rfl rfl ?_
        refine f_op rfl rfl (s_pickT (v := .bool true) rfl rfl) ?_
        refine f_nil ?_
        refine f_keep [0, 6, 9, 11, 22, 23, 24, 37, 38, 39, 64] ?_
        exact s62_j3 happ _ (fun v1_ v2_ v3_ v4_ v5_ v6_ v7_ v8_ v9_ H_ => ih v1_ v2_ v3_ v4_ v5_ v6_ v7_ v8_ v9_ H_) v1 v2 v3 H.n v4 v5 v6 v7 v8 v9 true H5
      · skip
        refine o_know 46 rfl (dec_false h7) ?_
        refine f_op rfl rfl (s_idxA Try.underlying43 ty3 rfl rfl (by decide)) ?_
        refine o_bind ?_; intro x8 hx8
        refine f_op rfl rfl (s_load Try.underlying3 rfl rfl (ldI_eq hx8)) ?_
        refine f_op rfl rfl (s_idxA Try.underlying43 ty3 rfl rfl (by decide)) ?_
        refine o_bind ?_; intro x9 hx9
        refine f_op rfl rfl (s_load Try.underlying3 rfl rfl (ldI_eq hx9)) ?_
        refine f_op rfl rfl (s_geq rfl rfl) ?_
        refine f_op rfl rfl (s_pickF (v := .bool (decide (x9 ≤ x8))) rfl rfl) ?_
        refine f_op rfl rfl (s_mv (v := .bool (decide (x9 ≤ x8))) rfl) ?_
        refine o_if (fun h10 => ?_) (fun h10 => ?_)
        · skip
          refine o_know 53 rfl (dec_true h10) ?_
          refine f_no rfl rfl ?_
          refine f_no rfl rfl ?_
          refine f_no rfl rfl ?_
          refine f_no rfl rfl ?_
          refine f_no rfl rfl ?_
          refine f_op rfl rfl (s_pickT (v := .bool true) rfl rfl) ?_
          refine f_op rfl rfl (s_mv (v := .bool true) rfl) ?_
          refine f_no rfl rfl ?_
          refine f_no rfl rfl ?_
          refine f_no rfl rfl ?_
          refine f_op rfl rfl (s_pickT (v := .bool true) rfl rfl) ?_
          refine f_nil ?_
          refine f_keep [0, 6, 9, 11, 22, 23, 24, 37, 38, 39, 64] ?_
          exact s62_j3 happ _ (fun v1_ v2_ v3_ v4_ v5_ v6_ v7_ v8_ v9_ H_ => ih v1_ v2_ v3_ v4_ v5_ v6_ v7_ v8_ v9_ H_) v1 v2 v3 H.n v4 v5 v6 v7 v8 v9 true H5
        · skip
          refine o_know 53 rfl (dec_false h10) ?_
          refine f_op rfl rfl (s_idxA Try.underlying43 ty3 rfl rfl (by decide)) ?_
          refine o_bind ?_; intro x11 hx11
          refine f_op rfl rfl (s_load Try.underlying3 rfl rfl (ldI_eq hx11)) ?_
          refine f_op rfl rfl (s_mv (v := .int .i64 v1) rfl) ?_
          refine f_op rfl rfl (s_mul rfl rfl) ?_
          refine f_op rfl rfl (s_geq rfl rfl) ?_
          refine f_op rfl rfl (s_pickF (v := .bool (decide ((w64 (2 * v1)) ≤ x11))) rfl rfl) ?_
          refine f_op rfl rfl (s_mv (v := .bool (decide ((w64 (2 * v1)) ≤ x11))) rfl) ?_
          refine o_if (fun h12 => ?_) (fun h12 => ?_)
          · skip
            refine o_know 60 rfl (dec_true h12) ?_
            refine f_no rfl rfl ?_
            refine f_no rfl rfl ?_
            refine f_no rfl rfl ?_
            refine f_op rfl rfl (s_pickT (v := .bool true) rfl rfl) ?_
            refine f_nil ?_
            refine f_keep [0, 6, 9, 11, 22, 23, 24, 37, 38, 39, 64] ?_
            exact s62_j3 happ _ (fun v1_ v2_ v3_ v4_ v5_ v6_ v7_ v8_ v9_ H_ => ih v1_ v2_ v3_ v4_ v5_ v6_ v7_ v8_ v9_ H_) v1 v2 v3 H.n v4 v5 v6 v7 v8 v9 true H5
          · skip
            refine o_know 60 rfl (dec_false h12) ?_
            refine f_op rfl rfl (s_mv (v := .map v2) rfl) ?_
            refine o_bind ?_; intro x13 hx13
            refine o_bind ?_; intro x14 hx14
            refine f_op rfl rfl (s_loads Try.underlying43 rfl ty43 rfl (lds_cons (ldI_eq hx13) (lds_cons (ldI_eq hx14) (lds_nil)))) ?_
            refine o_bind ?_; intro x15 hx15
            refine o_bind ?_; intro x16 hx16
            refine f_op rfl rfl (s_lookup (kt := (.arr 2 .i64)) (ok := false) Try.underlying99 ⟨3, _, _, Try.underlying43, Try.underlying3, ty3⟩ ty4 rfl rfl (mgetT_eq hx15).1 (mgetT_eq hx15).2) ?_
            refine o_know 63 rfl (asB_eq hx16) ?_
            refine f_op rfl rfl (s_pickF (v := .bool x16) rfl rfl) ?_
            refine f_nil ?_
            refine f_keep [0, 6, 9, 11, 22, 23, 24, 37, 38, 39, 64] ?_
            exact s62_j3 happ _ (fun v1_ v2_ v3_ v4_ v5_ v6_ v7_ v8_ v9_ H_ => ih v1_ v2_ v3_ v4_ v5_ v6_ v7_ v8_ v9_ H_) v1 v2 v3 H.n v4 v5 v6 v7 v8 v9 x16 H5
    · skip
      refine f_know 40 rfl (dec_false h1) ?_
      refine f_condF rfl ?_
      refine f_exit rfl ?_
      refine f_seq ?_
      refine f_region ?_
      refine f_op rfl rfl (s_mv (v := .int .i64 v3) rfl) ?_
      refine f_op rfl rfl (s_mv (v := .int .i64 v1) rfl) ?_
      refine f_op rfl rfl (s_mul rfl rfl) ?_
      refine o_ck fun g17 => ?_
      refine f_op rfl rfl (s_shl rfl rfl g17) ?_
      refine f_op rfl rfl (s_sub rfl rfl) ?_
      refine f_op rfl rfl (s_neq rfl rfl) ?_
      refine f_nil ?_
      refine f_if (fun h18 => ?_) (fun h18 => ?_)
      · skip
        refine f_know 82 rfl (dec_true h18) ?_
        refine f_condT rfl ?_
        refine f_seq ?_
        refine f_region ?_
        refine f_op rfl rfl (s_as (v := .bool false) rfl) ?_
        refine f_op rfl rfl (s_as (v := .int .i64 0) rfl) ?_
        refine f_nil ?_
        exact f_ret (.tmp rfl (.tmp rfl (.nil))) rfl
      · skip
        refine f_know 82 rfl (dec_false h18) ?_
        refine f_condF rfl ?_
        refine f_skip ?_
        refine f_inBlock ?_
        refine f_region ?_
        refine f_op rfl rfl (s_add rfl rfl) ?_
        refine f_op rfl rfl (s_mv (v := .int .i64 (w64 (v6 + 1))) rfl) ?_
        refine f_nil ?_
        refine f_inLoop ?_
        refine f_keep [0, 6, 22, 23, 24] ?_
        exact hkt0 v1 v2 v4 v5 (w64 (v6 + 1)) H

theorem s62_j1 {app : App} (happ : AppSim Try.prog app) (kt0 : Int → Nat → Sl → Int → Int → Hp → Option ((Bool × Int) × Hp)) (hkt0 : ∀ (v1 : Int) (v2 : Nat) (v3 : Sl) (v4 : Int) (v5 : Int) (H : Hp), Fin Try.prog Try.f62 ret62 84 (todoAt (bodyOf Try.f62) [1, 1, 1, 1, 0, 1, 0, 0] []) [(0, .int .i64 v1), (6, .map v2), (22, .sl v3), (23, .int .i64 v4), (24, .int .i64 v5)] H (kt0 v1 v2 v3 v4 v5 H)) (v1 : Int) (v2 : Nat) (v3 : Sl) (v4 : Int) (v5 : Sl) (v6 : Int) (v7 : Int) (v8 : Bool) (H : Hp) : Fin Try.prog Try.f62 ret62 84 (todoAt (bodyOf Try.f62) [1, 1, 1, 1, 0, 1, 0, 0, 1, 1, 0, 0, 1, 1, 0, 1] []) [(0, .int .i64 v1), (6, .map v2), (8, .sl v3), (9, .int .i64 v4), (22, .sl v5), (23, .int .i64 v6), (24, .int .i64 v7), (36, .bool v8)] H (r62_j1 app kt0 v1 v2 v3 v4 v5 v6 v7 v8 H) := by
  unfold r62_j1
  refine f_if (fun h1 => ?_) (fun h1 => ?_)
  · skip
    refine f_know 36 rfl (bool_T h1) ?_
    refine f_condT rfl ?_
    refine f_seq ?_
    refine f_region ?_
    refine f_op rfl rfl (s_as (v := .bool false) rfl) ?_
    refine f_op rfl rfl (s_as (v := .int .i64 0) rfl) ?_
    refine f_nil ?_
    exact f_ret (.tmp rfl (.tmp rfl (.nil))) rfl
  · skip
    refine f_know 36 rfl (bool_F h1) ?_
    refine f_condF rfl ?_
    refine f_skip ?_
    refine f_seq ?_
    refine f_seq ?_
    refine f_region ?_
    refine f_op rfl rfl (s_mv (v := .sl v3) rfl) ?_
    refine f_op rfl rfl (s_lenS rfl Try.underlying40 rfl) ?_
    refine f_op rfl rfl (s_mv (v := .int .i64 0) rfl) ?_
    refine f_nil ?_
    refine f_block ?_
    refine f_loop ?_
    refine f_keep [0, 6, 9, 22, 23, 24, 37, 38, 39] ?_
    exact s62_l2 happ _ hkt0 FUEL v1 v2 v4 v5 v6 v7 v3 (v3.len : Int) 0 H

theorem s62_l0 {app : App} (happ : AppSim Try.prog app) : ∀ (k_ : Nat) (v1 : Int) (v2 : Nat) (v3 : Sl) (v4 : Int) (v5 : Int) (H : Hp), Fin Try.prog Try.f62 ret62 84 (todoAt (bodyOf Try.f62) [1, 1, 1, 1, 0, 1, 0, 0] []) [(0, .int .i64 v1), (6, .map v2), (22, .sl v3), (23, .int .i64 v4), (24, .int .i64 v5)] H (r62_l0 app k_ v1 v2 v3 v4 v5 H) := by
  intro k_
  induction k_ with
  | zero => intro _ _ _ _ _ _; exact f_none
  | succ k_ ih =>
    intro v1 v2 v3 v4 v5 H
    rw [r62_l0]
    refine f_seq ?_
    refine f_region ?_
    refine f_op rfl rfl (s_lss rfl rfl) ?_
    refine f_nil ?_
    refine f_seq ?_
    refine f_if (fun h1 => ?_) (fun h1 => ?_)
    · skip
      refine f_know 25 rfl (dec_true h1) ?_
      refine f_condT rfl ?_
      refine f_skip ?_
      refine f_seq ?_
      refine f_block ?_
      refine f_seq ?_
      refine f_region ?_
      refine o_ck fun g2 => ?_
      refine f_op rfl rfl (s_idx Try.underlying72 ty40 rfl rfl g2) ?_
      refine o_bind ?_; intro x3 hx3
      refine f_op rfl rfl (s_load Try.underlying40 rfl rfl (ldSl_eq hx3)) ?_
      refine f_op rfl rfl (s_as (v := .sl x3) rfl) ?_
      refine f_nil ?_
      refine f_seq ?_
      refine f_region ?_
      refine f_op rfl rfl (s_as (v := .int .i64 0) rfl) ?_
      refine f_nil ?_
      refine f_seq ?_
      refine f_seq ?_
      refine f_region ?_
      refine f_op rfl rfl (s_mv (v := .sl x3) rfl) ?_
      refine f_op rfl rfl (s_lenS rfl Try.underlying40 rfl) ?_
      refine f_op rfl rfl (s_mv (v := .int .i64 v1) rfl) ?_
      refine f_op rfl rfl (s_neq rfl rfl) ?_
      refine f_op rfl rfl (s_mv (v := .bool (decide ((x3.len : Int) ≠ v1))) rfl) ?_
      refine o_if (fun h4 => ?_) (fun h4 => ?_)
      · skip
        refine o_know 32 rfl (dec_true h4) ?_
        refine f_no rfl rfl ?_
        refine f_no rfl rfl ?_
        refine f_no rfl rfl ?_
        refine f_op rfl rfl (s_pickT (v := .bool true) rfl rfl) ?_
        refine f_nil ?_
        refine f_keep [0, 6, 8, 9, 22, 23, 24, 36] ?_
        exact s62_j1 happ _ (fun v1_ v2_ v3_ v4_ v5_ H_ => ih v1_ v2_ v3_ v4_ v5_ H_) v1 v2 x3 0 v3 v4 v5 true H
      · skip
        refine o_know 32 rfl (dec_false h4) ?_
        refine f_op rfl rfl (s_mv (v := .sl x3) rfl) ?_
        refine o_bind ?_; intro p5 hp5
        refine f_op rfl rfl (s_callF rfl ok101 (sim101 happ hp5)) ?_
        refine f_op rfl rfl (s_not rfl) ?_
        refine f_op rfl rfl (s_pickF (v := .bool (!p5.1)) rfl rfl) ?_
        refine f_nil ?_
        refine f_keep [0, 6, 8, 9, 22, 23, 24, 36] ?_
        exact s62_j1 happ _ (fun v1_ v2_ v3_ v4_ v5_ H_ => ih v1_ v2_ v3_ v4_ v5_ H_) v1 v2 x3 0 v3 v4 v5 (!p5.1) p5.2
    · skip
      refine f_know 25 rfl (dec_false h1) ?_
      refine f_condF rfl ?_
      refine f_exit rfl ?_
      refine f_seq ?_
      refine f_region ?_
      refine f_op rfl rfl (s_as (v := .bool true) rfl) ?_
      refine f_op rfl rfl (s_as (v := .int .i64 0) rfl) ?_
      refine f_nil ?_
      exact f_ret (.tmp rfl (.tmp rfl (.nil))) rfl

theorem sim62 {app : App} (happ : AppSim Try.prog app) {a0 : Int} {a1 : Sl} {H : Hp} {p : (Bool × Int) × Hp} (h : r62 app a0 a1 H = some p) : CallSim Try.prog 62 [.int .i64 a0, .sl a1] H (.tup [.bool p.1.1, .int .i64 p.1.2]) p.2 := by
  refine callSim (fn := Try.f62) (ret := ret62) Try.func62 rfl Try.ntmps62 rfl ?_ h
  unfold r62
  refine f_seq ?_
  refine f_region ?_
  refine f_op rfl rfl (s_as (v := .bool false) rfl) ?_
  refine f_op rfl rfl (s_as (v := .int .i64 0) rfl) ?_
  refine f_nil ?_
  refine f_seq ?_
  refine f_seq ?_
  refine f_region ?_
  refine f_op rfl rfl (s_mv (v := .int .i64 a0) rfl) ?_
  refine o_bind ?_; intro p1 hp1
  refine f_op rfl rfl (s_callF rfl ok100 (sim100 hp1)) ?_
  refine f_op rfl rfl (s_not rfl) ?_
  refine f_nil ?_
  refine f_if (fun h2 => ?_) (fun h2 => ?_)
  · skip
    refine f_know 14 rfl (bool_notT h2) ?_
    refine f_condF rfl ?_
    refine f_skip ?_
    refine f_seq ?_
    refine f_seq ?_
    refine f_region ?_
    refine f_op rfl rfl (s_mv (v := .sl a1) rfl) ?_
    refine f_op rfl rfl (s_lenS rfl Try.underlying72 rfl) ?_
    refine f_op rfl rfl (s_mv (v := .int .i64 a0) rfl) ?_
    refine f_op rfl rfl (s_mul rfl rfl) ?_
    refine f_op rfl rfl (s_sub rfl rfl) ?_
    refine f_op rfl rfl (s_neq rfl rfl) ?_
    refine f_nil ?_
    refine f_if (fun h3 => ?_) (fun h3 => ?_)
    · skip
      refine f_know 20 rfl (dec_true h3) ?_
      refine f_condT rfl ?_
      refine f_seq ?_
      refine f_region ?_
      refine f_op rfl rfl (s_as (v := .bool false) rfl) ?_
      refine f_op rfl rfl (s_as (v := .int .i64 0) rfl) ?_
      refine f_nil ?_
      exact f_ret (.tmp rfl (.tmp rfl (.nil))) rfl
    · skip
      refine f_know 20 rfl (dec_false h3) ?_
      refine f_condF rfl ?_
      refine f_skip ?_
      refine f_seq ?_
      refine f_region ?_
      refine f_op rfl rfl (s_makeMap (.arr 2 .i64) rfl) ?_
      refine f_op rfl rfl (s_as (v := .map p1.2.n) rfl) ?_
      refine o_hp ?_; intro H4 hH4
      refine f_nil ?_
      refine f_seq ?_
      refine f_seq ?_
      refine f_region ?_
      refine f_op rfl rfl (s_mv (v := .sl a1) rfl) ?_
      refine f_op rfl rfl (s_lenS rfl Try.underlying72 rfl) ?_
      refine f_op rfl rfl (s_mv (v := .int .i64 0) rfl) ?_
      refine f_nil ?_
      refine f_block ?_
      refine f_loop ?_
      refine f_keep [0, 6, 22, 23, 24] ?_
      exact s62_l0 happ FUEL a0 p1.2.n a1 (a1.len : Int) 0 H4
  · skip
    refine f_know 14 rfl (bool_notF h2) ?_
    refine f_condT rfl ?_
    refine f_seq ?_
    refine f_region ?_
    refine f_op rfl rfl (s_as (v := .bool false) rfl) ?_
    refine f_op rfl rfl (s_as (v := .int .i64 2) rfl) ?_
    refine f_nil ?_
    exact f_ret (.tmp rfl (.tmp rfl (.nil))) rfl

/- 103 slices.Clone[[][2]int,[2]int] -/
theorem ok103 : FnOk Try.prog 103 := ⟨⟨Try.f103, Try.func103, by kernel_rfl, rfl⟩⟩
theorem sim103 {a0 : Sl} {H : Hp} {p : Sl × Hp} (h : r103 a0 H = some p) : CallSim Try.prog 103 [.sl a0] H (.sl p.1) p.2 := by
  refine callSim (fn := Try.f103) (ret := ret103) Try.func103 rfl Try.ntmps103 rfl ?_ h
  unfold r103
  refine f_seq ?_
  refine f_region ?_
  refine f_op rfl rfl (s_as (v := .sl ⟨true, 0, 0, 0, 0, 0⟩) rfl) ?_
  refine f_nil ?_
  refine f_seq ?_
  refine f_seq ?_
  refine f_region ?_
  refine f_op rfl rfl (s_mv (v := .sl a0) rfl) ?_
  refine f_op rfl rfl (s_eqNil Try.underlying40 rfl rfl) ?_
  refine f_nil ?_
  refine f_if (fun h1 => ?_) (fun h1 => ?_)
  · skip
    refine f_know 4 rfl (bool_T h1) ?_
    refine f_condT rfl ?_
    refine f_seq ?_
    refine f_region ?_
    refine f_op rfl rfl (s_as (v := .sl ⟨true, 0, 0, 0, 0, 0⟩) rfl) ?_
    refine f_nil ?_
    exact f_ret (.tmp rfl (.nil)) rfl
  · skip
    refine f_know 4 rfl (bool_F h1) ?_
    refine f_condF rfl ?_
    refine f_skip ?_
    refine f_seq ?_
    refine f_region ?_
    refine f_op rfl rfl (s_buildSlice0 Try.underlying40 ty43) ?_
    refine f_op rfl rfl (s_mv (v := .sl a0) rfl) ?_
    refine o_bind ?_; intro x2 hx2
    refine o_ck fun g3 => ?_
    refine o_bind ?_; intro x4 hx4
    refine f_op rfl rfl (s_append rfl rfl Try.underlying40 Try.underlying40 ty43 (by decide) rfl (by decide) rfl rfl hx2 g3 hx4) ?_
    refine f_op rfl rfl (s_as (v := .sl x4.1) rfl) ?_
    refine f_nil ?_
    exact f_ret (.tmp rfl (.nil)) rfl

/- 63 congou/congoulaw08.rounds -/
theorem ok63 : FnOk Try.prog 63 := ⟨⟨Try.f63, Try.func63, by kernel_rfl, rfl⟩⟩
theorem s63_l0 : ∀ (k_ : Nat) (v1 : Sl) (v2 : Sl) (v3 : Int) (v4 : Int) (H : Hp), Fin Try.prog Try.f63 ret63 26 (todoAt (bodyOf Try.f63) [1, 1, 0, 1, 0, 0] []) [(3, .sl v1), (6, .sl v2), (7, .int .i64 v3), (8, .int .i64 v4)] H (r63_l0 k_ v1 v2 v3 v4 H) := by
  intro k_
  induction k_ with
  | zero => intro _ _ _ _ _; exact f_none
  | succ k_ ih =>
    intro v1 v2 v3 v4 H
    rw [r63_l0]
    refine f_seq ?_
    refine f_region ?_
    refine f_op rfl rfl (s_lss rfl rfl) ?_
    refine f_nil ?_
    refine f_seq ?_
    refine f_if (fun h1 => ?_) (fun h1 => ?_)
    · skip
      refine f_know 9 rfl (dec_true h1) ?_
      refine f_condT rfl ?_
      refine f_skip ?_
      refine f_seq ?_
      refine f_block ?_
      refine f_seq ?_
      refine f_region ?_
      refine f_op rfl rfl (s_mv (v := .int .i64 v4) rfl) ?_
      refine o_ck fun g2 => ?_
      refine f_op rfl rfl (s_idx Try.underlying72 ty40 rfl rfl g2) ?_
      refine o_bind ?_; intro x3 hx3
      refine f_op rfl rfl (s_load Try.underlying40 rfl rfl (ldSl_eq hx3)) ?_
      refine f_op rfl rfl (s_as (v := .int .i64 v4) rfl) ?_
      refine f_op rfl rfl (s_as (v := .sl x3) rfl) ?_
      refine f_nil ?_
      refine f_seq ?_
      refine f_region ?_
      refine f_op rfl rfl (s_mv (v := .int .i64 v4) rfl) ?_
      refine f_op rfl rfl (s_lss rfl rfl) ?_
      refine f_nil ?_
      refine f_if (fun h4 => ?_) (fun h4 => ?_)
      · skip
        refine f_know 14 rfl (dec_true h4) ?_
        refine f_condT rfl ?_
        refine f_region ?_
        refine f_op rfl rfl (s_mv (v := .sl v1) rfl) ?_
        refine f_op rfl rfl (s_mv (v := .sl x3) rfl) ?_
        refine f_op rfl rfl (s_mv (v := .sl x3) rfl) ?_
        refine f_op rfl rfl (s_lenS rfl Try.underlying40 rfl) ?_
        refine f_op rfl rfl (s_min2 rfl rfl) ?_
        refine o_ck fun g5 => ?_
        refine f_op rfl rfl (s_slice Try.underlying40 ty43 rfl rfl rfl g5.1 g5.2) ?_
        refine o_bind ?_; intro p6 hp6
        refine f_op rfl rfl (s_callF rfl ok103 (sim103 hp6)) ?_
        refine f_op rfl rfl (s_buildSlice (cs := [.sl p6.1]) Try.underlying72 ty40 (by decide) (by decide) rfl (by decide) rfl) ?_
        refine o_bind ?_; intro x7 hx7
        refine f_op rfl rfl (s_ap rfl rfl Try.underlying72 Try.underlying72 ty40 rfl rfl rfl rfl rfl rfl rfl hx7) ?_
        refine f_op rfl rfl (s_as (v := .sl x7.1) rfl) ?_
        refine f_nil ?_
        refine f_inBlock ?_
        refine f_region ?_
        refine f_op rfl rfl (s_add rfl rfl) ?_
        refine f_op rfl rfl (s_mv (v := .int .i64 (w64 (v4 + 1))) rfl) ?_
        refine f_nil ?_
        refine f_inLoop ?_
        refine f_keep [3, 6, 7, 8] ?_
        exact ih x7.1 v2 v3 (w64 (v4 + 1)) x7.2
      · skip
        refine f_know 14 rfl (dec_false h4) ?_
        refine f_condF rfl ?_
        refine f_skip ?_
        refine f_inBlock ?_
        refine f_region ?_
        refine f_op rfl rfl (s_add rfl rfl) ?_
        refine f_op rfl rfl (s_mv (v := .int .i64 (w64 (v4 + 1))) rfl) ?_
        refine f_nil ?_
        refine f_inLoop ?_
        refine f_keep [3, 6, 7, 8] ?_
        exact ih v1 v2 v3 (w64 (v4 + 1)) H
    · skip
      refine f_know 9 rfl (dec_false h1) ?_
      refine f_condF rfl ?_
      refine f_exit rfl ?_
      refine f_seq ?_
      refine f_region ?_
      refine f_op rfl rfl (s_mv (v := .sl v1) rfl) ?_
      refine f_op rfl rfl (s_as (v := .sl v1) rfl) ?_
      refine f_nil ?_
      exact f_ret (.tmp rfl (.nil)) rfl

theorem sim63 {a0 : Sl} {H : Hp} {p : Sl × Hp} (h : r63 a0 H = some p) : CallSim Try.prog 63 [.sl a0] H (.sl p.1) p.2 := by
  refine callSim (fn := Try.f63) (ret := ret63) Try.func63 rfl Try.ntmps63 rfl ?_ h
  unfold r63
  refine f_seq ?_
  refine f_region ?_
  refine f_op rfl rfl (s_as (v := .sl ⟨true, 0, 0, 0, 0, 0⟩) rfl) ?_
  refine f_nil ?_
  refine f_seq ?_
  refine f_region ?_
  refine f_op rfl rfl (s_as (v := .sl ⟨true, 0, 0, 0, 0, 0⟩) rfl) ?_
  refine f_nil ?_
  refine f_seq ?_
  refine f_seq ?_
  refine f_region ?_
  refine f_op rfl rfl (s_mv (v := .sl a0) rfl) ?_
  refine f_op rfl rfl (s_lenS rfl Try.underlying72 rfl) ?_
  refine f_op rfl rfl (s_mv (v := .int .i64 0) rfl) ?_
  refine f_nil ?_
  refine f_block ?_
  refine f_loop ?_
  refine f_keep [3, 6, 7, 8] ?_
  exact s63_l0 FUEL ⟨true, 0, 0, 0, 0, 0⟩ a0 (a0.len : Int) 0 H

end Go.Lt.P8
