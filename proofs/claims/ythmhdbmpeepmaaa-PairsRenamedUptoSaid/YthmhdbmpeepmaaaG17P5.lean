/- PRINTED BY A PROGRAM OF OURS: what each function that 'PairsRenamed' reaches computes on the abstract heap, and that the translated code does just that. Nothing is asked of the input. -/
import Derived.Test.YthmhdbmpeepmaaaG17P4
set_option linter.unusedVariables false
set_option linter.unusedSimpArgs false
set_option maxRecDepth 100000
set_option maxHeartbeats 4000000
namespace Go.Lt.P8
open Go Go.Lt Go.Proofs
/- 50 slices.Compare[[]int,int] -/
theorem ok50 : FnOk Try.prog 50 := ⟨⟨Try.f50, Try.func50, by kernel_rfl, rfl⟩⟩
theorem s50_l0 : ∀ (k_ : Nat) (v1 : Sl) (v2 : Sl) (v3 : Sl) (v4 : Int) (v5 : Int) (H : Hp), Fin Try.prog Try.f50 ret50 36 (todoAt (bodyOf Try.f50) [1, 0, 1, 0, 0] []) [(0, .sl v1), (1, .sl v2), (9, .sl v3), (10, .int .i64 v4), (11, .int .i64 v5)] H (r50_l0 k_ v1 v2 v3 v4 v5 H) := by
  intro k_
  induction k_ with
  | zero => intro _ _ _ _ _ _; exact f_none
  | succ k_ ih =>
    intro v1 v2 v3 v4 v5 H
    rw [r50_l0]
    refine f_seq ?_
    refine f_region ?_
    refine f_op rfl rfl (s_lss rfl rfl) ?_
    refine f_nil ?_
    refine f_seq ?_
    refine f_if (fun h1 => ?_) (fun h1 => ?_)
    · skip
      refine f_know 12 rfl (dec_true h1) ?_
      refine f_condT rfl ?_
      refine f_skip ?_
      refine f_seq ?_
      refine f_block ?_
      refine f_seq ?_
      refine f_region ?_
      refine f_op rfl rfl (s_mv (v := .int .i64 v5) rfl) ?_
      refine o_ck fun g2 => ?_
      refine f_op rfl rfl (s_idx Try.underlying22 ty3 rfl rfl g2) ?_
      refine o_bind ?_; intro x3 hx3
      refine f_op rfl rfl (s_load Try.underlying3 rfl rfl (ldI_eq hx3)) ?_
      refine f_op rfl rfl (s_as (v := .int .i64 v5) rfl) ?_
      refine f_op rfl rfl (s_as (v := .int .i64 x3) rfl) ?_
      refine f_nil ?_
      refine f_seq ?_
      refine f_seq ?_
      refine f_region ?_
      refine f_op rfl rfl (s_mv (v := .int .i64 v5) rfl) ?_
      refine f_op rfl rfl (s_mv (v := .sl v2) rfl) ?_
      refine f_op rfl rfl (s_lenS rfl Try.underlying22 rfl) ?_
      refine f_op rfl rfl (s_geq rfl rfl) ?_
      refine f_nil ?_
      refine f_if (fun h4 => ?_) (fun h4 => ?_)
      · skip
        refine f_know 19 rfl (dec_true h4) ?_
        refine f_condT rfl ?_
        refine f_seq ?_
        refine f_region ?_
        refine f_op rfl rfl (s_as (v := .int .i64 1) rfl) ?_
        refine f_nil ?_
        exact f_ret (.tmp rfl (.nil)) rfl
      · skip
        refine f_know 19 rfl (dec_false h4) ?_
        refine f_condF rfl ?_
        refine f_skip ?_
        refine f_seq ?_
        refine f_region ?_
        refine f_op rfl rfl (s_mv (v := .sl v2) rfl) ?_
        refine f_op rfl rfl (s_mv (v := .int .i64 v5) rfl) ?_
        refine o_ck fun g5 => ?_
        refine f_op rfl rfl (s_idx Try.underlying22 ty3 rfl rfl g5) ?_
        refine o_bind ?_; intro x6 hx6
        refine f_op rfl rfl (s_load Try.underlying3 rfl rfl (ldI_eq hx6)) ?_
        refine f_op rfl rfl (s_as (v := .int .i64 x6) rfl) ?_
        refine f_nil ?_
        refine f_seq ?_
        refine f_region ?_
        refine f_op rfl rfl (s_mv (v := .int .i64 x3) rfl) ?_
        refine f_op rfl rfl (s_mv (v := .int .i64 x6) rfl) ?_
        refine o_bind ?_; intro p7 hp7
        refine f_op rfl rfl (s_callF rfl ok87 (sim87 hp7)) ?_
        refine f_op rfl rfl (s_as (v := .int .i64 p7.1) rfl) ?_
        refine f_nil ?_
        refine f_seq ?_
        refine f_region ?_
        refine f_op rfl rfl (s_mv (v := .int .i64 p7.1) rfl) ?_
        refine f_op rfl rfl (s_neq rfl rfl) ?_
        refine f_nil ?_
        refine f_if (fun h8 => ?_) (fun h8 => ?_)
        · skip
          refine f_know 28 rfl (dec_true h8) ?_
          refine f_condT rfl ?_
          refine f_seq ?_
          refine f_region ?_
          refine f_op rfl rfl (s_mv (v := .int .i64 p7.1) rfl) ?_
          refine f_op rfl rfl (s_as (v := .int .i64 p7.1) rfl) ?_
          refine f_nil ?_
          exact f_ret (.tmp rfl (.nil)) rfl
        · skip
          refine f_know 28 rfl (dec_false h8) ?_
          refine f_condF rfl ?_
          refine f_skip ?_
          refine f_inBlock ?_
          refine f_region ?_
          refine f_op rfl rfl (s_add rfl rfl) ?_
          refine f_op rfl rfl (s_mv (v := .int .i64 (w64 (v5 + 1))) rfl) ?_
          refine f_nil ?_
          refine f_inLoop ?_
          refine f_keep [0, 1, 9, 10, 11] ?_
          exact ih v1 v2 v3 v4 (w64 (v5 + 1)) p7.2
    · skip
      refine f_know 12 rfl (dec_false h1) ?_
      refine f_condF rfl ?_
      refine f_exit rfl ?_
      refine f_seq ?_
      refine f_seq ?_
      refine f_region ?_
      refine f_op rfl rfl (s_mv (v := .sl v1) rfl) ?_
      refine f_op rfl rfl (s_lenS rfl Try.underlying22 rfl) ?_
      refine f_op rfl rfl (s_mv (v := .sl v2) rfl) ?_
      refine f_op rfl rfl (s_lenS rfl Try.underlying22 rfl) ?_
      refine f_op rfl rfl (s_lss rfl rfl) ?_
      refine f_nil ?_
      refine f_if (fun h9 => ?_) (fun h9 => ?_)
      · skip
        refine f_know 35 rfl (dec_true h9) ?_
        refine f_condT rfl ?_
        refine f_seq ?_
        refine f_region ?_
        refine f_op rfl rfl (s_as (v := .int .i64 (-1)) rfl) ?_
        refine f_nil ?_
        exact f_ret (.tmp rfl (.nil)) rfl
      · skip
        refine f_know 35 rfl (dec_false h9) ?_
        refine f_condF rfl ?_
        refine f_skip ?_
        refine f_seq ?_
        refine f_region ?_
        refine f_op rfl rfl (s_as (v := .int .i64 0) rfl) ?_
        refine f_nil ?_
        exact f_ret (.tmp rfl (.nil)) rfl

theorem sim50 {a0 : Sl} {a1 : Sl} {H : Hp} {p : Int × Hp} (h : r50 a0 a1 H = some p) : CallSim Try.prog 50 [.sl a0, .sl a1] H (.int .i64 p.1) p.2 := by
  refine callSim (fn := Try.f50) (ret := ret50) Try.func50 rfl Try.ntmps50 rfl ?_ h
  unfold r50
  refine f_seq ?_
  refine f_region ?_
  refine f_op rfl rfl (s_as (v := .int .i64 0) rfl) ?_
  refine f_nil ?_
  refine f_seq ?_
  refine f_seq ?_
  refine f_region ?_
  refine f_op rfl rfl (s_mv (v := .sl a0) rfl) ?_
  refine f_op rfl rfl (s_lenS rfl Try.underlying22 rfl) ?_
  refine f_op rfl rfl (s_mv (v := .int .i64 0) rfl) ?_
  refine f_nil ?_
  refine f_block ?_
  refine f_loop ?_
  refine f_keep [0, 1, 9, 10, 11] ?_
  exact s50_l0 FUEL a0 a1 a0 (a0.len : Int) 0 H

/- 67 congou/congoulaw08.PairsRenamed$1 -/
theorem ok67 : FnOk Try.prog 67 := ⟨⟨Try.f67, Try.func67, by kernel_rfl, rfl⟩⟩
theorem sim67 {a0_0 : Int} {a0_1 : Int} {a1_0 : Int} {a1_1 : Int} {H : Hp} {p : Int × Hp} (h : r67 a0_0 a0_1 a1_0 a1_1 H = some p) : CallSim Try.prog 67 [.agg [.int .i64 a0_0, .int .i64 a0_1], .agg [.int .i64 a1_0, .int .i64 a1_1]] H (.int .i64 p.1) p.2 := by
  refine callSim (fn := Try.f67) (ret := ret67) Try.func67 rfl Try.ntmps67 rfl ?_ h
  unfold r67
  refine f_seq ?_
  refine f_region ?_
  refine f_op rfl rfl (s_box (v := .agg [.int .i64 a0_0, .int .i64 a0_1]) rfl rfl) ?_
  refine f_op rfl rfl (s_box (v := .agg [.int .i64 a1_0, .int .i64 a1_1]) rfl rfl) ?_
  refine f_op rfl rfl (s_as (v := .int .i64 0) rfl) ?_
  refine o_hp ?_; intro H1 hH1
  refine f_nil ?_
  refine f_seq ?_
  refine f_bind ?_; intro p2 hp2
  refine f_draw (Φ := fun _ => True) [0, 0, 2, 0] (Trc.pure rfl rfl rfl (fun _ _ => s_sliceA Try.underlying43 ty3 rfl rfl rfl (by decide)) (Trc.pure rfl rfl rfl (fun _ _ => s_sliceA Try.underlying43 ty3 rfl rfl rfl (by decide)) (Trc.eff rfl rfl rfl (trivial) (s_callF rfl ok50 (sim50 hp2)) (Trc.pure rfl rfl rfl (fun _ _ => s_as (v := .int .i64 p2.1) rfl) (Trc.nil (trivial)))))) rfl (by decide +kernel) mixed ?_
  exact f_ret (.tmp rfl (.nil)) rfl

/- 17 congou/congoulaw08.PairsRenamed -/
theorem ok17 : FnOk Try.prog 17 := ⟨⟨Try.f17, Try.func17, by kernel_rfl, rfl⟩⟩
theorem s17_l3 {app : App} (happ : AppSim Try.prog app) (kt1 : Int → Sl → Sl → Sl → Int → Int → Hp → Option (Bool × Hp)) (hkt1 : ∀ (v1 : Int) (v2 : Sl) (v3 : Sl) (v4 : Sl) (v5 : Int) (v6 : Int) (H : Hp), Fin Try.prog Try.f17 ret17 115 (todoAt (bodyOf Try.f17) [1, 1, 1, 1, 1, 0, 1, 0, 0] []) [(0, .int .i64 v1), (2, .sl v2), (9, .sl v3), (64, .sl v4), (65, .int .i64 v5), (66, .int .i64 v6)] H (kt1 v1 v2 v3 v4 v5 v6 H)) : ∀ (k_ : Nat) (v1 : Int) (v2 : Sl) (v3 : Sl) (v4 : Sl) (v5 : Sl) (v6 : Int) (v7 : Int) (v8 : Sl) (v9 : Int) (v10 : Int) (H : Hp), Fin Try.prog Try.f17 ret17 115 (todoAt (bodyOf Try.f17) [1, 1, 1, 1, 1, 0, 1, 0, 0, 1, 1, 0, 0, 1, 0, 1, 0, 0] []) [(0, .int .i64 v1), (2, .sl v2), (9, .sl v3), (11, .sl v4), (64, .sl v5), (65, .int .i64 v6), (66, .int .i64 v7), (70, .sl v8), (71, .int .i64 v9), (72, .int .i64 v10)] H (r17_l3 app kt1 k_ v1 v2 v3 v4 v5 v6 v7 v8 v9 v10 H) := by
  intro k_
  induction k_ with
  | zero => intro _ _ _ _ _ _ _ _ _ _ _; exact f_none
  | succ k_ ih =>
    intro v1 v2 v3 v4 v5 v6 v7 v8 v9 v10 H
    rw [r17_l3]
    refine f_seq ?_
    refine f_region ?_
    refine f_op rfl rfl (s_lss rfl rfl) ?_
    refine f_nil ?_
    refine f_seq ?_
    refine f_if (fun h1 => ?_) (fun h1 => ?_)
    · skip
      refine f_know 73 rfl (dec_true h1) ?_
      refine f_condT rfl ?_
      refine f_skip ?_
      refine f_seq ?_
      refine f_block ?_
      refine f_seq ?_
      refine f_region ?_
      refine f_op rfl rfl (s_mv (v := .int .i64 v10) rfl) ?_
      refine o_ck fun g2 => ?_
      refine f_op rfl rfl (s_idx Try.underlying40 ty43 rfl rfl g2) ?_
      refine o_bind ?_; intro x3 hx3
      refine o_bind ?_; intro x4 hx4
      refine f_op rfl rfl (s_loads Try.underlying43 rfl ty43 rfl (lds_cons (ldI_eq hx3) (lds_cons (ldI_eq hx4) (lds_nil)))) ?_
      refine f_op rfl rfl (s_alloc (zs := [.int .i64 0, .int .i64 0]) ty43 rfl rfl) ?_
      refine f_op rfl rfl (s_as (v := .int .i64 v10) rfl) ?_
      refine o_bind ?_; intro H5 hH5
      refine f_op rfl rfl (s_stores ty43 rfl rfl rfl rfl hH5 (Nat.le_of_eq (sts_mono hH5).symm)) ?_
      refine f_nil ?_
      refine f_seq ?_
      refine f_bind ?_; intro x6 hx6
      refine f_ck fun g7 => ?_
      refine f_bind ?_; intro x8 hx8
      refine f_bind ?_; intro x9 hx9
      refine f_ck fun g10 => ?_
      refine f_bind ?_; intro x11 hx11
      refine f_draw (Φ := fun _ => True) [0, 0, 1, 0, 1, 0, 0, 1, 0, 1, 0, 0] (Trc.pure rfl rfl rfl (fun _ _ => s_mv (v := .sl v2) rfl) (Trc.pure rfl rfl rfl (fun _ _ => s_idxA Try.underlying43 ty3 rfl rfl (by decide)) (Trc.read rfl rfl rfl (s_load Try.underlying3 rfl rfl (ldI_eq hx6)) (Trc.pure rfl rfl rfl (fun _ _ => s_idx Try.underlying22 ty3 rfl rfl g7) (Trc.read rfl rfl rfl (s_load Try.underlying3 rfl rfl (ldI_eq hx8)) (Trc.pure rfl rfl rfl (fun _ _ => s_mv (v := .sl v2) rfl) (Trc.pure rfl rfl rfl (fun _ _ => s_idxA Try.underlying43 ty3 rfl rfl (by decide)) (Trc.read rfl rfl rfl (s_load Try.underlying3 rfl rfl (ldI_eq hx9)) (Trc.pure rfl rfl rfl (fun _ _ => s_idx Try.underlying22 ty3 rfl rfl g10) (Trc.read rfl rfl rfl (s_load Try.underlying3 rfl rfl (ldI_eq hx11)) (Trc.pure rfl rfl rfl (fun _ _ => s_as (v := .int .i64 x8) rfl) (Trc.pure rfl rfl rfl (fun _ _ => s_as (v := .int .i64 x11) rfl) (Trc.nil (trivial)))))))))))))) rfl (by decide +kernel) mixed ?_
      refine f_region ?_
      refine f_op rfl rfl (s_mv (v := .sl v4) rfl) ?_
      refine f_op rfl rfl (s_mv (v := .int .i64 v10) rfl) ?_
      refine f_op rfl rfl (s_mv (v := .int .i64 x8) rfl) ?_
      refine f_op rfl rfl (s_mv (v := .int .i64 x11) rfl) ?_
      refine f_op rfl rfl (s_min2 rfl rfl) ?_
      refine f_op rfl rfl (s_mv (v := .int .i64 x8) rfl) ?_
      refine f_op rfl rfl (s_mv (v := .int .i64 x11) rfl) ?_
      refine f_op rfl rfl (s_max2 rfl rfl) ?_
      refine f_op rfl rfl (s_buildA (cs := [.int .i64 (if x11 < x8 then x11 else x8), .int .i64 (if x8 < x11 then x11 else x8)]) Try.underlying43 ty43 ty3 rfl rfl) ?_
      refine o_ck fun g12 => ?_
      refine f_op rfl rfl (s_idx Try.underlying40 ty43 rfl rfl g12) ?_
      refine o_bind ?_; intro H13 hH13
      refine f_op rfl rfl (s_stores ty43 rfl rfl rfl rfl hH13 (Nat.le_of_eq (sts_mono hH13).symm)) ?_
      refine f_nil ?_
      refine f_inBlock ?_
      refine f_region ?_
      refine f_op rfl rfl (s_add rfl rfl) ?_
      refine f_op rfl rfl (s_mv (v := .int .i64 (w64 (v10 + 1))) rfl) ?_
      refine f_nil ?_
      refine f_inLoop ?_
      refine f_keep [0, 2, 9, 11, 64, 65, 66, 70, 71, 72] ?_
      exact ih v1 v2 v3 v4 v5 v6 v7 v8 v9 (w64 (v10 + 1)) H13
    · skip
      refine f_know 73 rfl (dec_false h1) ?_
      refine f_condF rfl ?_
      refine f_exit rfl ?_
      refine f_region ?_
      refine f_op rfl rfl (s_mv (v := .sl v4) rfl) ?_
      refine o_bind ?_; intro p14 hp14
      refine f_op rfl rfl (s_callF rfl ok66 (sim66 happ hp14)) ?_
      refine f_nil ?_
      refine f_inBlock ?_
      refine f_region ?_
      refine f_op rfl rfl (s_add rfl rfl) ?_
      refine f_op rfl rfl (s_mv (v := .int .i64 (w64 (v7 + 1))) rfl) ?_
      refine f_nil ?_
      refine f_inLoop ?_
      refine f_keep [0, 2, 9, 64, 65, 66] ?_
      exact hkt1 v1 v2 v3 v5 v6 (w64 (v7 + 1)) p14.2

theorem s17_l1 {app : App} (happ : AppSim Try.prog app) : ∀ (k_ : Nat) (v1 : Int) (v2 : Sl) (v3 : Sl) (v4 : Sl) (v5 : Int) (v6 : Int) (H : Hp), Fin Try.prog Try.f17 ret17 115 (todoAt (bodyOf Try.f17) [1, 1, 1, 1, 1, 0, 1, 0, 0] []) [(0, .int .i64 v1), (2, .sl v2), (9, .sl v3), (64, .sl v4), (65, .int .i64 v5), (66, .int .i64 v6)] H (r17_l1 app k_ v1 v2 v3 v4 v5 v6 H) := by
  intro k_
  induction k_ with
  | zero => intro _ _ _ _ _ _ _; exact f_none
  | succ k_ ih =>
    intro v1 v2 v3 v4 v5 v6 H
    rw [r17_l1]
    refine f_seq ?_
    refine f_region ?_
    refine f_op rfl rfl (s_lss rfl rfl) ?_
    refine f_nil ?_
    refine f_seq ?_
    refine f_if (fun h1 => ?_) (fun h1 => ?_)
    · skip
      refine f_know 67 rfl (dec_true h1) ?_
      refine f_condT rfl ?_
      refine f_skip ?_
      refine f_seq ?_
      refine f_block ?_
      refine f_seq ?_
      refine f_region ?_
      refine o_ck fun g2 => ?_
      refine f_op rfl rfl (s_idx Try.underlying72 ty40 rfl rfl g2) ?_
      refine o_bind ?_; intro x3 hx3
      refine f_op rfl rfl (s_load Try.underlying40 rfl rfl (ldSl_eq hx3)) ?_
      refine f_op rfl rfl (s_as (v := .sl x3) rfl) ?_
      refine f_nil ?_
      refine f_seq ?_
      refine f_seq ?_
      refine f_region ?_
      refine f_op rfl rfl (s_mv (v := .sl x3) rfl) ?_
      refine f_op rfl rfl (s_lenS rfl Try.underlying40 rfl) ?_
      refine f_op rfl rfl (s_mv (v := .int .i64 0) rfl) ?_
      refine f_nil ?_
      refine f_block ?_
      refine f_loop ?_
      refine f_keep [0, 2, 9, 11, 64, 65, 66, 70, 71, 72] ?_
      exact s17_l3 happ _ (fun v1_ v2_ v3_ v4_ v5_ v6_ H_ => ih v1_ v2_ v3_ v4_ v5_ v6_ H_) FUEL v1 v2 v3 x3 v4 v5 v6 x3 (x3.len : Int) 0 H
    · skip
      refine f_know 67 rfl (dec_false h1) ?_
      refine f_condF rfl ?_
      refine f_exit rfl ?_
      refine f_seq ?_
      refine f_region ?_
      refine f_op rfl rfl (s_mv (v := .int .i64 v1) rfl) ?_
      refine f_op rfl rfl (s_mv (v := .sl v3) rfl) ?_
      refine o_bind ?_; intro p4 hp4
      refine f_op rfl rfl (s_callF rfl ok62 (sim62 happ hp4)) ?_
      refine f_op rfl rfl (s_mv (v := .tup [.bool p4.1.1, .int .i64 p4.1.2]) rfl) ?_
      refine f_op rfl rfl (s_extract (r := .bool p4.1.1) rfl rfl) ?_
      refine f_op rfl rfl (s_extract (r := .int .i64 p4.1.2) rfl rfl) ?_
      refine f_op rfl rfl (s_as (v := .bool p4.1.1) rfl) ?_
      refine f_op rfl rfl (s_as (v := .int .i64 p4.1.2) rfl) ?_
      refine f_nil ?_
      refine f_seq ?_
      refine f_region ?_
      refine f_op rfl rfl (s_mv (v := .bool p4.1.1) rfl) ?_
      refine f_op rfl rfl (s_mv (v := .bool p4.1.1) rfl) ?_
      refine o_if (fun h5 => ?_) (fun h5 => ?_)
      · skip
        refine o_know 108 rfl (bool_T h5) ?_
        refine f_op rfl rfl (s_mv (v := .int .i64 p4.1.2) rfl) ?_
        refine f_op rfl rfl (s_eql rfl rfl) ?_
        refine f_op rfl rfl (s_pickT (v := .bool (decide (p4.1.2 = 0))) rfl rfl) ?_
        refine f_op rfl rfl (s_mv (v := .bool (decide (p4.1.2 = 0))) rfl) ?_
        refine o_if (fun h6 => ?_) (fun h6 => ?_)
        · skip
          refine o_know 112 rfl (dec_true h6) ?_
          refine o_bind ?_; intro p7 hp7
          refine f_op rfl rfl (s_callF rfl ok23 (sim23 happ hp7)) ?_
          refine f_op rfl rfl (s_pickT (v := .bool p7.1) rfl rfl) ?_
          refine f_op rfl rfl (s_as (v := .bool p7.1) rfl) ?_
          refine f_nil ?_
          exact f_ret (.tmp rfl (.nil)) rfl
        · skip
          refine o_know 112 rfl (dec_false h6) ?_
          refine f_no rfl rfl ?_
          refine f_op rfl rfl (s_pickF (v := .bool false) rfl rfl) ?_
          refine f_op rfl rfl (s_as (v := .bool false) rfl) ?_
          refine f_nil ?_
          exact f_ret (.tmp rfl (.nil)) rfl
      · skip
        refine o_know 108 rfl (bool_F h5) ?_
        refine f_no rfl rfl ?_
        refine f_no rfl rfl ?_
        refine f_op rfl rfl (s_pickF (v := .bool false) rfl rfl) ?_
        refine f_op rfl rfl (s_mv (v := .bool false) rfl) ?_
        refine f_no rfl rfl ?_
        refine f_op rfl rfl (s_pickF (v := .bool false) rfl rfl) ?_
        refine f_op rfl rfl (s_as (v := .bool false) rfl) ?_
        refine f_nil ?_
        exact f_ret (.tmp rfl (.nil)) rfl

theorem s17_j2 {app : App} (happ : AppSim Try.prog app) (v1 : Int) (v2 : Sl) (v3 : Sl) (v4 : Bool) (v5 : Bool) (H : Hp) : Fin Try.prog Try.f17 ret17 115 (todoAt (bodyOf Try.f17) [1, 1, 1, 0, 1] []) [(0, .int .i64 v1), (1, .sl v2), (2, .sl v3), (7, .bool v4), (53, .bool v5)] H (r17_j2 app v1 v2 v3 v4 v5 H) := by
  unfold r17_j2
  refine f_if (fun h1 => ?_) (fun h1 => ?_)
  · skip
    refine f_know 53 rfl (bool_T h1) ?_
    refine f_condT rfl ?_
    refine f_seq ?_
    refine f_region ?_
    refine f_op rfl rfl (s_mv (v := .bool v4) rfl) ?_
    refine f_op rfl rfl (s_mv (v := .int .i64 v1) rfl) ?_
    refine f_op rfl rfl (s_mv (v := .sl v2) rfl) ?_
    refine o_bind ?_; intro p2 hp2
    refine f_op rfl rfl (s_callF rfl ok64 (sim64 hp2)) ?_
    refine f_op rfl rfl (s_eqB Try.underlying4 rfl rfl) ?_
    refine f_op rfl rfl (s_mv (v := .bool (v4 == p2.1)) rfl) ?_
    refine o_if (fun h3 => ?_) (fun h3 => ?_)
    · skip
      refine o_know 59 rfl (bool_T h3) ?_
      refine o_bind ?_; intro p4 hp4
      refine f_op rfl rfl (s_callF rfl ok23 (sim23 happ hp4)) ?_
      refine f_op rfl rfl (s_pickT (v := .bool p4.1) rfl rfl) ?_
      refine f_op rfl rfl (s_as (v := .bool p4.1) rfl) ?_
      refine f_nil ?_
      exact f_ret (.tmp rfl (.nil)) rfl
    · skip
      refine o_know 59 rfl (bool_F h3) ?_
      refine f_no rfl rfl ?_
      refine f_op rfl rfl (s_pickF (v := .bool false) rfl rfl) ?_
      refine f_op rfl rfl (s_as (v := .bool false) rfl) ?_
      refine f_nil ?_
      exact f_ret (.tmp rfl (.nil)) rfl
  · skip
    refine f_know 53 rfl (bool_F h1) ?_
    refine f_condF rfl ?_
    refine f_skip ?_
    refine f_seq ?_
    refine f_region ?_
    refine f_op rfl rfl (s_mv (v := .sl v2) rfl) ?_
    refine o_bind ?_; intro p5 hp5
    refine f_op rfl rfl (s_callF rfl ok63 (sim63 hp5)) ?_
    refine f_op rfl rfl (s_as (v := .sl p5.1) rfl) ?_
    refine f_nil ?_
    refine f_seq ?_
    refine f_seq ?_
    refine f_region ?_
    refine f_op rfl rfl (s_mv (v := .sl p5.1) rfl) ?_
    refine f_op rfl rfl (s_lenS rfl Try.underlying72 rfl) ?_
    refine f_op rfl rfl (s_mv (v := .int .i64 0) rfl) ?_
    refine f_nil ?_
    refine f_block ?_
    refine f_loop ?_
    refine f_keep [0, 2, 9, 64, 65, 66] ?_
    exact s17_l1 happ FUEL v1 v3 p5.1 p5.1 (p5.1.len : Int) 0 p5.2

theorem s17_j0 {app : App} (happ : AppSim Try.prog app) (v1 : Int) (v2 : Sl) (v3 : Sl) (v4 : Bool) (v5 : Int) (v6 : Bool) (H : Hp) : Fin Try.prog Try.f17 ret17 115 (todoAt (bodyOf Try.f17) [1, 1, 0, 1] []) [(0, .int .i64 v1), (1, .sl v2), (2, .sl v3), (7, .bool v4), (8, .int .i64 v5), (33, .bool v6)] H (r17_j0 app v1 v2 v3 v4 v5 v6 H) := by
  unfold r17_j0
  refine f_if (fun h1 => ?_) (fun h1 => ?_)
  · skip
    refine f_know 33 rfl (bool_T h1) ?_
    refine f_condT rfl ?_
    refine f_seq ?_
    refine f_region ?_
    refine f_op rfl rfl (s_mv (v := .int .i64 v5) rfl) ?_
    refine f_op rfl rfl (s_eql rfl rfl) ?_
    refine f_op rfl rfl (s_mv (v := .bool (decide (v5 = 2))) rfl) ?_
    refine o_if (fun h2 => ?_) (fun h2 => ?_)
    · skip
      refine o_know 36 rfl (dec_true h2) ?_
      refine o_bind ?_; intro p3 hp3
      refine f_op rfl rfl (s_callF rfl ok23 (sim23 happ hp3)) ?_
      refine f_op rfl rfl (s_pickT (v := .bool p3.1) rfl rfl) ?_
      refine f_op rfl rfl (s_as (v := .bool p3.1) rfl) ?_
      refine f_nil ?_
      exact f_ret (.tmp rfl (.nil)) rfl
    · skip
      refine o_know 36 rfl (dec_false h2) ?_
      refine f_no rfl rfl ?_
      refine f_op rfl rfl (s_pickF (v := .bool false) rfl rfl) ?_
      refine f_op rfl rfl (s_as (v := .bool false) rfl) ?_
      refine f_nil ?_
      exact f_ret (.tmp rfl (.nil)) rfl
  · skip
    refine f_know 33 rfl (bool_F h1) ?_
    refine f_condF rfl ?_
    refine f_skip ?_
    refine f_seq ?_
    refine f_seq ?_
    refine f_region ?_
    refine f_op rfl rfl (s_mv (v := .bool v4) rfl) ?_
    refine f_op rfl rfl (s_not rfl) ?_
    refine f_op rfl rfl (s_mv (v := .bool (!v4)) rfl) ?_
    refine o_if (fun h4 => ?_) (fun h4 => ?_)
    · skip
      refine o_know 41 rfl (bool_notT h4) ?_
      refine f_op rfl rfl (s_mv (v := .int .i64 v1) rfl) ?_
      refine f_op rfl rfl (s_mv (v := .sl v2) rfl) ?_
      refine o_bind ?_; intro p5 hp5
      refine f_op rfl rfl (s_callF rfl ok64 (sim64 hp5)) ?_
      refine f_op rfl rfl (s_not rfl) ?_
      refine f_op rfl rfl (s_pickF (v := .bool (!p5.1)) rfl rfl) ?_
      refine f_op rfl rfl (s_mv (v := .bool (!p5.1)) rfl) ?_
      refine o_if (fun h6 => ?_) (fun h6 => ?_)
      · skip
        refine o_know 47 rfl (bool_notT h6) ?_
        refine f_op rfl rfl (s_mv (v := .sl v3) rfl) ?_
        refine f_op rfl rfl (s_mv (v := .int .i64 v1) rfl) ?_
        refine f_op rfl rfl (s_mul rfl rfl) ?_
        refine o_bind ?_; intro p7 hp7
        refine f_op rfl rfl (s_callF rfl ok65 (sim65 hp7)) ?_
        refine f_op rfl rfl (s_not rfl) ?_
        refine f_op rfl rfl (s_pickF (v := .bool (!p7.1)) rfl rfl) ?_
        refine f_nil ?_
        refine f_know 7 rfl (bool_T h4) ?_
        refine f_keep [0, 1, 2, 7, 53] ?_
        exact s17_j2 happ v1 v2 v3 true (!p7.1) p7.2
      · skip
        refine o_know 47 rfl (bool_notF h6) ?_
        refine f_no rfl rfl ?_
        refine f_no rfl rfl ?_
        refine f_no rfl rfl ?_
        refine f_no rfl rfl ?_
        refine f_no rfl rfl ?_
        refine f_op rfl rfl (s_pickT (v := .bool true) rfl rfl) ?_
        refine f_nil ?_
        refine f_know 7 rfl (bool_T h4) ?_
        refine f_keep [0, 1, 2, 7, 53] ?_
        exact s17_j2 happ v1 v2 v3 true true p5.2
    · skip
      refine o_know 41 rfl (bool_notF h4) ?_
      refine f_no rfl rfl ?_
      refine f_no rfl rfl ?_
      refine f_no rfl rfl ?_
      refine f_no rfl rfl ?_
      refine f_op rfl rfl (s_pickT (v := .bool true) rfl rfl) ?_
      refine f_op rfl rfl (s_mv (v := .bool true) rfl) ?_
      refine f_no rfl rfl ?_
      refine f_no rfl rfl ?_
      refine f_no rfl rfl ?_
      refine f_no rfl rfl ?_
      refine f_no rfl rfl ?_
      refine f_op rfl rfl (s_pickT (v := .bool true) rfl rfl) ?_
      refine f_nil ?_
      refine f_know 7 rfl (bool_F h4) ?_
      refine f_keep [0, 1, 2, 7, 53] ?_
      exact s17_j2 happ v1 v2 v3 false true H

theorem sim17 {app : App} (happ : AppSim Try.prog app) {a0 : Int} {a1 : Sl} {a2 : Sl} {H : Hp} {p : Bool × Hp} (h : r17 app a0 a1 a2 H = some p) : CallSim Try.prog 17 [.int .i64 a0, .sl a1, .sl a2] H (.bool p.1) p.2 := by
  refine callSim (fn := Try.f17) (ret := ret17) Try.func17 rfl Try.ntmps17 rfl ?_ h
  unfold r17
  refine f_seq ?_
  refine f_region ?_
  refine f_op rfl rfl (s_as (v := .bool false) rfl) ?_
  refine f_nil ?_
  refine f_seq ?_
  refine f_region ?_
  refine f_op rfl rfl (s_mv (v := .int .i64 a0) rfl) ?_
  refine f_op rfl rfl (s_mv (v := .sl a1) rfl) ?_
  refine o_bind ?_; intro p1 hp1
  refine f_op rfl rfl (s_callF rfl ok63 (sim63 hp1)) ?_
  refine o_bind ?_; intro p2 hp2
  refine f_op rfl rfl (s_callF rfl ok62 (sim62 happ hp2)) ?_
  refine f_op rfl rfl (s_mv (v := .tup [.bool p2.1.1, .int .i64 p2.1.2]) rfl) ?_
  refine f_op rfl rfl (s_extract (r := .bool p2.1.1) rfl rfl) ?_
  refine f_op rfl rfl (s_extract (r := .int .i64 p2.1.2) rfl rfl) ?_
  refine f_op rfl rfl (s_as (v := .bool p2.1.1) rfl) ?_
  refine f_op rfl rfl (s_as (v := .int .i64 p2.1.2) rfl) ?_
  refine f_nil ?_
  refine f_seq ?_
  refine f_seq ?_
  refine f_region ?_
  refine f_op rfl rfl (s_mv (v := .int .i64 p2.1.2) rfl) ?_
  refine f_op rfl rfl (s_neq rfl rfl) ?_
  refine f_op rfl rfl (s_mv (v := .bool (decide (p2.1.2 ≠ 0))) rfl) ?_
  refine o_if (fun h3 => ?_) (fun h3 => ?_)
  · skip
    refine o_know 26 rfl (dec_true h3) ?_
    refine f_no rfl rfl ?_
    refine f_no rfl rfl ?_
    refine f_op rfl rfl (s_pickT (v := .bool true) rfl rfl) ?_
    refine f_op rfl rfl (s_mv (v := .bool true) rfl) ?_
    refine f_no rfl rfl ?_
    refine f_no rfl rfl ?_
    refine f_op rfl rfl (s_pickT (v := .bool true) rfl rfl) ?_
    refine f_nil ?_
    refine f_keep [0, 1, 2, 7, 8, 33] ?_
    exact s17_j0 happ a0 a1 a2 p2.1.1 p2.1.2 true p2.2
  · skip
    refine o_know 26 rfl (dec_false h3) ?_
    refine f_op rfl rfl (s_mv (v := .int .i64 a0) rfl) ?_
    refine f_op rfl rfl (s_lss rfl rfl) ?_
    refine f_op rfl rfl (s_pickF (v := .bool (decide (a0 < 1))) rfl rfl) ?_
    refine f_op rfl rfl (s_mv (v := .bool (decide (a0 < 1))) rfl) ?_
    refine o_if (fun h4 => ?_) (fun h4 => ?_)
    · skip
      refine o_know 30 rfl (dec_true h4) ?_
      refine f_no rfl rfl ?_
      refine f_no rfl rfl ?_
      refine f_op rfl rfl (s_pickT (v := .bool true) rfl rfl) ?_
      refine f_nil ?_
      refine f_keep [0, 1, 2, 7, 8, 33] ?_
      exact s17_j0 happ a0 a1 a2 p2.1.1 p2.1.2 true p2.2
    · skip
      refine o_know 30 rfl (dec_false h4) ?_
      refine f_op rfl rfl (s_mv (v := .int .i64 a0) rfl) ?_
      refine f_op rfl rfl (s_gtr rfl rfl) ?_
      refine f_op rfl rfl (s_pickF (v := .bool (decide (4 < a0))) rfl rfl) ?_
      refine f_nil ?_
      refine f_keep [0, 1, 2, 7, 8, 33] ?_
      exact s17_j0 happ a0 a1 a2 p2.1.1 p2.1.2 (decide (4 < a0)) p2.2

/- 36 slices.Clone[[]int,int] -/
theorem ok36 : FnOk Try.prog 36 := ⟨⟨Try.f36, Try.func36, by kernel_rfl, rfl⟩⟩
theorem sim36 {a0 : Sl} {H : Hp} {p : Sl × Hp} (h : r36 a0 H = some p) : CallSim Try.prog 36 [.sl a0] H (.sl p.1) p.2 := by
  refine callSim (fn := Try.f36) (ret := ret36) Try.func36 rfl Try.ntmps36 rfl ?_ h
  unfold r36
  refine f_seq ?_
  refine f_region ?_
  refine f_op rfl rfl (s_as (v := .sl ⟨true, 0, 0, 0, 0, 0⟩) rfl) ?_
  refine f_nil ?_
  refine f_seq ?_
  refine f_seq ?_
  refine f_region ?_
  refine f_op rfl rfl (s_mv (v := .sl a0) rfl) ?_
  refine f_op rfl rfl (s_eqNil Try.underlying22 rfl rfl) ?_
  refine f_nil ?_
  refine f_if (fun h1 => ?_) (fun h1 => ?_)
  · skip
    refine f_know 4 rfl (bool_T h1) ?_
    refine f_condT rfl ?_
    refine f_seq ?_
    refine f_region ?_
    refine f_op rfl rfl (s_as (v := .sl ⟨true, 0, 0, 0, 0, 0⟩) rfl) ?_
    refine f_nil ?_
    exact f_ret (.tmp rfl (.nil)) rfl
  · skip
    refine f_know 4 rfl (bool_F h1) ?_
    refine f_condF rfl ?_
    refine f_skip ?_
    refine f_seq ?_
    refine f_region ?_
    refine f_op rfl rfl (s_buildSlice0 Try.underlying22 ty3) ?_
    refine f_op rfl rfl (s_mv (v := .sl a0) rfl) ?_
    refine o_bind ?_; intro x2 hx2
    refine o_ck fun g3 => ?_
    refine o_bind ?_; intro x4 hx4
    refine f_op rfl rfl (s_append rfl rfl Try.underlying22 Try.underlying22 ty3 (by decide) rfl (by decide) rfl rfl hx2 g3 hx4) ?_
    refine f_op rfl rfl (s_as (v := .sl x4.1) rfl) ?_
    refine f_nil ?_
    exact f_ret (.tmp rfl (.nil)) rfl

/- 74 congou/pairs.First$1 -/
theorem ok74 : FnOk Try.prog 74 := ⟨⟨Try.f74, Try.func74, by kernel_rfl, rfl⟩⟩
theorem sim74 {a0 : Sl} {c0 : Nat} {H : Hp} {p : Bool × Hp} (h : r74 a0 c0 H = some p) : CallSim Try.prog 74 [.sl a0, .ptr c0 0] H (.bool p.1) p.2 := by
  refine callSim (fn := Try.f74) (ret := ret74) Try.func74 rfl Try.ntmps74 rfl ?_ h
  unfold r74
  refine f_seq ?_
  refine f_region ?_
  refine f_op rfl rfl (s_as (v := .bool false) rfl) ?_
  refine f_nil ?_
  refine f_seq ?_
  refine f_region ?_
  refine f_op rfl rfl (s_mv (v := .sl a0) rfl) ?_
  refine o_bind ?_; intro p1 hp1
  refine f_op rfl rfl (s_callF rfl ok36 (sim36 hp1)) ?_
  refine o_bind ?_; intro H2 hH2
  refine f_op rfl rfl (s_store (s := 1) ty22 rfl rfl rfl hH2) ?_
  refine f_nil ?_
  refine f_seq ?_
  refine f_region ?_
  refine f_op rfl rfl (s_as (v := .bool false) rfl) ?_
  refine f_nil ?_
  exact f_ret (.tmp rfl (.nil)) rfl

/- 108 slices.Index[[]int,int] -/
theorem ok108 : FnOk Try.prog 108 := ⟨⟨Try.f108, Try.func108, by kernel_rfl, rfl⟩⟩
theorem s108_l0 : ∀ (k_ : Nat) (v1 : Sl) (v2 : Int) (v3 : Int) (v4 : Int) (H : Hp), Fin Try.prog Try.f108 ret108 19 (todoAt (bodyOf Try.f108) [1, 0, 1, 0, 0] []) [(0, .sl v1), (1, .int .i64 v2), (7, .int .i64 v3), (8, .int .i64 v4)] H (r108_l0 k_ v1 v2 v3 v4 H) := by
  intro k_
  induction k_ with
  | zero => intro _ _ _ _ _; exact f_none
  | succ k_ ih =>
    intro v1 v2 v3 v4 H
    rw [r108_l0]
    refine f_seq ?_
    refine f_region ?_
    refine f_op rfl rfl (s_lss rfl rfl) ?_
    refine f_nil ?_
    refine f_seq ?_
    refine f_if (fun h1 => ?_) (fun h1 => ?_)
    · skip
      refine f_know 9 rfl (dec_true h1) ?_
      refine f_condT rfl ?_
      refine f_skip ?_
      refine f_seq ?_
      refine f_block ?_
      refine f_seq ?_
      refine f_region ?_
      refine f_op rfl rfl (s_mv (v := .int .i64 v4) rfl) ?_
      refine f_op rfl rfl (s_as (v := .int .i64 v4) rfl) ?_
      refine f_nil ?_
      refine f_seq ?_
      refine f_region ?_
      refine f_op rfl rfl (s_mv (v := .int .i64 v2) rfl) ?_
      refine f_op rfl rfl (s_mv (v := .sl v1) rfl) ?_
      refine f_op rfl rfl (s_mv (v := .int .i64 v4) rfl) ?_
      refine o_ck fun g2 => ?_
      refine f_op rfl rfl (s_idx Try.underlying22 ty3 rfl rfl g2) ?_
      refine o_bind ?_; intro x3 hx3
      refine f_op rfl rfl (s_load Try.underlying3 rfl rfl (ldI_eq hx3)) ?_
      refine f_op rfl rfl (s_eql rfl rfl) ?_
      refine f_nil ?_
      refine f_if (fun h4 => ?_) (fun h4 => ?_)
      · skip
        refine f_know 16 rfl (dec_true h4) ?_
        refine f_condT rfl ?_
        refine f_seq ?_
        refine f_region ?_
        refine f_op rfl rfl (s_mv (v := .int .i64 v4) rfl) ?_
        refine f_op rfl rfl (s_as (v := .int .i64 v4) rfl) ?_
        refine f_nil ?_
        exact f_ret (.tmp rfl (.nil)) rfl
      · skip
        refine f_know 16 rfl (dec_false h4) ?_
        refine f_condF rfl ?_
        refine f_skip ?_
        refine f_inBlock ?_
        refine f_region ?_
        refine f_op rfl rfl (s_add rfl rfl) ?_
        refine f_op rfl rfl (s_mv (v := .int .i64 (w64 (v4 + 1))) rfl) ?_
        refine f_nil ?_
        refine f_inLoop ?_
        refine f_keep [0, 1, 7, 8] ?_
        exact ih v1 v2 v3 (w64 (v4 + 1)) H
    · skip
      refine f_know 9 rfl (dec_false h1) ?_
      refine f_condF rfl ?_
      refine f_exit rfl ?_
      refine f_seq ?_
      refine f_region ?_
      refine f_op rfl rfl (s_as (v := .int .i64 (-1)) rfl) ?_
      refine f_nil ?_
      exact f_ret (.tmp rfl (.nil)) rfl

theorem sim108 {a0 : Sl} {a1 : Int} {H : Hp} {p : Int × Hp} (h : r108 a0 a1 H = some p) : CallSim Try.prog 108 [.sl a0, .int .i64 a1] H (.int .i64 p.1) p.2 := by
  refine callSim (fn := Try.f108) (ret := ret108) Try.func108 rfl Try.ntmps108 rfl ?_ h
  unfold r108
  refine f_seq ?_
  refine f_region ?_
  refine f_op rfl rfl (s_as (v := .int .i64 0) rfl) ?_
  refine f_nil ?_
  refine f_seq ?_
  refine f_seq ?_
  refine f_region ?_
  refine f_op rfl rfl (s_mv (v := .sl a0) rfl) ?_
  refine f_op rfl rfl (s_lenS rfl Try.underlying22 rfl) ?_
  refine f_op rfl rfl (s_mv (v := .int .i64 0) rfl) ?_
  refine f_nil ?_
  refine f_block ?_
  refine f_loop ?_
  refine f_keep [0, 1, 7, 8] ?_
  exact s108_l0 FUEL a0 a1 (a0.len : Int) 0 H

/- 107 congou/pairs.rows$1 -/
theorem ok107 : FnOk Try.prog 107 := ⟨⟨Try.f107, Try.func107, by kernel_rfl, rfl⟩⟩
theorem s107_j1 {app : App} (happ : AppSim Try.prog app) (kt0 : Int → Nat → Nat → Nat → Nat → Int → Int → Hp → Option (Bool × Hp)) (hkt0 : ∀ (v1 : Int) (v2 : Nat) (v3 : Nat) (v4 : Nat) (v5 : Nat) (v6 : Int) (v7 : Int) (H : Hp), Fin Try.prog Try.f107 ret107 70 (todoAt (bodyOf Try.f107) [1, 1, 1, 0, 1, 0, 0] []) [(0, .int .i64 v1), (1, .ptr v2 0), (3, .ptr v3 0), (4, .ptr v4 0), (5, .ptr v5 0), (8, .int .i64 v6), (9, .int .i64 v7)] H (kt0 v1 v2 v3 v4 v5 v6 v7 H)) (v1 : Int) (v2 : Nat) (v3 : Nat) (v4 : Nat) (v5 : Nat) (v6 : Int) (v7 : Int) (v8 : Int) (v9 : Bool) (H : Hp) : Fin Try.prog Try.f107 ret107 70 (todoAt (bodyOf Try.f107) [1, 1, 1, 0, 1, 0, 0, 1, 0, 0, 1, 0, 1] []) [(0, .int .i64 v1), (1, .ptr v2 0), (3, .ptr v3 0), (4, .ptr v4 0), (5, .ptr v5 0), (8, .int .i64 v6), (9, .int .i64 v7), (10, .int .i64 v8), (47, .bool v9)] H (r107_j1 app kt0 v1 v2 v3 v4 v5 v6 v7 v8 v9 H) := by
  unfold r107_j1
  refine f_if (fun h1 => ?_) (fun h1 => ?_)
  · skip
    refine f_know 47 rfl (bool_T h1) ?_
    refine f_condT rfl ?_
    refine f_exit rfl ?_
    refine f_region ?_
    refine f_op rfl rfl (s_mv (v := .int .i64 v7) rfl) ?_
    refine f_op rfl rfl (s_add rfl rfl) ?_
    refine f_op rfl rfl (s_as (v := .int .i64 (w64 (v7 + 1))) rfl) ?_
    refine f_nil ?_
    refine f_inLoop ?_
    refine f_keep [0, 1, 3, 4, 5, 8, 9] ?_
    exact hkt0 v1 v2 v3 v4 v5 v6 (w64 (v7 + 1)) H
  · skip
    refine f_know 47 rfl (bool_F h1) ?_
    refine f_condF rfl ?_
    refine f_skip ?_
    refine f_seq ?_
    refine f_bind ?_; intro x2 hx2
    refine f_bind ?_; intro x3 hx3
    refine f_ck fun g4 => ?_
    refine f_bind ?_; intro H5 hH5
    refine f_ck fun g6 => ?_
    refine f_bind ?_; intro H7 hH7
    refine f_ck fun g8 => ?_
    refine f_ck fun g9 => ?_
    refine f_draw (Φ := fun H_ => H_.ld v2 0 = some (.sl x3)) [1, 0, 0, 0, 0, 0, 0, 2, 0, 2] (Trc.read rfl rfl rfl (s_load Try.underlying22 rfl rfl (ldSl_eq hx2)) (Trc.pure rfl rfl rfl (fun _ _ => s_mv (v := .int .i64 v6) rfl) (Trc.pure rfl rfl rfl (fun _ hp_ => s_load Try.underlying22 rfl rfl hp_) (Trc.pure rfl rfl rfl (fun _ _ => s_mv (v := .int .i64 v8) rfl) (Trc.pure rfl rfl rfl (fun _ _ => s_mv (v := .int .i64 v7) rfl) (Trc.pure rfl rfl rfl (fun _ _ => s_mv (v := .int .i64 v7) rfl) (Trc.pure rfl rfl rfl (fun _ _ => s_idx Try.underlying22 ty3 rfl rfl g4) (Trc.eff rfl rfl rfl (ldSl_eq hx3) (s_store (s := 1) ty3 rfl rfl rfl hH5) (Trc.pure rfl rfl rfl (fun _ _ => s_idx Try.underlying22 ty3 rfl rfl g6) (Trc.eff rfl rfl rfl (ldSl_eq g8) (s_store (s := 1) ty3 rfl rfl rfl hH7) (Trc.nil (ldSl_eq g9)))))))))))) rfl (by decide +kernel) mixed ?_
    refine f_seq ?_
    refine f_bind ?_; intro x10 hx10
    refine f_ck fun g11 => ?_
    refine f_bind ?_; intro p12 hp12
    refine f_bind ?_; intro x13 hx13
    refine f_draw (Φ := fun _ => True) [1, 0, 0, 0, 0, 2, 0] (Trc.read rfl rfl rfl (s_load Try.underlying37 rfl rfl (ldV_eq hx10)) (Trc.pure rfl rfl rfl (fun _ _ => s_mv (v := .int .i64 v1) rfl) (Trc.pure rfl rfl rfl (fun _ _ => s_mv (v := .int .i64 v7) rfl) (Trc.pure rfl rfl rfl (fun _ _ => s_shl rfl rfl g11) (Trc.pure rfl rfl rfl (fun _ _ => s_or rfl rfl) (Trc.eff rfl rfl rfl (trivial) (s_callv happ rfl rfl hp12) (Trc.know 61 rfl (asB_eq hx13) (Trc.pure rfl rfl rfl (fun _ _ => s_as (v := .bool x13) rfl) (Trc.nil (trivial)))))))))) rfl (by decide +kernel) mixed ?_
    refine f_seq ?_
    refine f_bind ?_; intro x14 hx14
    refine f_bind ?_; intro x15 hx15
    refine f_ck fun g16 => ?_
    refine f_bind ?_; intro H17 hH17
    refine f_ck fun g18 => ?_
    refine f_bind ?_; intro H19 hH19
    refine f_ck fun g20 => ?_
    refine f_ck fun g21 => ?_
    refine f_draw (Φ := fun H_ => H_.ld v2 0 = some (.sl x15)) [1, 0, 0, 0, 0, 2, 0, 2] (Trc.read rfl rfl rfl (s_load Try.underlying22 rfl rfl (ldSl_eq hx14)) (Trc.pure rfl rfl rfl (fun _ _ => s_mv (v := .int .i64 v6) rfl) (Trc.pure rfl rfl rfl (fun _ hp_ => s_load Try.underlying22 rfl rfl hp_) (Trc.pure rfl rfl rfl (fun _ _ => s_mv (v := .int .i64 v8) rfl) (Trc.pure rfl rfl rfl (fun _ _ => s_idx Try.underlying22 ty3 rfl rfl g16) (Trc.eff rfl rfl rfl (ldSl_eq hx15) (s_store (s := 1) ty3 rfl rfl rfl hH17) (Trc.pure rfl rfl rfl (fun _ _ => s_idx Try.underlying22 ty3 rfl rfl g18) (Trc.eff rfl rfl rfl (ldSl_eq g20) (s_store (s := 1) ty3 rfl rfl rfl hH19) (Trc.nil (ldSl_eq g21)))))))))) rfl (by decide +kernel) mixed ?_
    refine f_seq ?_
    refine f_region ?_
    refine f_op rfl rfl (s_mv (v := .bool x13) rfl) ?_
    refine f_op rfl rfl (s_not rfl) ?_
    refine f_nil ?_
    refine f_if (fun h22 => ?_) (fun h22 => ?_)
    · skip
      refine f_know 69 rfl (bool_notT h22) ?_
      refine f_condF rfl ?_
      refine f_skip ?_
      refine f_inBlock ?_
      refine f_region ?_
      refine f_op rfl rfl (s_mv (v := .int .i64 v7) rfl) ?_
      refine f_op rfl rfl (s_add rfl rfl) ?_
      refine f_op rfl rfl (s_as (v := .int .i64 (w64 (v7 + 1))) rfl) ?_
      refine f_nil ?_
      refine f_inLoop ?_
      refine f_keep [0, 1, 3, 4, 5, 8, 9] ?_
      exact hkt0 v1 v2 v3 v4 v5 v6 (w64 (v7 + 1)) H19
    · skip
      refine f_know 69 rfl (bool_notF h22) ?_
      refine f_condT rfl ?_
      refine f_seq ?_
      refine f_region ?_
      refine f_op rfl rfl (s_as (v := .bool false) rfl) ?_
      refine f_nil ?_
      exact f_ret (.tmp rfl (.nil)) rfl

theorem s107_l0 {app : App} (happ : AppSim Try.prog app) : ∀ (k_ : Nat) (v1 : Int) (v2 : Nat) (v3 : Nat) (v4 : Nat) (v5 : Nat) (v6 : Int) (v7 : Int) (H : Hp), Fin Try.prog Try.f107 ret107 70 (todoAt (bodyOf Try.f107) [1, 1, 1, 0, 1, 0, 0] []) [(0, .int .i64 v1), (1, .ptr v2 0), (3, .ptr v3 0), (4, .ptr v4 0), (5, .ptr v5 0), (8, .int .i64 v6), (9, .int .i64 v7)] H (r107_l0 app k_ v1 v2 v3 v4 v5 v6 v7 H) := by
  intro k_
  induction k_ with
  | zero => intro _ _ _ _ _ _ _ _; exact f_none
  | succ k_ ih =>
    intro v1 v2 v3 v4 v5 v6 v7 H
    rw [r107_l0]
    refine f_seq ?_
    refine f_seq ?_
    refine f_region ?_
    refine f_op rfl rfl (s_mv (v := .int .i64 v7) rfl) ?_
    refine o_bind ?_; intro x1 hx1
    refine f_op rfl rfl (s_load Try.underlying3 rfl rfl (ldI_eq hx1)) ?_
    refine f_op rfl rfl (s_leq rfl rfl) ?_
    refine f_nil ?_
    refine f_if (fun h2 => ?_) (fun h2 => ?_)
    · skip
      refine f_know 21 rfl (dec_true h2) ?_
      refine f_condT rfl ?_
      refine f_skip ?_
      refine f_seq ?_
      refine f_block ?_
      refine f_seq ?_
      refine f_region ?_
      refine f_op rfl rfl (s_mv (v := .int .i64 v6) rfl) ?_
      refine f_op rfl rfl (s_mv (v := .int .i64 v7) rfl) ?_
      refine f_op rfl rfl (s_add rfl rfl) ?_
      refine o_bind ?_; intro x3 hx3
      refine f_op rfl rfl (s_load Try.underlying3 rfl rfl (ldI_eq hx3)) ?_
      refine f_op rfl rfl (s_add rfl rfl) ?_
      refine f_op rfl rfl (s_sub rfl rfl) ?_
      refine f_op rfl rfl (s_as (v := .int .i64 (w64 ((w64 ((w64 (v6 + v7)) + x3)) - 1))) rfl) ?_
      refine f_nil ?_
      refine f_seq ?_
      refine f_seq ?_
      refine f_region ?_
      refine f_op rfl rfl (s_mv (v := .int .i64 v1) rfl) ?_
      refine f_op rfl rfl (s_mv (v := .int .i64 v7) rfl) ?_
      refine o_ck fun g4 => ?_
      refine f_op rfl rfl (s_shr rfl rfl g4) ?_
      refine f_op rfl rfl (s_and rfl rfl) ?_
      refine f_op rfl rfl (s_eql rfl rfl) ?_
      refine f_op rfl rfl (s_mv (v := .bool (decide ((bitsOf .and .i64 (shrOf .i64 v1 v7) 1) = 1))) rfl) ?_
      refine o_if (fun h5 => ?_) (fun h5 => ?_)
      · skip
        refine o_know 35 rfl (dec_true h5) ?_
        refine f_no rfl rfl ?_
        refine f_no rfl rfl ?_
        refine f_no rfl rfl ?_
        refine f_no rfl rfl ?_
        refine f_op rfl rfl (s_pickT (v := .bool true) rfl rfl) ?_
        refine f_op rfl rfl (s_mv (v := .bool true) rfl) ?_
        refine f_no rfl rfl ?_
        refine f_no rfl rfl ?_
        refine f_no rfl rfl ?_
        refine f_no rfl rfl ?_
        refine f_no rfl rfl ?_
        refine f_op rfl rfl (s_pickT (v := .bool true) rfl rfl) ?_
        refine f_nil ?_
        refine f_keep [0, 1, 3, 4, 5, 8, 9, 10, 47] ?_
        exact s107_j1 happ _ (fun v1_ v2_ v3_ v4_ v5_ v6_ v7_ H_ => ih v1_ v2_ v3_ v4_ v5_ v6_ v7_ H_) v1 v2 v3 v4 v5 v6 v7 (w64 ((w64 ((w64 (v6 + v7)) + x3)) - 1)) true H
      · skip
        refine o_know 35 rfl (dec_false h5) ?_
        refine f_op rfl rfl (s_mv (v := .int .i64 (w64 ((w64 ((w64 (v6 + v7)) + x3)) - 1))) rfl) ?_
        refine o_bind ?_; intro x6 hx6
        refine f_op rfl rfl (s_load Try.underlying22 rfl rfl (ldSl_eq hx6)) ?_
        refine f_op rfl rfl (s_lenS rfl Try.underlying22 rfl) ?_
        refine f_op rfl rfl (s_geq rfl rfl) ?_
        refine f_op rfl rfl (s_pickF (v := .bool (decide ((x6.len : Int) ≤ (w64 ((w64 ((w64 (v6 + v7)) + x3)) - 1))))) rfl rfl) ?_
        refine f_op rfl rfl (s_mv (v := .bool (decide ((x6.len : Int) ≤ (w64 ((w64 ((w64 (v6 + v7)) + x3)) - 1))))) rfl) ?_
        refine o_if (fun h7 => ?_) (fun h7 => ?_)
        · skip
          refine o_know 41 rfl (dec_true h7) ?_
          refine f_no rfl rfl ?_
          refine f_no rfl rfl ?_
          refine f_no rfl rfl ?_
          refine f_no rfl rfl ?_
          refine f_no rfl rfl ?_
          refine f_op rfl rfl (s_pickT (v := .bool true) rfl rfl) ?_
          refine f_nil ?_
          refine f_keep [0, 1, 3, 4, 5, 8, 9, 10, 47] ?_
          exact s107_j1 happ _ (fun v1_ v2_ v3_ v4_ v5_ v6_ v7_ H_ => ih v1_ v2_ v3_ v4_ v5_ v6_ v7_ H_) v1 v2 v3 v4 v5 v6 v7 (w64 ((w64 ((w64 (v6 + v7)) + x3)) - 1)) true H
        · skip
          refine o_know 41 rfl (dec_false h7) ?_
          refine o_bind ?_; intro x8 hx8
          refine f_op rfl rfl (s_load Try.underlying22 rfl rfl (ldSl_eq hx8)) ?_
          refine f_op rfl rfl (s_mv (v := .int .i64 (w64 ((w64 ((w64 (v6 + v7)) + x3)) - 1))) rfl) ?_
          refine o_ck fun g9 => ?_
          refine f_op rfl rfl (s_idx Try.underlying22 ty3 rfl rfl g9) ?_
          refine o_bind ?_; intro x10 hx10
          refine f_op rfl rfl (s_load Try.underlying3 rfl rfl (ldI_eq hx10)) ?_
          refine f_op rfl rfl (s_neq rfl rfl) ?_
          refine f_op rfl rfl (s_pickF (v := .bool (decide (x10 ≠ 0))) rfl rfl) ?_
          refine f_nil ?_
          refine f_keep [0, 1, 3, 4, 5, 8, 9, 10, 47] ?_
          exact s107_j1 happ _ (fun v1_ v2_ v3_ v4_ v5_ v6_ v7_ H_ => ih v1_ v2_ v3_ v4_ v5_ v6_ v7_ H_) v1 v2 v3 v4 v5 v6 v7 (w64 ((w64 ((w64 (v6 + v7)) + x3)) - 1)) (decide (x10 ≠ 0)) H
    · skip
      refine f_know 21 rfl (dec_false h2) ?_
      refine f_condF rfl ?_
      refine f_exit rfl ?_
      refine f_seq ?_
      refine f_region ?_
      refine f_op rfl rfl (s_as (v := .bool true) rfl) ?_
      refine f_nil ?_
      exact f_ret (.tmp rfl (.nil)) rfl

theorem sim107 {app : App} (happ : AppSim Try.prog app) {a0 : Int} {c0 : Nat} {c1 : Nat} {c2 : Nat} {c3 : Nat} {c4 : Nat} {H : Hp} {p : Bool × Hp} (h : r107 app a0 c0 c1 c2 c3 c4 H = some p) : CallSim Try.prog 107 [.int .i64 a0, .ptr c0 0, .ptr c1 0, .ptr c2 0, .ptr c3 0, .ptr c4 0] H (.bool p.1) p.2 := by
  refine callSim (fn := Try.f107) (ret := ret107) Try.func107 rfl Try.ntmps107 rfl ?_ h
  unfold r107
  refine f_seq ?_
  refine f_region ?_
  refine f_op rfl rfl (s_as (v := .bool false) rfl) ?_
  refine f_nil ?_
  refine f_seq ?_
  refine f_region ?_
  refine o_bind ?_; intro x1 hx1
  refine f_op rfl rfl (s_load Try.underlying22 rfl rfl (ldSl_eq hx1)) ?_
  refine o_bind ?_; intro p2 hp2
  refine f_op rfl rfl (s_callF rfl ok108 (sim108 hp2)) ?_
  refine f_op rfl rfl (s_as (v := .int .i64 p2.1) rfl) ?_
  refine f_nil ?_
  refine f_seq ?_
  refine f_seq ?_
  refine f_region ?_
  refine f_op rfl rfl (s_mv (v := .int .i64 p2.1) rfl) ?_
  refine f_op rfl rfl (s_lss rfl rfl) ?_
  refine f_nil ?_
  refine f_if (fun h3 => ?_) (fun h3 => ?_)
  · skip
    refine f_know 15 rfl (dec_true h3) ?_
    refine f_condT rfl ?_
    refine f_seq ?_
    refine f_region ?_
    refine o_bind ?_; intro x4 hx4
    refine f_op rfl rfl (s_load Try.underlying44 rfl rfl (ldV_eq hx4)) ?_
    refine o_bind ?_; intro x5 hx5
    refine f_op rfl rfl (s_load Try.underlying22 rfl rfl (ldSl_eq hx5)) ?_
    refine o_bind ?_; intro p6 hp6
    refine o_bind ?_; intro x7 hx7
    refine f_op rfl rfl (s_callv happ rfl rfl hp6) ?_
    refine o_know 18 rfl (asB_eq hx7) ?_
    refine f_op rfl rfl (s_as (v := .bool x7) rfl) ?_
    refine f_nil ?_
    exact f_ret (.tmp rfl (.nil)) rfl
  · skip
    refine f_know 15 rfl (dec_false h3) ?_
    refine f_condF rfl ?_
    refine f_skip ?_
    refine f_seq ?_
    refine f_seq ?_
    refine f_region ?_
    refine f_op rfl rfl (s_as (v := .int .i64 1) rfl) ?_
    refine f_nil ?_
    refine f_block ?_
    refine f_loop ?_
    refine f_keep [0, 1, 3, 4, 5, 8, 9] ?_
    exact s107_l0 happ FUEL a0 c0 c2 c3 c4 p2.1 1 p2.2

end Go.Lt.P8
