/- PRINTED BY A PROGRAM OF OURS: what each function that 'PairsTogether' reaches computes on the abstract heap, and that the translated code does just that. Nothing is asked of the input. -/
import Derived.Test.YthmhdbmpeepmaaaG16P1
set_option linter.unusedVariables false
set_option linter.unusedSimpArgs false
set_option maxRecDepth 100000
set_option maxHeartbeats 4000000
namespace Go.Lt.P8
open Go Go.Lt Go.Proofs
/- 16 congou/congoulaw08.PairsTogether -/
theorem ok16 : FnOk Try.prog 16 := ⟨⟨Try.f16, Try.func16, by kernel_rfl, rfl⟩⟩
theorem s16_j5 {app : App} (happ : AppSim Try.prog app) (kt3 : Int → Int → Sl → Sl → Sl → Int → Int → Int → Int → Int → Int → Hp → Option (Bool × Hp)) (hkt3 : ∀ (v1 : Int) (v2 : Int) (v3 : Sl) (v4 : Sl) (v5 : Sl) (v6 : Int) (v7 : Int) (v8 : Int) (v9 : Int) (v10 : Int) (v11 : Int) (H : Hp), Fin Try.prog Try.f16 ret16 141 (todoAt (bodyOf Try.f16) [1, 1, 1, 1, 1, 1, 1, 0, 1, 0, 0, 1, 1, 0, 0, 1, 1, 0, 0] []) [(0, .int .i64 v1), (1, .int .i64 v2), (5, .sl v3), (9, .sl v4), (77, .sl v5), (78, .int .i64 v6), (79, .int .i64 v7), (83, .agg [.int .i64 v8, .int .i64 v9, .int .i64 v10]), (84, .int .i64 v11)] H (kt3 v1 v2 v3 v4 v5 v6 v7 v8 v9 v10 v11 H)) (v1 : Int) (v2 : Int) (v3 : Sl) (v4 : Sl) (v5 : Int) (v6 : Sl) (v7 : Int) (v8 : Int) (v9 : Int) (v10 : Int) (v11 : Int) (v12 : Int) (v13 : Bool) (H : Hp) : Fin Try.prog Try.f16 ret16 141 (todoAt (bodyOf Try.f16) [1, 1, 1, 1, 1, 1, 1, 0, 1, 0, 0, 1, 1, 0, 0, 1, 1, 0, 0, 1, 1, 0, 0, 1, 0, 1] []) [(0, .int .i64 v1), (1, .int .i64 v2), (5, .sl v3), (9, .sl v4), (13, .int .i64 v5), (77, .sl v6), (78, .int .i64 v7), (79, .int .i64 v8), (83, .agg [.int .i64 v9, .int .i64 v10, .int .i64 v11]), (84, .int .i64 v12), (93, .bool v13)] H (r16_j5 app kt3 v1 v2 v3 v4 v5 v6 v7 v8 v9 v10 v11 v12 v13 H) := by
  unfold r16_j5
  refine f_if (fun h1 => ?_) (fun h1 => ?_)
  · skip
    refine f_know 93 rfl (bool_T h1) ?_
    refine f_condT rfl ?_
    refine f_seq ?_
    refine f_region ?_
    refine f_op rfl rfl (s_as (v := .bool false) rfl) ?_
    refine f_nil ?_
    exact f_ret (.tmp rfl (.nil)) rfl
  · skip
    refine f_know 93 rfl (bool_F h1) ?_
    refine f_condF rfl ?_
    refine f_skip ?_
    refine f_region ?_
    refine f_op rfl rfl (s_mv (v := .sl v4) rfl) ?_
    refine f_op rfl rfl (s_mv (v := .int .i64 v5) rfl) ?_
    refine o_ck fun g2 => ?_
    refine f_op rfl rfl (s_idx Try.underlying22 ty3 rfl rfl g2) ?_
    refine o_bind ?_; intro x3 hx3
    refine f_op rfl rfl (s_load Try.underlying3 rfl rfl (ldI_eq hx3)) ?_
    refine f_op rfl rfl (s_add rfl rfl) ?_
    refine o_ck fun g4 => ?_
    refine f_op rfl rfl (s_idx Try.underlying22 ty3 rfl rfl g4) ?_
    refine o_bind ?_; intro H5 hH5
    refine f_op rfl rfl (s_store (s := 1) ty3 rfl rfl rfl hH5) ?_
    refine f_nil ?_
    refine f_inBlock ?_
    refine f_region ?_
    refine f_op rfl rfl (s_add rfl rfl) ?_
    refine f_op rfl rfl (s_mv (v := .int .i64 (w64 (v12 + 1))) rfl) ?_
    refine f_nil ?_
    refine f_inLoop ?_
    refine f_keep [0, 1, 5, 9, 77, 78, 79, 83, 84] ?_
    exact hkt3 v1 v2 v3 v4 v6 v7 v8 v9 v10 v11 (w64 (v12 + 1)) H5

theorem s16_l3 {app : App} (happ : AppSim Try.prog app) (kt2 : Int → Int → Sl → Sl → Sl → Int → Int → Hp → Option (Bool × Hp)) (hkt2 : ∀ (v1 : Int) (v2 : Int) (v3 : Sl) (v4 : Sl) (v5 : Sl) (v6 : Int) (v7 : Int) (H : Hp), Fin Try.prog Try.f16 ret16 141 (todoAt (bodyOf Try.f16) [1, 1, 1, 1, 1, 1, 1, 0, 1, 0, 0] []) [(0, .int .i64 v1), (1, .int .i64 v2), (5, .sl v3), (9, .sl v4), (77, .sl v5), (78, .int .i64 v6), (79, .int .i64 v7)] H (kt2 v1 v2 v3 v4 v5 v6 v7 H)) : ∀ (k_ : Nat) (v1 : Int) (v2 : Int) (v3 : Sl) (v4 : Sl) (v5 : Sl) (v6 : Int) (v7 : Int) (v8 : Int) (v9 : Int) (v10 : Int) (v11 : Int) (H : Hp), Fin Try.prog Try.f16 ret16 141 (todoAt (bodyOf Try.f16) [1, 1, 1, 1, 1, 1, 1, 0, 1, 0, 0, 1, 1, 0, 0, 1, 1, 0, 0] []) [(0, .int .i64 v1), (1, .int .i64 v2), (5, .sl v3), (9, .sl v4), (77, .sl v5), (78, .int .i64 v6), (79, .int .i64 v7), (83, .agg [.int .i64 v8, .int .i64 v9, .int .i64 v10]), (84, .int .i64 v11)] H (r16_l3 app kt2 k_ v1 v2 v3 v4 v5 v6 v7 v8 v9 v10 v11 H) := by
  intro k_
  induction k_ with
  | zero => intro _ _ _ _ _ _ _ _ _ _ _ _; exact f_none
  | succ k_ ih =>
    intro v1 v2 v3 v4 v5 v6 v7 v8 v9 v10 v11 H
    rw [r16_l3]
    refine f_seq ?_
    refine f_region ?_
    refine f_op rfl rfl (s_lss rfl rfl) ?_
    refine f_nil ?_
    refine f_seq ?_
    refine f_if (fun h1 => ?_) (fun h1 => ?_)
    · skip
      refine f_know 85 rfl (dec_true h1) ?_
      refine f_condT rfl ?_
      refine f_skip ?_
      refine f_seq ?_
      refine f_block ?_
      refine f_seq ?_
      refine f_region ?_
      refine o_ck fun g2 => ?_
      refine o_bind ?_; intro x3 hx3
      refine o_bind ?_; intro x4 hx4
      refine f_op rfl rfl (s_index Try.underlying63 Try.underlying3 ty3 rfl rfl g2 hx3) ?_
      refine o_know 86 rfl (asI_eq hx4) ?_
      refine f_op rfl rfl (s_as (v := .int .i64 x4) rfl) ?_
      refine f_nil ?_
      refine f_seq ?_
      refine f_seq ?_
      refine f_region ?_
      refine f_op rfl rfl (s_mv (v := .int .i64 x4) rfl) ?_
      refine f_op rfl rfl (s_lss rfl rfl) ?_
      refine f_op rfl rfl (s_mv (v := .bool (decide (x4 < 0))) rfl) ?_
      refine o_if (fun h5 => ?_) (fun h5 => ?_)
      · skip
        refine o_know 89 rfl (dec_true h5) ?_
        refine f_no rfl rfl ?_
        refine f_no rfl rfl ?_
        refine f_no rfl rfl ?_
        refine f_op rfl rfl (s_pickT (v := .bool true) rfl rfl) ?_
        refine f_nil ?_
        refine f_keep [0, 1, 5, 9, 13, 77, 78, 79, 83, 84, 93] ?_
        exact s16_j5 happ _ (fun v1_ v2_ v3_ v4_ v5_ v6_ v7_ v8_ v9_ v10_ v11_ H_ => ih v1_ v2_ v3_ v4_ v5_ v6_ v7_ v8_ v9_ v10_ v11_ H_) v1 v2 v3 v4 x4 v5 v6 v7 v8 v9 v10 v11 true H
      · skip
        refine o_know 89 rfl (dec_false h5) ?_
        refine f_op rfl rfl (s_mv (v := .int .i64 x4) rfl) ?_
        refine f_op rfl rfl (s_mv (v := .int .i64 v1) rfl) ?_
        refine f_op rfl rfl (s_geq rfl rfl) ?_
        refine f_op rfl rfl (s_pickF (v := .bool (decide (v1 ≤ x4))) rfl rfl) ?_
        refine f_nil ?_
        refine f_keep [0, 1, 5, 9, 13, 77, 78, 79, 83, 84, 93] ?_
        exact s16_j5 happ _ (fun v1_ v2_ v3_ v4_ v5_ v6_ v7_ v8_ v9_ v10_ v11_ H_ => ih v1_ v2_ v3_ v4_ v5_ v6_ v7_ v8_ v9_ v10_ v11_ H_) v1 v2 v3 v4 x4 v5 v6 v7 v8 v9 v10 v11 (decide (v1 ≤ x4)) H
    · skip
      refine f_know 85 rfl (dec_false h1) ?_
      refine f_condF rfl ?_
      refine f_exit rfl ?_
      refine f_inBlock ?_
      refine f_region ?_
      refine f_op rfl rfl (s_add rfl rfl) ?_
      refine f_op rfl rfl (s_mv (v := .int .i64 (w64 (v7 + 1))) rfl) ?_
      refine f_nil ?_
      refine f_inLoop ?_
      refine f_keep [0, 1, 5, 9, 77, 78, 79] ?_
      exact hkt2 v1 v2 v3 v4 v5 v6 (w64 (v7 + 1)) H

theorem s16_l4 {app : App} (happ : AppSim Try.prog app) : ∀ (k_ : Nat) (v1 : Int) (v2 : Int) (v3 : Sl) (v4 : Sl) (v5 : Int) (v6 : Int) (H : Hp), Fin Try.prog Try.f16 ret16 141 (todoAt (bodyOf Try.f16) [1, 1, 1, 1, 1, 1, 1, 1, 0, 1, 0, 0] []) [(0, .int .i64 v1), (1, .int .i64 v2), (5, .sl v3), (102, .sl v4), (103, .int .i64 v5), (104, .int .i64 v6)] H (r16_l4 app k_ v1 v2 v3 v4 v5 v6 H) := by
  intro k_
  induction k_ with
  | zero => intro _ _ _ _ _ _ _; exact f_none
  | succ k_ ih =>
    intro v1 v2 v3 v4 v5 v6 H
    rw [r16_l4]
    refine f_seq ?_
    refine f_region ?_
    refine f_op rfl rfl (s_lss rfl rfl) ?_
    refine f_nil ?_
    refine f_seq ?_
    refine f_if (fun h1 => ?_) (fun h1 => ?_)
    · skip
      refine f_know 105 rfl (dec_true h1) ?_
      refine f_condT rfl ?_
      refine f_skip ?_
      refine f_seq ?_
      refine f_block ?_
      refine f_seq ?_
      refine f_region ?_
      refine o_ck fun g2 => ?_
      refine f_op rfl rfl (s_idx Try.underlying22 ty3 rfl rfl g2) ?_
      refine o_bind ?_; intro x3 hx3
      refine f_op rfl rfl (s_load Try.underlying3 rfl rfl (ldI_eq hx3)) ?_
      refine f_op rfl rfl (s_as (v := .int .i64 x3) rfl) ?_
      refine f_nil ?_
      refine f_seq ?_
      refine f_region ?_
      refine f_op rfl rfl (s_mv (v := .int .i64 x3) rfl) ?_
      refine f_op rfl rfl (s_mul rfl rfl) ?_
      refine f_op rfl rfl (s_mv (v := .int .i64 v1) rfl) ?_
      refine f_op rfl rfl (s_sub rfl rfl) ?_
      refine f_op rfl rfl (s_neq rfl rfl) ?_
      refine f_nil ?_
      refine f_if (fun h4 => ?_) (fun h4 => ?_)
      · skip
        refine f_know 112 rfl (dec_true h4) ?_
        refine f_condT rfl ?_
        refine f_seq ?_
        refine f_region ?_
        refine f_op rfl rfl (s_as (v := .bool false) rfl) ?_
        refine f_nil ?_
        exact f_ret (.tmp rfl (.nil)) rfl
      · skip
        refine f_know 112 rfl (dec_false h4) ?_
        refine f_condF rfl ?_
        refine f_skip ?_
        refine f_inBlock ?_
        refine f_region ?_
        refine f_op rfl rfl (s_add rfl rfl) ?_
        refine f_op rfl rfl (s_mv (v := .int .i64 (w64 (v6 + 1))) rfl) ?_
        refine f_nil ?_
        refine f_inLoop ?_
        refine f_keep [0, 1, 5, 102, 103, 104] ?_
        exact ih v1 v2 v3 v4 v5 (w64 (v6 + 1)) H
    · skip
      refine f_know 105 rfl (dec_false h1) ?_
      refine f_condF rfl ?_
      refine f_exit rfl ?_
      refine f_seq ?_
      refine f_region ?_
      refine f_op rfl rfl (s_mv (v := .int .i64 v2) rfl) ?_
      refine f_op rfl rfl (s_convInt Try.underlying3 Try.underlying39 rfl) ?_
      refine f_op rfl rfl (s_mv (v := .sl v3) rfl) ?_
      refine f_op rfl rfl (s_lenS rfl Try.underlying58 rfl) ?_
      refine f_op rfl rfl (s_convInt Try.underlying3 Try.underlying39 rfl) ?_
      refine o_ck fun g5 => ?_
      refine f_op rfl rfl (s_rem rfl rfl g5) ?_
      refine f_op rfl rfl (s_convInt Try.underlying39 Try.underlying3 rfl) ?_
      refine f_op rfl rfl (s_as (v := .int .i64 (w64 (Int.tmod (IntKind.wrap .u64 (v2)) (IntKind.wrap .u64 ((v3.len : Int)))))) rfl) ?_
      refine f_nil ?_
      refine f_seq ?_
      refine f_region ?_
      refine f_op rfl rfl (s_mv (v := .int .i64 v1) rfl) ?_
      refine f_op rfl rfl (s_mv (v := .sl v3) rfl) ?_
      refine o_bind ?_; intro p6 hp6
      refine f_op rfl rfl (s_callF rfl ok52 (sim52 hp6)) ?_
      refine f_op rfl rfl (s_mv (v := .int .i64 (w64 (Int.tmod (IntKind.wrap .u64 (v2)) (IntKind.wrap .u64 ((v3.len : Int)))))) rfl) ?_
      refine f_op rfl rfl (s_mv (v := .int .i64 (w64 (Int.tmod (IntKind.wrap .u64 (v2)) (IntKind.wrap .u64 ((v3.len : Int)))))) rfl) ?_
      refine f_op rfl rfl (s_add rfl rfl) ?_
      refine o_bind ?_; intro p7 hp7
      refine f_op rfl rfl (s_callF rfl ok61 (sim61 hp7)) ?_
      refine o_bind ?_; intro p8 hp8
      refine f_op rfl rfl (s_callF rfl ok53 (sim53 happ hp8)) ?_
      refine f_op rfl rfl (s_mv (v := .tup [.bool p8.1.1, .int .i64 p8.1.2]) rfl) ?_
      refine f_op rfl rfl (s_extract (r := .bool p8.1.1) rfl rfl) ?_
      refine f_op rfl rfl (s_extract (r := .int .i64 p8.1.2) rfl rfl) ?_
      refine f_op rfl rfl (s_as (v := .bool p8.1.1) rfl) ?_
      refine f_op rfl rfl (s_as (v := .int .i64 p8.1.2) rfl) ?_
      refine f_nil ?_
      refine f_seq ?_
      refine f_region ?_
      refine f_op rfl rfl (s_mv (v := .bool p8.1.1) rfl) ?_
      refine f_op rfl rfl (s_not rfl) ?_
      refine f_op rfl rfl (s_mv (v := .bool (!p8.1.1)) rfl) ?_
      refine o_if (fun h9 => ?_) (fun h9 => ?_)
      · skip
        refine o_know 134 rfl (bool_notT h9) ?_
        refine f_no rfl rfl ?_
        refine f_no rfl rfl ?_
        refine f_op rfl rfl (s_pickF (v := .bool false) rfl rfl) ?_
        refine f_op rfl rfl (s_mv (v := .bool false) rfl) ?_
        refine f_no rfl rfl ?_
        refine f_op rfl rfl (s_pickF (v := .bool false) rfl rfl) ?_
        refine f_op rfl rfl (s_as (v := .bool false) rfl) ?_
        refine f_nil ?_
        exact f_ret (.tmp rfl (.nil)) rfl
      · skip
        refine o_know 134 rfl (bool_notF h9) ?_
        refine f_op rfl rfl (s_mv (v := .int .i64 p8.1.2) rfl) ?_
        refine f_op rfl rfl (s_eql rfl rfl) ?_
        refine f_op rfl rfl (s_pickT (v := .bool (decide (p8.1.2 = 0))) rfl rfl) ?_
        refine f_op rfl rfl (s_mv (v := .bool (decide (p8.1.2 = 0))) rfl) ?_
        refine o_if (fun h10 => ?_) (fun h10 => ?_)
        · skip
          refine o_know 138 rfl (dec_true h10) ?_
          refine o_bind ?_; intro p11 hp11
          refine f_op rfl rfl (s_callF rfl ok23 (sim23 happ hp11)) ?_
          refine f_op rfl rfl (s_pickT (v := .bool p11.1) rfl rfl) ?_
          refine f_op rfl rfl (s_as (v := .bool p11.1) rfl) ?_
          refine f_nil ?_
          exact f_ret (.tmp rfl (.nil)) rfl
        · skip
          refine o_know 138 rfl (dec_false h10) ?_
          refine f_no rfl rfl ?_
          refine f_op rfl rfl (s_pickF (v := .bool false) rfl rfl) ?_
          refine f_op rfl rfl (s_as (v := .bool false) rfl) ?_
          refine f_nil ?_
          exact f_ret (.tmp rfl (.nil)) rfl

theorem s16_l2 {app : App} (happ : AppSim Try.prog app) : ∀ (k_ : Nat) (v1 : Int) (v2 : Int) (v3 : Sl) (v4 : Sl) (v5 : Sl) (v6 : Int) (v7 : Int) (H : Hp), Fin Try.prog Try.f16 ret16 141 (todoAt (bodyOf Try.f16) [1, 1, 1, 1, 1, 1, 1, 0, 1, 0, 0] []) [(0, .int .i64 v1), (1, .int .i64 v2), (5, .sl v3), (9, .sl v4), (77, .sl v5), (78, .int .i64 v6), (79, .int .i64 v7)] H (r16_l2 app k_ v1 v2 v3 v4 v5 v6 v7 H) := by
  intro k_
  induction k_ with
  | zero => intro _ _ _ _ _ _ _ _; exact f_none
  | succ k_ ih =>
    intro v1 v2 v3 v4 v5 v6 v7 H
    rw [r16_l2]
    refine f_seq ?_
    refine f_region ?_
    refine f_op rfl rfl (s_lss rfl rfl) ?_
    refine f_nil ?_
    refine f_seq ?_
    refine f_if (fun h1 => ?_) (fun h1 => ?_)
    · skip
      refine f_know 80 rfl (dec_true h1) ?_
      refine f_condT rfl ?_
      refine f_skip ?_
      refine f_seq ?_
      refine f_block ?_
      refine f_seq ?_
      refine f_region ?_
      refine o_ck fun g2 => ?_
      refine f_op rfl rfl (s_idx Try.underlying58 ty63 rfl rfl g2) ?_
      refine o_bind ?_; intro x3 hx3
      refine o_bind ?_; intro x4 hx4
      refine o_bind ?_; intro x5 hx5
      refine f_op rfl rfl (s_loads Try.underlying63 rfl ty63 rfl (lds_cons (ldI_eq hx3) (lds_cons (ldI_eq hx4) (lds_cons (ldI_eq hx5) (lds_nil))))) ?_
      refine f_op rfl rfl (s_alloc (zs := [.int .i64 0, .int .i64 0, .int .i64 0]) ty63 rfl rfl) ?_
      refine o_bind ?_; intro H6 hH6
      refine f_op rfl rfl (s_stores ty63 rfl rfl rfl rfl hH6 (Nat.le_of_eq (sts_mono hH6).symm)) ?_
      refine f_nil ?_
      refine f_seq ?_
      refine f_region ?_
      refine o_bind ?_; intro x7 hx7
      refine o_bind ?_; intro x8 hx8
      refine o_bind ?_; intro x9 hx9
      refine f_op rfl rfl (s_loads Try.underlying63 rfl ty63 rfl (lds_cons (ldI_eq hx7) (lds_cons (ldI_eq hx8) (lds_cons (ldI_eq hx9) (lds_nil))))) ?_
      refine f_op rfl rfl (s_mv (v := .int .i64 0) rfl) ?_
      refine f_nil ?_
      refine f_block ?_
      refine f_loop ?_
      refine f_keep [0, 1, 5, 9, 77, 78, 79, 83, 84] ?_
      exact s16_l3 happ _ (fun v1_ v2_ v3_ v4_ v5_ v6_ v7_ H_ => ih v1_ v2_ v3_ v4_ v5_ v6_ v7_ H_) FUEL v1 v2 v3 v4 v5 v6 v7 x7 x8 x9 0 H6
    · skip
      refine f_know 80 rfl (dec_false h1) ?_
      refine f_condF rfl ?_
      refine f_exit rfl ?_
      refine f_seq ?_
      refine f_seq ?_
      refine f_region ?_
      refine f_op rfl rfl (s_mv (v := .sl v4) rfl) ?_
      refine f_op rfl rfl (s_lenS rfl Try.underlying22 rfl) ?_
      refine f_op rfl rfl (s_mv (v := .int .i64 0) rfl) ?_
      refine f_nil ?_
      refine f_block ?_
      refine f_loop ?_
      refine f_keep [0, 1, 5, 102, 103, 104] ?_
      exact s16_l4 happ FUEL v1 v2 v3 v4 (v4.len : Int) 0 H

theorem s16_j0 {app : App} (happ : AppSim Try.prog app) (v1 : Int) (v2 : Int) (v3 : Sl) (v4 : Bool) (H : Hp) : Fin Try.prog Try.f16 ret16 141 (todoAt (bodyOf Try.f16) [1, 1, 1, 1, 1, 0, 1] []) [(0, .int .i64 v1), (1, .int .i64 v2), (5, .sl v3), (74, .bool v4)] H (r16_j0 app v1 v2 v3 v4 H) := by
  unfold r16_j0
  refine f_if (fun h1 => ?_) (fun h1 => ?_)
  · skip
    refine f_know 74 rfl (bool_T h1) ?_
    refine f_condT rfl ?_
    refine f_seq ?_
    refine f_region ?_
    refine f_op rfl rfl (s_as (v := .bool false) rfl) ?_
    refine f_nil ?_
    exact f_ret (.tmp rfl (.nil)) rfl
  · skip
    refine f_know 74 rfl (bool_F h1) ?_
    refine f_condF rfl ?_
    refine f_skip ?_
    refine f_seq ?_
    refine f_region ?_
    refine f_op rfl rfl (s_mv (v := .int .i64 v1) rfl) ?_
    refine o_ck fun g2 => ?_
    refine f_op rfl rfl (s_makeSlice Try.underlying22 ty3 rfl rfl (by decide) (by decide) rfl rfl g2) ?_
    refine f_op rfl rfl (s_as (v := .sl ⟨false, H.n, 0, (v1 : Int).toNat, (v1 : Int).toNat, 0⟩) rfl) ?_
    refine o_hp ?_; intro H3 hH3
    refine f_nil ?_
    refine f_seq ?_
    refine f_seq ?_
    refine f_region ?_
    refine f_op rfl rfl (s_mv (v := .sl v3) rfl) ?_
    refine f_op rfl rfl (s_lenS rfl Try.underlying58 rfl) ?_
    refine f_op rfl rfl (s_mv (v := .int .i64 0) rfl) ?_
    refine f_nil ?_
    refine f_block ?_
    refine f_loop ?_
    refine f_keep [0, 1, 5, 9, 77, 78, 79] ?_
    exact s16_l2 happ FUEL v1 v2 v3 ⟨false, H.n, 0, (v1 : Int).toNat, (v1 : Int).toNat, 0⟩ v3 (v3.len : Int) 0 H3

theorem s16_j1 {app : App} (happ : AppSim Try.prog app) (v1 : Int) (v2 : Int) (v3 : Sl) (v4 : Int) (v5 : Bool) (H : Hp) : Fin Try.prog Try.f16 ret16 141 (todoAt (bodyOf Try.f16) [1, 1, 1, 0, 1] []) [(0, .int .i64 v1), (1, .int .i64 v2), (5, .sl v3), (6, .int .i64 v4), (37, .bool v5)] H (r16_j1 app v1 v2 v3 v4 v5 H) := by
  unfold r16_j1
  refine f_if (fun h1 => ?_) (fun h1 => ?_)
  · skip
    refine f_know 37 rfl (bool_T h1) ?_
    refine f_condT rfl ?_
    refine f_seq ?_
    refine f_region ?_
    refine f_op rfl rfl (s_mv (v := .int .i64 v4) rfl) ?_
    refine f_op rfl rfl (s_eql rfl rfl) ?_
    refine f_op rfl rfl (s_mv (v := .bool (decide (v4 = 4))) rfl) ?_
    refine o_if (fun h2 => ?_) (fun h2 => ?_)
    · skip
      refine o_know 40 rfl (dec_true h2) ?_
      refine f_op rfl rfl (s_mv (v := .sl v3) rfl) ?_
      refine f_op rfl rfl (s_lenS rfl Try.underlying58 rfl) ?_
      refine f_op rfl rfl (s_eql rfl rfl) ?_
      refine f_op rfl rfl (s_pickT (v := .bool (decide ((v3.len : Int) = 0))) rfl rfl) ?_
      refine f_op rfl rfl (s_mv (v := .bool (decide ((v3.len : Int) = 0))) rfl) ?_
      refine o_if (fun h3 => ?_) (fun h3 => ?_)
      · skip
        refine o_know 45 rfl (dec_true h3) ?_
        refine o_bind ?_; intro p4 hp4
        refine f_op rfl rfl (s_callF rfl ok23 (sim23 happ hp4)) ?_
        refine f_op rfl rfl (s_pickT (v := .bool p4.1) rfl rfl) ?_
        refine f_op rfl rfl (s_as (v := .bool p4.1) rfl) ?_
        refine f_nil ?_
        exact f_ret (.tmp rfl (.nil)) rfl
      · skip
        refine o_know 45 rfl (dec_false h3) ?_
        refine f_no rfl rfl ?_
        refine f_op rfl rfl (s_pickF (v := .bool false) rfl rfl) ?_
        refine f_op rfl rfl (s_as (v := .bool false) rfl) ?_
        refine f_nil ?_
        exact f_ret (.tmp rfl (.nil)) rfl
    · skip
      refine o_know 40 rfl (dec_false h2) ?_
      refine f_no rfl rfl ?_
      refine f_no rfl rfl ?_
      refine f_no rfl rfl ?_
      refine f_op rfl rfl (s_pickF (v := .bool false) rfl rfl) ?_
      refine f_op rfl rfl (s_mv (v := .bool false) rfl) ?_
      refine f_no rfl rfl ?_
      refine f_op rfl rfl (s_pickF (v := .bool false) rfl rfl) ?_
      refine f_op rfl rfl (s_as (v := .bool false) rfl) ?_
      refine f_nil ?_
      exact f_ret (.tmp rfl (.nil)) rfl
  · skip
    refine f_know 37 rfl (bool_F h1) ?_
    refine f_condF rfl ?_
    refine f_skip ?_
    refine f_seq ?_
    refine f_region ?_
    refine f_op rfl rfl (s_mv (v := .int .i64 v1) rfl) ?_
    refine f_op rfl rfl (s_mv (v := .sl v3) rfl) ?_
    refine o_bind ?_; intro p5 hp5
    refine f_op rfl rfl (s_callF rfl ok52 (sim52 hp5)) ?_
    refine o_bind ?_; intro p6 hp6
    refine f_op rfl rfl (s_callF rfl ok53 (sim53 happ hp6)) ?_
    refine f_op rfl rfl (s_mv (v := .tup [.bool p6.1.1, .int .i64 p6.1.2]) rfl) ?_
    refine f_op rfl rfl (s_extract (r := .bool p6.1.1) rfl rfl) ?_
    refine f_op rfl rfl (s_extract (r := .int .i64 p6.1.2) rfl rfl) ?_
    refine f_op rfl rfl (s_as (v := .bool p6.1.1) rfl) ?_
    refine f_op rfl rfl (s_as (v := .int .i64 p6.1.2) rfl) ?_
    refine f_nil ?_
    refine f_seq ?_
    refine f_seq ?_
    refine f_region ?_
    refine f_op rfl rfl (s_mv (v := .int .i64 v4) rfl) ?_
    refine f_op rfl rfl (s_neq rfl rfl) ?_
    refine f_op rfl rfl (s_mv (v := .bool (decide (v4 ≠ 0))) rfl) ?_
    refine o_if (fun h7 => ?_) (fun h7 => ?_)
    · skip
      refine o_know 57 rfl (dec_true h7) ?_
      refine f_no rfl rfl ?_
      refine f_no rfl rfl ?_
      refine f_op rfl rfl (s_pickT (v := .bool true) rfl rfl) ?_
      refine f_op rfl rfl (s_mv (v := .bool true) rfl) ?_
      refine f_no rfl rfl ?_
      refine f_no rfl rfl ?_
      refine f_op rfl rfl (s_pickT (v := .bool true) rfl rfl) ?_
      refine f_op rfl rfl (s_mv (v := .bool true) rfl) ?_
      refine f_no rfl rfl ?_
      refine f_no rfl rfl ?_
      refine f_no rfl rfl ?_
      refine f_no rfl rfl ?_
      refine f_no rfl rfl ?_
      refine f_no rfl rfl ?_
      refine f_no rfl rfl ?_
      refine f_no rfl rfl ?_
      refine f_op rfl rfl (s_pickT (v := .bool true) rfl rfl) ?_
      refine f_nil ?_
      refine f_keep [0, 1, 5, 74] ?_
      exact s16_j0 happ v1 v2 v3 true p6.2
    · skip
      refine o_know 57 rfl (dec_false h7) ?_
      refine f_op rfl rfl (s_mv (v := .int .i64 p6.1.2) rfl) ?_
      refine f_op rfl rfl (s_neq rfl rfl) ?_
      refine f_op rfl rfl (s_pickF (v := .bool (decide (p6.1.2 ≠ 0))) rfl rfl) ?_
      refine f_op rfl rfl (s_mv (v := .bool (decide (p6.1.2 ≠ 0))) rfl) ?_
      refine o_if (fun h8 => ?_) (fun h8 => ?_)
      · skip
        refine o_know 61 rfl (dec_true h8) ?_
        refine f_no rfl rfl ?_
        refine f_no rfl rfl ?_
        refine f_op rfl rfl (s_pickT (v := .bool true) rfl rfl) ?_
        refine f_op rfl rfl (s_mv (v := .bool true) rfl) ?_
        refine f_no rfl rfl ?_
        refine f_no rfl rfl ?_
        refine f_no rfl rfl ?_
        refine f_no rfl rfl ?_
        refine f_no rfl rfl ?_
        refine f_no rfl rfl ?_
        refine f_no rfl rfl ?_
        refine f_no rfl rfl ?_
        refine f_op rfl rfl (s_pickT (v := .bool true) rfl rfl) ?_
        refine f_nil ?_
        refine f_keep [0, 1, 5, 74] ?_
        exact s16_j0 happ v1 v2 v3 true p6.2
      · skip
        refine o_know 61 rfl (dec_false h8) ?_
        refine f_op rfl rfl (s_mv (v := .bool p6.1.1) rfl) ?_
        refine f_op rfl rfl (s_not rfl) ?_
        refine f_op rfl rfl (s_pickF (v := .bool (!p6.1.1)) rfl rfl) ?_
        refine f_op rfl rfl (s_mv (v := .bool (!p6.1.1)) rfl) ?_
        refine o_if (fun h9 => ?_) (fun h9 => ?_)
        · skip
          refine o_know 65 rfl (bool_notT h9) ?_
          refine f_op rfl rfl (s_mv (v := .sl v3) rfl) ?_
          refine f_op rfl rfl (s_lenS rfl Try.underlying58 rfl) ?_
          refine f_op rfl rfl (s_mv (v := .int .i64 v1) rfl) ?_
          refine f_op rfl rfl (s_mv (v := .int .i64 v1) rfl) ?_
          refine f_op rfl rfl (s_sub rfl rfl) ?_
          refine f_op rfl rfl (s_mul rfl rfl) ?_
          refine f_op rfl rfl (s_quo rfl rfl (by decide)) ?_
          refine f_op rfl rfl (s_neq rfl rfl) ?_
          refine f_op rfl rfl (s_pickF (v := .bool (decide ((v3.len : Int) ≠ (w64 (Int.tdiv (w64 (v1 * (w64 (v1 - 1)))) 6))))) rfl rfl) ?_
          refine f_nil ?_
          refine f_keep [0, 1, 5, 74] ?_
          exact s16_j0 happ v1 v2 v3 (decide ((v3.len : Int) ≠ (w64 (Int.tdiv (w64 (v1 * (w64 (v1 - 1)))) 6)))) p6.2
        · skip
          refine o_know 65 rfl (bool_notF h9) ?_
          refine f_no rfl rfl ?_
          refine f_no rfl rfl ?_
          refine f_no rfl rfl ?_
          refine f_no rfl rfl ?_
          refine f_no rfl rfl ?_
          refine f_no rfl rfl ?_
          refine f_no rfl rfl ?_
          refine f_no rfl rfl ?_
          refine f_op rfl rfl (s_pickT (v := .bool true) rfl rfl) ?_
          refine f_nil ?_
          refine f_keep [0, 1, 5, 74] ?_
          exact s16_j0 happ v1 v2 v3 true p6.2

theorem sim16 {app : App} (happ : AppSim Try.prog app) {a0 : Int} {a1 : Int} {H : Hp} {p : Bool × Hp} (h : r16 app a0 a1 H = some p) : CallSim Try.prog 16 [.int .i64 a0, .int .i64 a1] H (.bool p.1) p.2 := by
  refine callSim (fn := Try.f16) (ret := ret16) Try.func16 rfl Try.ntmps16 rfl ?_ h
  unfold r16
  refine f_seq ?_
  refine f_region ?_
  refine f_op rfl rfl (s_as (v := .bool false) rfl) ?_
  refine f_nil ?_
  refine f_seq ?_
  refine f_region ?_
  refine f_op rfl rfl (s_mv (v := .int .i64 a0) rfl) ?_
  refine f_op rfl rfl (s_convInt Try.underlying3 Try.underlying39 rfl) ?_
  refine f_op rfl rfl (s_rem rfl rfl (by decide)) ?_
  refine f_op rfl rfl (s_convInt Try.underlying39 Try.underlying3 rfl) ?_
  refine f_op rfl rfl (s_add rfl rfl) ?_
  refine f_op rfl rfl (s_as (v := .int .i64 (w64 (3 + (w64 (Int.tmod (IntKind.wrap .u64 (a0)) 7))))) rfl) ?_
  refine f_nil ?_
  refine f_seq ?_
  refine f_region ?_
  refine f_op rfl rfl (s_mv (v := .int .i64 (w64 (3 + (w64 (Int.tmod (IntKind.wrap .u64 (a0)) 7))))) rfl) ?_
  refine o_bind ?_; intro p1 hp1
  refine f_op rfl rfl (s_callF rfl ok56 (sim56 happ hp1)) ?_
  refine f_op rfl rfl (s_mv (v := .tup [.sl p1.1.1, .int .i64 p1.1.2]) rfl) ?_
  refine f_op rfl rfl (s_extract (r := .sl p1.1.1) rfl rfl) ?_
  refine f_op rfl rfl (s_extract (r := .int .i64 p1.1.2) rfl rfl) ?_
  refine f_op rfl rfl (s_as (v := .sl p1.1.1) rfl) ?_
  refine f_op rfl rfl (s_as (v := .int .i64 p1.1.2) rfl) ?_
  refine f_nil ?_
  refine f_seq ?_
  refine f_seq ?_
  refine f_region ?_
  refine f_op rfl rfl (s_mv (v := .int .i64 (w64 (3 + (w64 (Int.tmod (IntKind.wrap .u64 (a0)) 7))))) rfl) ?_
  refine f_op rfl rfl (s_neq rfl rfl) ?_
  refine f_op rfl rfl (s_mv (v := .bool (decide ((w64 (3 + (w64 (Int.tmod (IntKind.wrap .u64 (a0)) 7)))) ≠ 3))) rfl) ?_
  refine o_if (fun h2 => ?_) (fun h2 => ?_)
  · skip
    refine o_know 30 rfl (dec_true h2) ?_
    refine f_op rfl rfl (s_mv (v := .int .i64 (w64 (3 + (w64 (Int.tmod (IntKind.wrap .u64 (a0)) 7))))) rfl) ?_
    refine f_op rfl rfl (s_neq rfl rfl) ?_
    refine f_op rfl rfl (s_pickT (v := .bool (decide ((w64 (3 + (w64 (Int.tmod (IntKind.wrap .u64 (a0)) 7)))) ≠ 7))) rfl rfl) ?_
    refine f_op rfl rfl (s_mv (v := .bool (decide ((w64 (3 + (w64 (Int.tmod (IntKind.wrap .u64 (a0)) 7)))) ≠ 7))) rfl) ?_
    refine o_if (fun h3 => ?_) (fun h3 => ?_)
    · skip
      refine o_know 34 rfl (dec_true h3) ?_
      refine f_op rfl rfl (s_mv (v := .int .i64 (w64 (3 + (w64 (Int.tmod (IntKind.wrap .u64 (a0)) 7))))) rfl) ?_
      refine f_op rfl rfl (s_neq rfl rfl) ?_
      refine f_op rfl rfl (s_pickT (v := .bool (decide ((w64 (3 + (w64 (Int.tmod (IntKind.wrap .u64 (a0)) 7)))) ≠ 9))) rfl rfl) ?_
      refine f_nil ?_
      refine f_keep [0, 1, 5, 6, 37] ?_
      exact s16_j1 happ (w64 (3 + (w64 (Int.tmod (IntKind.wrap .u64 (a0)) 7)))) a1 p1.1.1 p1.1.2 (decide ((w64 (3 + (w64 (Int.tmod (IntKind.wrap .u64 (a0)) 7)))) ≠ 9)) p1.2
    · skip
      refine o_know 34 rfl (dec_false h3) ?_
      refine f_no rfl rfl ?_
      refine f_no rfl rfl ?_
      refine f_op rfl rfl (s_pickF (v := .bool false) rfl rfl) ?_
      refine f_nil ?_
      refine f_keep [0, 1, 5, 6, 37] ?_
      exact s16_j1 happ (w64 (3 + (w64 (Int.tmod (IntKind.wrap .u64 (a0)) 7)))) a1 p1.1.1 p1.1.2 false p1.2
  · skip
    refine o_know 30 rfl (dec_false h2) ?_
    refine f_no rfl rfl ?_
    refine f_no rfl rfl ?_
    refine f_op rfl rfl (s_pickF (v := .bool false) rfl rfl) ?_
    refine f_op rfl rfl (s_mv (v := .bool false) rfl) ?_
    refine f_no rfl rfl ?_
    refine f_no rfl rfl ?_
    refine f_op rfl rfl (s_pickF (v := .bool false) rfl rfl) ?_
    refine f_nil ?_
    refine f_keep [0, 1, 5, 6, 37] ?_
    exact s16_j1 happ (w64 (3 + (w64 (Int.tmod (IntKind.wrap .u64 (a0)) 7)))) a1 p1.1.1 p1.1.2 false p1.2

/- 36 slices.Clone[[]int,int] -/
theorem ok36 : FnOk Try.prog 36 := ⟨⟨Try.f36, Try.func36, by kernel_rfl, rfl⟩⟩
theorem sim36 {a0 : Sl} {H : Hp} {p : Sl × Hp} (h : r36 a0 H = some p) : CallSim Try.prog 36 [.sl a0] H (.sl p.1) p.2 := by
  refine callSim (fn := Try.f36) (ret := ret36) Try.func36 rfl Try.ntmps36 rfl ?_ h
  unfold r36
  refine f_seq ?_
  refine f_region ?_
  refine f_op rfl rfl (s_as (v := .sl ⟨true, 0, 0, 0, 0, 0⟩) rfl) ?_
  refine f_nil ?_
  refine f_seq ?_
  refine f_seq ?_
  refine f_region ?_
  refine f_op rfl rfl (s_mv (v := .sl a0) rfl) ?_
  refine f_op rfl rfl (s_eqNil Try.underlying22 rfl rfl) ?_
  refine f_nil ?_
  refine f_if (fun h1 => ?_) (fun h1 => ?_)
  · skip
    refine f_know 4 rfl (bool_T h1) ?_
    refine f_condT rfl ?_
    refine f_seq ?_
    refine f_region ?_
    refine f_op rfl rfl (s_as (v := .sl ⟨true, 0, 0, 0, 0, 0⟩) rfl) ?_
    refine f_nil ?_
    exact f_ret (.tmp rfl (.nil)) rfl
  · skip
    refine f_know 4 rfl (bool_F h1) ?_
    refine f_condF rfl ?_
    refine f_skip ?_
    refine f_seq ?_
    refine f_region ?_
    refine f_op rfl rfl (s_buildSlice0 Try.underlying22 ty3) ?_
    refine f_op rfl rfl (s_mv (v := .sl a0) rfl) ?_
    refine o_bind ?_; intro x2 hx2
    refine o_ck fun g3 => ?_
    refine o_bind ?_; intro x4 hx4
    refine f_op rfl rfl (s_append rfl rfl Try.underlying22 Try.underlying22 ty3 (by decide) rfl (by decide) rfl rfl hx2 g3 hx4) ?_
    refine f_op rfl rfl (s_as (v := .sl x4.1) rfl) ?_
    refine f_nil ?_
    exact f_ret (.tmp rfl (.nil)) rfl

/- 74 congou/pairs.First$1 -/
theorem ok74 : FnOk Try.prog 74 := ⟨⟨Try.f74, Try.func74, by kernel_rfl, rfl⟩⟩
theorem sim74 {a0 : Sl} {c0 : Nat} {H : Hp} {p : Bool × Hp} (h : r74 a0 c0 H = some p) : CallSim Try.prog 74 [.sl a0, .ptr c0 0] H (.bool p.1) p.2 := by
  refine callSim (fn := Try.f74) (ret := ret74) Try.func74 rfl Try.ntmps74 rfl ?_ h
  unfold r74
  refine f_seq ?_
  refine f_region ?_
  refine f_op rfl rfl (s_as (v := .bool false) rfl) ?_
  refine f_nil ?_
  refine f_seq ?_
  refine f_region ?_
  refine f_op rfl rfl (s_mv (v := .sl a0) rfl) ?_
  refine o_bind ?_; intro p1 hp1
  refine f_op rfl rfl (s_callF rfl ok36 (sim36 hp1)) ?_
  refine o_bind ?_; intro H2 hH2
  refine f_op rfl rfl (s_store (s := 1) ty22 rfl rfl rfl hH2) ?_
  refine f_nil ?_
  refine f_seq ?_
  refine f_region ?_
  refine f_op rfl rfl (s_as (v := .bool false) rfl) ?_
  refine f_nil ?_
  exact f_ret (.tmp rfl (.nil)) rfl

/- 94 congou/pairs.Threes$1 -/
theorem ok94 : FnOk Try.prog 94 := ⟨⟨Try.f94, Try.func94, by kernel_rfl, rfl⟩⟩
theorem s94_l0 {app : App} (happ : AppSim Try.prog app) : ∀ (k_ : Nat) (v1 : Nat) (v2 : Nat) (v3 : Nat) (v4 : Nat) (v5 : Nat) (v6 : Int) (H : Hp), Fin Try.prog Try.f94 ret94 52 (todoAt (bodyOf Try.f94) [1, 1, 1, 0, 1, 0, 0] []) [(0, .ptr v1 0), (1, .ptr v2 0), (2, .ptr v3 0), (3, .ptr v4 0), (5, .ptr v5 0), (7, .int .i64 v6)] H (r94_l0 app k_ v1 v2 v3 v4 v5 v6 H) := by
  intro k_
  induction k_ with
  | zero => intro _ _ _ _ _ _ _; exact f_none
  | succ k_ ih =>
    intro v1 v2 v3 v4 v5 v6 H
    rw [r94_l0]
    refine f_seq ?_
    refine f_seq ?_
    refine f_region ?_
    refine f_op rfl rfl (s_mv (v := .int .i64 v6) rfl) ?_
    refine o_bind ?_; intro x1 hx1
    refine f_op rfl rfl (s_load Try.underlying3 rfl rfl (ldI_eq hx1)) ?_
    refine f_op rfl rfl (s_lss rfl rfl) ?_
    refine f_nil ?_
    refine f_if (fun h2 => ?_) (fun h2 => ?_)
    · skip
      refine f_know 22 rfl (dec_true h2) ?_
      refine f_condT rfl ?_
      refine f_skip ?_
      refine f_seq ?_
      refine f_block ?_
      refine f_seq ?_
      refine f_region ?_
      refine f_op rfl rfl (s_idxA Try.underlying43 ty3 rfl rfl (by decide)) ?_
      refine o_bind ?_; intro x3 hx3
      refine f_op rfl rfl (s_load Try.underlying3 rfl rfl (ldI_eq hx3)) ?_
      refine f_op rfl rfl (s_idxA Try.underlying43 ty3 rfl rfl (by decide)) ?_
      refine o_bind ?_; intro x4 hx4
      refine f_op rfl rfl (s_load Try.underlying3 rfl rfl (ldI_eq hx4)) ?_
      refine f_op rfl rfl (s_mv (v := .int .i64 v6) rfl) ?_
      refine f_op rfl rfl (s_buildA (cs := [.int .i64 x3, .int .i64 x4, .int .i64 v6]) Try.underlying63 ty63 ty3 rfl rfl) ?_
      refine f_op rfl rfl (s_alloc (zs := [.int .i64 0, .int .i64 0, .int .i64 0]) ty63 rfl rfl) ?_
      refine o_bind ?_; intro H5 hH5
      refine f_op rfl rfl (s_stores ty63 rfl rfl rfl rfl hH5 (Nat.le_of_eq (sts_mono hH5).symm)) ?_
      refine f_nil ?_
      refine f_seq ?_
      refine f_seq ?_
      refine f_region ?_
      refine o_bind ?_; intro x6 hx6
      refine f_op rfl rfl (s_load Try.underlying100 rfl rfl (ldM_eq hx6)) ?_
      refine o_bind ?_; intro x7 hx7
      refine o_bind ?_; intro x8 hx8
      refine o_bind ?_; intro x9 hx9
      refine f_op rfl rfl (s_loads Try.underlying63 rfl ty63 rfl (lds_cons (ldI_eq hx7) (lds_cons (ldI_eq hx8) (lds_cons (ldI_eq hx9) (lds_nil))))) ?_
      refine o_bind ?_; intro p10 hp10
      refine f_op rfl rfl (s_callF rfl ok96 (sim96 happ hp10)) ?_
      refine f_op rfl rfl (s_not rfl) ?_
      refine f_nil ?_
      refine f_if (fun h11 => ?_) (fun h11 => ?_)
      · skip
        refine f_know 34 rfl (bool_notT h11) ?_
        refine f_condF rfl ?_
        refine f_skip ?_
        refine f_seq ?_
        refine f_region ?_
        refine o_bind ?_; intro x12 hx12
        refine f_op rfl rfl (s_load Try.underlying100 rfl rfl (ldM_eq hx12)) ?_
        refine o_bind ?_; intro x13 hx13
        refine o_bind ?_; intro x14 hx14
        refine o_bind ?_; intro x15 hx15
        refine f_op rfl rfl (s_loads Try.underlying63 rfl ty63 rfl (lds_cons (ldI_eq hx13) (lds_cons (ldI_eq hx14) (lds_cons (ldI_eq hx15) (lds_nil))))) ?_
        refine o_bind ?_; intro p16 hp16
        refine f_op rfl rfl (s_callF rfl ok97 (sim97 hp16)) ?_
        refine f_nil ?_
        refine f_seq ?_
        refine f_region ?_
        refine o_bind ?_; intro x17 hx17
        refine f_op rfl rfl (s_load Try.underlying58 rfl rfl (ldSl_eq hx17)) ?_
        refine o_bind ?_; intro x18 hx18
        refine o_bind ?_; intro x19 hx19
        refine o_bind ?_; intro x20 hx20
        refine f_op rfl rfl (s_loads Try.underlying63 rfl ty63 rfl (lds_cons (ldI_eq hx18) (lds_cons (ldI_eq hx19) (lds_cons (ldI_eq hx20) (lds_nil))))) ?_
        refine f_op rfl rfl (s_buildSlice (cs := [.int .i64 x18, .int .i64 x19, .int .i64 x20]) Try.underlying58 ty63 (by decide) (by decide) rfl (by decide) rfl) ?_
        refine o_bind ?_; intro x21 hx21
        refine f_op rfl rfl (s_ap rfl rfl Try.underlying58 Try.underlying58 ty63 rfl rfl rfl rfl rfl rfl rfl hx21) ?_
        refine o_bind ?_; intro H22 hH22
        refine f_op rfl rfl (s_store (s := 1) ty58 rfl rfl rfl hH22) ?_
        refine f_nil ?_
        refine f_seq ?_
        refine f_seq ?_
        refine f_region ?_
        refine o_bind ?_; intro x23 hx23
        refine f_op rfl rfl (s_load Try.underlying29 rfl rfl (ldV_eq hx23)) ?_
        refine o_bind ?_; intro p24 hp24
        refine o_bind ?_; intro x25 hx25
        refine f_op rfl rfl (s_callv happ rfl rfl hp24) ?_
        refine o_know 43 rfl (asB_eq hx25) ?_
        refine f_nil ?_
        refine f_if (fun h26 => ?_) (fun h26 => ?_)
        · skip
          refine f_know 43 rfl (bool_T h26) ?_
          refine f_condT rfl ?_
          refine f_seq ?_
          refine f_region ?_
          refine f_op rfl rfl (s_as (v := .bool true) rfl) ?_
          refine f_nil ?_
          exact f_ret (.tmp rfl (.nil)) rfl
        · skip
          refine f_know 43 rfl (bool_F h26) ?_
          refine f_condF rfl ?_
          refine f_skip ?_
          refine f_seq ?_
          refine f_region ?_
          refine o_bind ?_; intro x27 hx27
          refine f_op rfl rfl (s_load Try.underlying100 rfl rfl (ldM_eq hx27)) ?_
          refine o_bind ?_; intro x28 hx28
          refine o_bind ?_; intro x29 hx29
          refine o_bind ?_; intro x30 hx30
          refine f_op rfl rfl (s_loads Try.underlying63 rfl ty63 rfl (lds_cons (ldI_eq hx28) (lds_cons (ldI_eq hx29) (lds_cons (ldI_eq hx30) (lds_nil))))) ?_
          refine o_bind ?_; intro p31 hp31
          refine f_op rfl rfl (s_callF rfl ok97 (sim97 hp31)) ?_
          refine f_nil ?_
          refine f_region ?_
          refine o_bind ?_; intro x32 hx32
          refine f_op rfl rfl (s_load Try.underlying58 rfl rfl (ldSl_eq hx32)) ?_
          refine o_bind ?_; intro x33 hx33
          refine f_op rfl rfl (s_load Try.underlying58 rfl rfl (ldSl_eq hx33)) ?_
          refine f_op rfl rfl (s_lenS rfl Try.underlying58 rfl) ?_
          refine f_op rfl rfl (s_sub rfl rfl) ?_
          refine o_ck fun g34 => ?_
          refine f_op rfl rfl (s_slice Try.underlying58 ty63 rfl rfl rfl g34.1 g34.2) ?_
          refine o_bind ?_; intro H35 hH35
          refine f_op rfl rfl (s_store (s := 1) ty58 rfl rfl rfl hH35) ?_
          refine f_nil ?_
          refine f_inBlock ?_
          refine f_region ?_
          refine f_op rfl rfl (s_mv (v := .int .i64 v6) rfl) ?_
          refine f_op rfl rfl (s_add rfl rfl) ?_
          refine f_op rfl rfl (s_as (v := .int .i64 (w64 (v6 + 1))) rfl) ?_
          refine f_nil ?_
          refine f_inLoop ?_
          refine f_keep [0, 1, 2, 3, 5, 7] ?_
          exact ih v1 v2 v3 v4 v5 (w64 (v6 + 1)) H35
      · skip
        refine f_know 34 rfl (bool_notF h11) ?_
        refine f_condT rfl ?_
        refine f_exit rfl ?_
        refine f_region ?_
        refine f_op rfl rfl (s_mv (v := .int .i64 v6) rfl) ?_
        refine f_op rfl rfl (s_add rfl rfl) ?_
        refine f_op rfl rfl (s_as (v := .int .i64 (w64 (v6 + 1))) rfl) ?_
        refine f_nil ?_
        refine f_inLoop ?_
        refine f_keep [0, 1, 2, 3, 5, 7] ?_
        exact ih v1 v2 v3 v4 v5 (w64 (v6 + 1)) p10.2
    · skip
      refine f_know 22 rfl (dec_false h2) ?_
      refine f_condF rfl ?_
      refine f_exit rfl ?_
      refine f_seq ?_
      refine f_region ?_
      refine f_op rfl rfl (s_as (v := .bool false) rfl) ?_
      refine f_nil ?_
      exact f_ret (.tmp rfl (.nil)) rfl

theorem sim94 {app : App} (happ : AppSim Try.prog app) {c0 : Nat} {c1 : Nat} {c2 : Nat} {c3 : Nat} {H : Hp} {p : Bool × Hp} (h : r94 app c0 c1 c2 c3 H = some p) : CallSim Try.prog 94 [.ptr c0 0, .ptr c1 0, .ptr c2 0, .ptr c3 0] H (.bool p.1) p.2 := by
  refine callSim (fn := Try.f94) (ret := ret94) Try.func94 rfl Try.ntmps94 rfl ?_ h
  unfold r94
  refine f_seq ?_
  refine f_region ?_
  refine f_op rfl rfl (s_as (v := .bool false) rfl) ?_
  refine f_nil ?_
  refine f_seq ?_
  refine f_region ?_
  refine o_bind ?_; intro x1 hx1
  refine f_op rfl rfl (s_load Try.underlying100 rfl rfl (ldM_eq hx1)) ?_
  refine o_bind ?_; intro x2 hx2
  refine f_op rfl rfl (s_load Try.underlying3 rfl rfl (ldI_eq hx2)) ?_
  refine o_bind ?_; intro p3 hp3
  refine f_op rfl rfl (s_callF rfl ok95 (sim95 hp3)) ?_
  refine f_op rfl rfl (s_mv (v := .tup [.agg [.int .i64 p3.1.1, .int .i64 p3.1.2.1], .bool p3.1.2.2]) rfl) ?_
  refine f_op rfl rfl (s_extract (r := .agg [.int .i64 p3.1.1, .int .i64 p3.1.2.1]) rfl rfl) ?_
  refine f_op rfl rfl (s_extract (r := .bool p3.1.2.2) rfl rfl) ?_
  refine f_op rfl rfl (s_alloc (zs := [.int .i64 0, .int .i64 0]) ty43 rfl rfl) ?_
  refine o_bind ?_; intro H4 hH4
  refine f_op rfl rfl (s_stores ty43 rfl rfl rfl rfl hH4 (Nat.le_of_eq (sts_mono hH4).symm)) ?_
  refine f_op rfl rfl (s_as (v := .bool p3.1.2.2) rfl) ?_
  refine f_nil ?_
  refine f_seq ?_
  refine f_seq ?_
  refine f_region ?_
  refine f_op rfl rfl (s_mv (v := .bool p3.1.2.2) rfl) ?_
  refine f_op rfl rfl (s_not rfl) ?_
  refine f_nil ?_
  refine f_if (fun h5 => ?_) (fun h5 => ?_)
  · skip
    refine f_know 16 rfl (bool_notT h5) ?_
    refine f_condF rfl ?_
    refine f_skip ?_
    refine f_seq ?_
    refine f_seq ?_
    refine f_region ?_
    refine f_op rfl rfl (s_idxA Try.underlying43 ty3 rfl rfl (by decide)) ?_
    refine o_bind ?_; intro x6 hx6
    refine f_op rfl rfl (s_load Try.underlying3 rfl rfl (ldI_eq hx6)) ?_
    refine f_op rfl rfl (s_add rfl rfl) ?_
    refine f_op rfl rfl (s_as (v := .int .i64 (w64 (x6 + 1))) rfl) ?_
    refine f_nil ?_
    refine f_block ?_
    refine f_loop ?_
    refine f_keep [0, 1, 2, 3, 5, 7] ?_
    exact s94_l0 happ FUEL c0 c1 c2 c3 p3.2.n (w64 (x6 + 1)) H4
  · skip
    refine f_know 16 rfl (bool_notF h5) ?_
    refine f_condT rfl ?_
    refine f_seq ?_
    refine f_region ?_
    refine f_op rfl rfl (s_as (v := .bool true) rfl) ?_
    refine f_nil ?_
    exact f_ret (.tmp rfl (.nil)) rfl

/- 108 slices.Index[[]int,int] -/
theorem ok108 : FnOk Try.prog 108 := ⟨⟨Try.f108, Try.func108, by kernel_rfl, rfl⟩⟩
theorem s108_l0 : ∀ (k_ : Nat) (v1 : Sl) (v2 : Int) (v3 : Int) (v4 : Int) (H : Hp), Fin Try.prog Try.f108 ret108 19 (todoAt (bodyOf Try.f108) [1, 0, 1, 0, 0] []) [(0, .sl v1), (1, .int .i64 v2), (7, .int .i64 v3), (8, .int .i64 v4)] H (r108_l0 k_ v1 v2 v3 v4 H) := by
  intro k_
  induction k_ with
  | zero => intro _ _ _ _ _; exact f_none
  | succ k_ ih =>
    intro v1 v2 v3 v4 H
    rw [r108_l0]
    refine f_seq ?_
    refine f_region ?_
    refine f_op rfl rfl (s_lss rfl rfl) ?_
    refine f_nil ?_
    refine f_seq ?_
    refine f_if (fun h1 => ?_) (fun h1 => ?_)
    · skip
      refine f_know 9 rfl (dec_true h1) ?_
      refine f_condT rfl ?_
      refine f_skip ?_
      refine f_seq ?_
      refine f_block ?_
      refine f_seq ?_
      refine f_region ?_
      refine f_op rfl rfl (s_mv (v := .int .i64 v4) rfl) ?_
      refine f_op rfl rfl (s_as (v := .int .i64 v4) rfl) ?_
      refine f_nil ?_
      refine f_seq ?_
      refine f_region ?_
      refine f_op rfl rfl (s_mv (v := .int .i64 v2) rfl) ?_
      refine f_op rfl rfl (s_mv (v := .sl v1) rfl) ?_
      refine f_op rfl rfl (s_mv (v := .int .i64 v4) rfl) ?_
      refine o_ck fun g2 => ?_
      refine f_op rfl rfl (s_idx Try.underlying22 ty3 rfl rfl g2) ?_
      refine o_bind ?_; intro x3 hx3
      refine f_op rfl rfl (s_load Try.underlying3 rfl rfl (ldI_eq hx3)) ?_
      refine f_op rfl rfl (s_eql rfl rfl) ?_
      refine f_nil ?_
      refine f_if (fun h4 => ?_) (fun h4 => ?_)
      · skip
        refine f_know 16 rfl (dec_true h4) ?_
        refine f_condT rfl ?_
        refine f_seq ?_
        refine f_region ?_
        refine f_op rfl rfl (s_mv (v := .int .i64 v4) rfl) ?_
        refine f_op rfl rfl (s_as (v := .int .i64 v4) rfl) ?_
        refine f_nil ?_
        exact f_ret (.tmp rfl (.nil)) rfl
      · skip
        refine f_know 16 rfl (dec_false h4) ?_
        refine f_condF rfl ?_
        refine f_skip ?_
        refine f_inBlock ?_
        refine f_region ?_
        refine f_op rfl rfl (s_add rfl rfl) ?_
        refine f_op rfl rfl (s_mv (v := .int .i64 (w64 (v4 + 1))) rfl) ?_
        refine f_nil ?_
        refine f_inLoop ?_
        refine f_keep [0, 1, 7, 8] ?_
        exact ih v1 v2 v3 (w64 (v4 + 1)) H
    · skip
      refine f_know 9 rfl (dec_false h1) ?_
      refine f_condF rfl ?_
      refine f_exit rfl ?_
      refine f_seq ?_
      refine f_region ?_
      refine f_op rfl rfl (s_as (v := .int .i64 (-1)) rfl) ?_
      refine f_nil ?_
      exact f_ret (.tmp rfl (.nil)) rfl

theorem sim108 {a0 : Sl} {a1 : Int} {H : Hp} {p : Int × Hp} (h : r108 a0 a1 H = some p) : CallSim Try.prog 108 [.sl a0, .int .i64 a1] H (.int .i64 p.1) p.2 := by
  refine callSim (fn := Try.f108) (ret := ret108) Try.func108 rfl Try.ntmps108 rfl ?_ h
  unfold r108
  refine f_seq ?_
  refine f_region ?_
  refine f_op rfl rfl (s_as (v := .int .i64 0) rfl) ?_
  refine f_nil ?_
  refine f_seq ?_
  refine f_seq ?_
  refine f_region ?_
  refine f_op rfl rfl (s_mv (v := .sl a0) rfl) ?_
  refine f_op rfl rfl (s_lenS rfl Try.underlying22 rfl) ?_
  refine f_op rfl rfl (s_mv (v := .int .i64 0) rfl) ?_
  refine f_nil ?_
  refine f_block ?_
  refine f_loop ?_
  refine f_keep [0, 1, 7, 8] ?_
  exact s108_l0 FUEL a0 a1 (a0.len : Int) 0 H

/- 107 congou/pairs.rows$1 -/
theorem ok107 : FnOk Try.prog 107 := ⟨⟨Try.f107, Try.func107, by kernel_rfl, rfl⟩⟩
theorem s107_j1 {app : App} (happ : AppSim Try.prog app) (kt0 : Int → Nat → Nat → Nat → Nat → Int → Int → Hp → Option (Bool × Hp)) (hkt0 : ∀ (v1 : Int) (v2 : Nat) (v3 : Nat) (v4 : Nat) (v5 : Nat) (v6 : Int) (v7 : Int) (H : Hp), Fin Try.prog Try.f107 ret107 70 (todoAt (bodyOf Try.f107) [1, 1, 1, 0, 1, 0, 0] []) [(0, .int .i64 v1), (1, .ptr v2 0), (3, .ptr v3 0), (4, .ptr v4 0), (5, .ptr v5 0), (8, .int .i64 v6), (9, .int .i64 v7)] H (kt0 v1 v2 v3 v4 v5 v6 v7 H)) (v1 : Int) (v2 : Nat) (v3 : Nat) (v4 : Nat) (v5 : Nat) (v6 : Int) (v7 : Int) (v8 : Int) (v9 : Bool) (H : Hp) : Fin Try.prog Try.f107 ret107 70 (todoAt (bodyOf Try.f107) [1, 1, 1, 0, 1, 0, 0, 1, 0, 0, 1, 0, 1] []) [(0, .int .i64 v1), (1, .ptr v2 0), (3, .ptr v3 0), (4, .ptr v4 0), (5, .ptr v5 0), (8, .int .i64 v6), (9, .int .i64 v7), (10, .int .i64 v8), (47, .bool v9)] H (r107_j1 app kt0 v1 v2 v3 v4 v5 v6 v7 v8 v9 H) := by
  unfold r107_j1
  refine f_if (fun h1 => ?_) (fun h1 => ?_)
  · skip
    refine f_know 47 rfl (bool_T h1) ?_
    refine f_condT rfl ?_
    refine f_exit rfl ?_
    refine f_region ?_
    refine f_op rfl rfl (s_mv (v := .int .i64 v7) rfl) ?_
    refine f_op rfl rfl (s_add rfl rfl) ?_
    refine f_op rfl rfl (s_as (v := .int .i64 (w64 (v7 + 1))) rfl) ?_
    refine f_nil ?_
    refine f_inLoop ?_
    refine f_keep [0, 1, 3, 4, 5, 8, 9] ?_
    exact hkt0 v1 v2 v3 v4 v5 v6 (w64 (v7 + 1)) H
  · skip
    refine f_know 47 rfl (bool_F h1) ?_
    refine f_condF rfl ?_
    refine f_skip ?_
    refine f_seq ?_
    refine f_bind ?_; intro x2 hx2
    refine f_bind ?_; intro x3 hx3
    refine f_ck fun g4 => ?_
    refine f_bind ?_; intro H5 hH5
    refine f_ck fun g6 => ?_
    refine f_bind ?_; intro H7 hH7
    refine f_ck fun g8 => ?_
    refine f_ck fun g9 => ?_
    refine f_draw (Φ := fun H_ => H_.ld v2 0 = some (.sl x3)) [1, 0, 0, 0, 0, 0, 0, 2, 0, 2] (Trc.read rfl rfl rfl (s_load Try.underlying22 rfl rfl (ldSl_eq hx2)) (Trc.pure rfl rfl rfl (fun _ _ => s_mv (v := .int .i64 v6) rfl) (Trc.pure rfl rfl rfl (fun _ hp_ => s_load Try.underlying22 rfl rfl hp_) (Trc.pure rfl rfl rfl (fun _ _ => s_mv (v := .int .i64 v8) rfl) (Trc.pure rfl rfl rfl (fun _ _ => s_mv (v := .int .i64 v7) rfl) (Trc.pure rfl rfl rfl (fun _ _ => s_mv (v := .int .i64 v7) rfl) (Trc.pure rfl rfl rfl (fun _ _ => s_idx Try.underlying22 ty3 rfl rfl g4) (Trc.eff rfl rfl rfl (ldSl_eq hx3) (s_store (s := 1) ty3 rfl rfl rfl hH5) (Trc.pure rfl rfl rfl (fun _ _ => s_idx Try.underlying22 ty3 rfl rfl g6) (Trc.eff rfl rfl rfl (ldSl_eq g8) (s_store (s := 1) ty3 rfl rfl rfl hH7) (Trc.nil (ldSl_eq g9)))))))))))) rfl (by decide +kernel) mixed ?_
    refine f_seq ?_
    refine f_bind ?_; intro x10 hx10
    refine f_ck fun g11 => ?_
    refine f_bind ?_; intro p12 hp12
    refine f_bind ?_; intro x13 hx13
    refine f_draw (Φ := fun _ => True) [1, 0, 0, 0, 0, 2, 0] (Trc.read rfl rfl rfl (s_load Try.underlying37 rfl rfl (ldV_eq hx10)) (Trc.pure rfl rfl rfl (fun _ _ => s_mv (v := .int .i64 v1) rfl) (Trc.pure rfl rfl rfl (fun _ _ => s_mv (v := .int .i64 v7) rfl) (Trc.pure rfl rfl rfl (fun _ _ => s_shl rfl rfl g11) (Trc.pure rfl rfl rfl (fun _ _ => s_or rfl rfl) (Trc.eff rfl rfl rfl (trivial) (s_callv happ rfl rfl hp12) (Trc.know 61 rfl (asB_eq hx13) (Trc.pure rfl rfl rfl (fun _ _ => s_as (v := .bool x13) rfl) (Trc.nil (trivial)))))))))) rfl (by decide +kernel) mixed ?_
    refine f_seq ?_
    refine f_bind ?_; intro x14 hx14
    refine f_bind ?_; intro x15 hx15
    refine f_ck fun g16 => ?_
    refine f_bind ?_; intro H17 hH17
    refine f_ck fun g18 => ?_
    refine f_bind ?_; intro H19 hH19
    refine f_ck fun g20 => ?_
    refine f_ck fun g21 => ?_
    refine f_draw (Φ := fun H_ => H_.ld v2 0 = some (.sl x15)) [1, 0, 0, 0, 0, 2, 0, 2] (Trc.read rfl rfl rfl (s_load Try.underlying22 rfl rfl (ldSl_eq hx14)) (Trc.pure rfl rfl rfl (fun _ _ => s_mv (v := .int .i64 v6) rfl) (Trc.pure rfl rfl rfl (fun _ hp_ => s_load Try.underlying22 rfl rfl hp_) (Trc.pure rfl rfl rfl (fun _ _ => s_mv (v := .int .i64 v8) rfl) (Trc.pure rfl rfl rfl (fun _ _ => s_idx Try.underlying22 ty3 rfl rfl g16) (Trc.eff rfl rfl rfl (ldSl_eq hx15) (s_store (s := 1) ty3 rfl rfl rfl hH17) (Trc.pure rfl rfl rfl (fun _ _ => s_idx Try.underlying22 ty3 rfl rfl g18) (Trc.eff rfl rfl rfl (ldSl_eq g20) (s_store (s := 1) ty3 rfl rfl rfl hH19) (Trc.nil (ldSl_eq g21)))))))))) rfl (by decide +kernel) mixed ?_
    refine f_seq ?_
    refine f_region ?_
    refine f_op rfl rfl (s_mv (v := .bool x13) rfl) ?_
    refine f_op rfl rfl (s_not rfl) ?_
    refine f_nil ?_
    refine f_if (fun h22 => ?_) (fun h22 => ?_)
    · skip
      refine f_know 69 rfl (bool_notT h22) ?_
      refine f_condF rfl ?_
      refine f_skip ?_
      refine f_inBlock ?_
      refine f_region ?_
      refine f_op rfl rfl (s_mv (v := .int .i64 v7) rfl) ?_
      refine f_op rfl rfl (s_add rfl rfl) ?_
      refine f_op rfl rfl (s_as (v := .int .i64 (w64 (v7 + 1))) rfl) ?_
      refine f_nil ?_
      refine f_inLoop ?_
      refine f_keep [0, 1, 3, 4, 5, 8, 9] ?_
      exact hkt0 v1 v2 v3 v4 v5 v6 (w64 (v7 + 1)) H19
    · skip
      refine f_know 69 rfl (bool_notF h22) ?_
      refine f_condT rfl ?_
      refine f_seq ?_
      refine f_region ?_
      refine f_op rfl rfl (s_as (v := .bool false) rfl) ?_
      refine f_nil ?_
      exact f_ret (.tmp rfl (.nil)) rfl

theorem s107_l0 {app : App} (happ : AppSim Try.prog app) : ∀ (k_ : Nat) (v1 : Int) (v2 : Nat) (v3 : Nat) (v4 : Nat) (v5 : Nat) (v6 : Int) (v7 : Int) (H : Hp), Fin Try.prog Try.f107 ret107 70 (todoAt (bodyOf Try.f107) [1, 1, 1, 0, 1, 0, 0] []) [(0, .int .i64 v1), (1, .ptr v2 0), (3, .ptr v3 0), (4, .ptr v4 0), (5, .ptr v5 0), (8, .int .i64 v6), (9, .int .i64 v7)] H (r107_l0 app k_ v1 v2 v3 v4 v5 v6 v7 H) := by
  intro k_
  induction k_ with
  | zero => intro _ _ _ _ _ _ _ _; exact f_none
  | succ k_ ih =>
    intro v1 v2 v3 v4 v5 v6 v7 H
    rw [r107_l0]
    refine f_seq ?_
    refine f_seq ?_
    refine f_region ?_
    refine f_op rfl rfl (s_mv (v := .int .i64 v7) rfl) ?_
    refine o_bind ?_; intro x1 hx1
    refine f_op rfl rfl (s_load Try.underlying3 rfl rfl (ldI_eq hx1)) ?_
    refine f_op rfl rfl (s_leq rfl rfl) ?_
    refine f_nil ?_
    refine f_if (fun h2 => ?_) (fun h2 => ?_)
    · skip
      refine f_know 21 rfl (dec_true h2) ?_
      refine f_condT rfl ?_
      refine f_skip ?_
      refine f_seq ?_
      refine f_block ?_
      refine f_seq ?_
      refine f_region ?_
      refine f_op rfl rfl (s_mv (v := .int .i64 v6) rfl) ?_
      refine f_op rfl rfl (s_mv (v := .int .i64 v7) rfl) ?_
      refine f_op rfl rfl (s_add rfl rfl) ?_
      refine o_bind ?_; intro x3 hx3
      refine f_op rfl rfl (s_load Try.underlying3 rfl rfl (ldI_eq hx3)) ?_
      refine f_op rfl rfl (s_add rfl rfl) ?_
      refine f_op rfl rfl (s_sub rfl rfl) ?_
      refine f_op rfl rfl (s_as (v := .int .i64 (w64 ((w64 ((w64 (v6 + v7)) + x3)) - 1))) rfl) ?_
      refine f_nil ?_
      refine f_seq ?_
      refine f_seq ?_
      refine f_region ?_
      refine f_op rfl rfl (s_mv (v := .int .i64 v1) rfl) ?_
      refine f_op rfl rfl (s_mv (v := .int .i64 v7) rfl) ?_
      refine o_ck fun g4 => ?_
      refine f_op rfl rfl (s_shr rfl rfl g4) ?_
      refine f_op rfl rfl (s_and rfl rfl) ?_
      refine f_op rfl rfl (s_eql rfl rfl) ?_
      refine f_op rfl rfl (s_mv (v := .bool (decide ((bitsOf .and .i64 (shrOf .i64 v1 v7) 1) = 1))) rfl) ?_
      refine o_if (fun h5 => ?_) (fun h5 => ?_)
      · skip
        refine o_know 35 rfl (dec_true h5) ?_
        refine f_no rfl rfl ?_
        refine f_no rfl rfl ?_
        refine f_no rfl rfl ?_
        refine f_no rfl rfl ?_
        refine f_op rfl rfl (s_pickT (v := .bool true) rfl rfl) ?_
        refine f_op rfl rfl (s_mv (v := .bool true) rfl) ?_
        refine f_no rfl rfl ?_
        refine f_no rfl rfl ?_
        refine f_no rfl rfl ?_
        refine f_no rfl rfl ?_
        refine f_no rfl rfl ?_
        refine f_op rfl rfl (s_pickT (v := .bool true) rfl rfl) ?_
        refine f_nil ?_
        refine f_keep [0, 1, 3, 4, 5, 8, 9, 10, 47] ?_
        exact s107_j1 happ _ (fun v1_ v2_ v3_ v4_ v5_ v6_ v7_ H_ => ih v1_ v2_ v3_ v4_ v5_ v6_ v7_ H_) v1 v2 v3 v4 v5 v6 v7 (w64 ((w64 ((w64 (v6 + v7)) + x3)) - 1)) true H
      · skip
        refine o_know 35 rfl (dec_false h5) ?_
        refine f_op rfl rfl (s_mv (v := .int .i64 (w64 ((w64 ((w64 (v6 + v7)) + x3)) - 1))) rfl) ?_
        refine o_bind ?_; intro x6 hx6
        refine f_op rfl rfl (s_load Try.underlying22 rfl rfl (ldSl_eq hx6)) ?_
        refine f_op rfl rfl (s_lenS rfl Try.underlying22 rfl) ?_
        refine f_op rfl rfl (s_geq rfl rfl) ?_
        refine f_op rfl rfl (s_pickF (v := .bool (decide ((x6.len : Int) ≤ (w64 ((w64 ((w64 (v6 + v7)) + x3)) - 1))))) rfl rfl) ?_
        refine f_op rfl rfl (s_mv (v := .bool (decide ((x6.len : Int) ≤ (w64 ((w64 ((w64 (v6 + v7)) + x3)) - 1))))) rfl) ?_
        refine o_if (fun h7 => ?_) (fun h7 => ?_)
        · skip
          refine o_know 41 rfl (dec_true h7) ?_
          refine f_no rfl rfl ?_
          refine f_no rfl rfl ?_
          refine f_no rfl rfl ?_
          refine f_no rfl rfl ?_
          refine f_no rfl rfl ?_
          refine f_op rfl rfl (s_pickT (v := .bool true) rfl rfl) ?_
          refine f_nil ?_
          refine f_keep [0, 1, 3, 4, 5, 8, 9, 10, 47] ?_
          exact s107_j1 happ _ (fun v1_ v2_ v3_ v4_ v5_ v6_ v7_ H_ => ih v1_ v2_ v3_ v4_ v5_ v6_ v7_ H_) v1 v2 v3 v4 v5 v6 v7 (w64 ((w64 ((w64 (v6 + v7)) + x3)) - 1)) true H
        · skip
          refine o_know 41 rfl (dec_false h7) ?_
          refine o_bind ?_; intro x8 hx8
          refine f_op rfl rfl (s_load Try.underlying22 rfl rfl (ldSl_eq hx8)) ?_
          refine f_op rfl rfl (s_mv (v := .int .i64 (w64 ((w64 ((w64 (v6 + v7)) + x3)) - 1))) rfl) ?_
          refine o_ck fun g9 => ?_
          refine f_op rfl rfl (s_idx Try.underlying22 ty3 rfl rfl g9) ?_
          refine o_bind ?_; intro x10 hx10
          refine f_op rfl rfl (s_load Try.underlying3 rfl rfl (ldI_eq hx10)) ?_
          refine f_op rfl rfl (s_neq rfl rfl) ?_
          refine f_op rfl rfl (s_pickF (v := .bool (decide (x10 ≠ 0))) rfl rfl) ?_
          refine f_nil ?_
          refine f_keep [0, 1, 3, 4, 5, 8, 9, 10, 47] ?_
          exact s107_j1 happ _ (fun v1_ v2_ v3_ v4_ v5_ v6_ v7_ H_ => ih v1_ v2_ v3_ v4_ v5_ v6_ v7_ H_) v1 v2 v3 v4 v5 v6 v7 (w64 ((w64 ((w64 (v6 + v7)) + x3)) - 1)) (decide (x10 ≠ 0)) H
    · skip
      refine f_know 21 rfl (dec_false h2) ?_
      refine f_condF rfl ?_
      refine f_exit rfl ?_
      refine f_seq ?_
      refine f_region ?_
      refine f_op rfl rfl (s_as (v := .bool true) rfl) ?_
      refine f_nil ?_
      exact f_ret (.tmp rfl (.nil)) rfl

theorem sim107 {app : App} (happ : AppSim Try.prog app) {a0 : Int} {c0 : Nat} {c1 : Nat} {c2 : Nat} {c3 : Nat} {c4 : Nat} {H : Hp} {p : Bool × Hp} (h : r107 app a0 c0 c1 c2 c3 c4 H = some p) : CallSim Try.prog 107 [.int .i64 a0, .ptr c0 0, .ptr c1 0, .ptr c2 0, .ptr c3 0, .ptr c4 0] H (.bool p.1) p.2 := by
  refine callSim (fn := Try.f107) (ret := ret107) Try.func107 rfl Try.ntmps107 rfl ?_ h
  unfold r107
  refine f_seq ?_
  refine f_region ?_
  refine f_op rfl rfl (s_as (v := .bool false) rfl) ?_
  refine f_nil ?_
  refine f_seq ?_
  refine f_region ?_
  refine o_bind ?_; intro x1 hx1
  refine f_op rfl rfl (s_load Try.underlying22 rfl rfl (ldSl_eq hx1)) ?_
  refine o_bind ?_; intro p2 hp2
  refine f_op rfl rfl (s_callF rfl ok108 (sim108 hp2)) ?_
  refine f_op rfl rfl (s_as (v := .int .i64 p2.1) rfl) ?_
  refine f_nil ?_
  refine f_seq ?_
  refine f_seq ?_
  refine f_region ?_
  refine f_op rfl rfl (s_mv (v := .int .i64 p2.1) rfl) ?_
  refine f_op rfl rfl (s_lss rfl rfl) ?_
  refine f_nil ?_
  refine f_if (fun h3 => ?_) (fun h3 => ?_)
  · skip
    refine f_know 15 rfl (dec_true h3) ?_
    refine f_condT rfl ?_
    refine f_seq ?_
    refine f_region ?_
    refine o_bind ?_; intro x4 hx4
    refine f_op rfl rfl (s_load Try.underlying44 rfl rfl (ldV_eq hx4)) ?_
    refine o_bind ?_; intro x5 hx5
    refine f_op rfl rfl (s_load Try.underlying22 rfl rfl (ldSl_eq hx5)) ?_
    refine o_bind ?_; intro p6 hp6
    refine o_bind ?_; intro x7 hx7
    refine f_op rfl rfl (s_callv happ rfl rfl hp6) ?_
    refine o_know 18 rfl (asB_eq hx7) ?_
    refine f_op rfl rfl (s_as (v := .bool x7) rfl) ?_
    refine f_nil ?_
    exact f_ret (.tmp rfl (.nil)) rfl
  · skip
    refine f_know 15 rfl (dec_false h3) ?_
    refine f_condF rfl ?_
    refine f_skip ?_
    refine f_seq ?_
    refine f_seq ?_
    refine f_region ?_
    refine f_op rfl rfl (s_as (v := .int .i64 1) rfl) ?_
    refine f_nil ?_
    refine f_block ?_
    refine f_loop ?_
    refine f_keep [0, 1, 3, 4, 5, 8, 9] ?_
    exact s107_l0 happ FUEL a0 c0 c2 c3 c4 p2.1 1 p2.2

/- 112 (congou/pairs.together).fits$1 -/
theorem ok112 : FnOk Try.prog 112 := ⟨⟨Try.f112, Try.func112, by kernel_rfl, rfl⟩⟩
theorem sim112 {a0_0 : Int} {a0_1 : Int} {c0 : Nat} {H : Hp} {p : Bool × Hp} (h : r112 a0_0 a0_1 c0 H = some p) : CallSim Try.prog 112 [.agg [.int .i64 a0_0, .int .i64 a0_1], .ptr c0 0] H (.bool p.1) p.2 := by
  refine callSim (fn := Try.f112) (ret := ret112) Try.func112 rfl Try.ntmps112 rfl ?_ h
  unfold r112
  refine f_seq ?_
  refine f_region ?_
  refine f_op rfl rfl (s_box (v := .agg [.int .i64 a0_0, .int .i64 a0_1]) rfl rfl) ?_
  refine f_op rfl rfl (s_as (v := .bool false) rfl) ?_
  refine o_hp ?_; intro H1 hH1
  refine f_nil ?_
  refine f_seq ?_
  refine f_region ?_
  refine o_bind ?_; intro x2 hx2
  refine f_op rfl rfl (s_load Try.underlying100 rfl rfl (ldM_eq hx2)) ?_
  refine o_bind ?_; intro x3 hx3
  refine o_bind ?_; intro x4 hx4
  refine f_op rfl rfl (s_loads Try.underlying43 rfl ty43 rfl (lds_cons (ldI_eq hx3) (lds_cons (ldI_eq hx4) (lds_nil)))) ?_
  refine o_bind ?_; intro x5 hx5
  refine o_bind ?_; intro x6 hx6
  refine f_op rfl rfl (s_lookup (kt := (.arr 2 .i64)) (ok := false) Try.underlying100 ⟨3, _, _, Try.underlying43, Try.underlying3, ty3⟩ ty4 rfl rfl (mgetT_eq hx5).1 (mgetT_eq hx5).2) ?_
  refine o_know 6 rfl (asB_eq hx6) ?_
  refine f_op rfl rfl (s_as (v := .bool x6) rfl) ?_
  refine f_nil ?_
  exact f_ret (.tmp rfl (.nil)) rfl

end Go.Lt.P8
