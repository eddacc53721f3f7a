/- PRINTED BY A PROGRAM OF OURS: what each function that 'PairsSpread' reaches computes on the abstract heap, and that the translated code does just that. Nothing is asked of the input. -/
import Derived.Test.YthmhdbmpeepmaaaG12P2
set_option linter.unusedVariables false
set_option linter.unusedSimpArgs false
set_option maxRecDepth 100000
set_option maxHeartbeats 4000000
namespace Go.Lt.P8
open Go Go.Lt Go.Proofs
/- 12 congou/congoulaw08.PairsSpread -/
theorem ok12 : FnOk Try.prog 12 := ⟨⟨Try.f12, Try.func12, by kernel_rfl, rfl⟩⟩
theorem s12_l7 {app : App} (happ : AppSim Try.prog app) (kt3 : Int → Sl → Sl → Sl → Int → Sl → Int → Sl → Int → Int → Sl → Int → Int → Hp → Option (Bool × Hp)) (hkt3 : ∀ (v1 : Int) (v2 : Sl) (v3 : Sl) (v4 : Sl) (v5 : Int) (v6 : Sl) (v7 : Int) (v8 : Sl) (v9 : Int) (v10 : Int) (v11 : Sl) (v12 : Int) (v13 : Int) (H : Hp), Fin Try.prog Try.f12 ret12 180 (todoAt (bodyOf Try.f12) [1, 1, 1, 1, 1, 1, 0, 1, 0, 0, 1, 1, 0, 0, 1, 1, 0, 1, 0, 0] []) [(0, .int .i64 v1), (1, .sl v2), (5, .sl v3), (9, .sl v4), (10, .int .i64 v5), (11, .sl v6), (12, .int .i64 v7), (75, .sl v8), (76, .int .i64 v9), (77, .int .i64 v10), (82, .sl v11), (83, .int .i64 v12), (84, .int .i64 v13)] H (kt3 v1 v2 v3 v4 v5 v6 v7 v8 v9 v10 v11 v12 v13 H)) : ∀ (k_ : Nat) (v1 : Int) (v2 : Sl) (v3 : Sl) (v4 : Sl) (v5 : Int) (v6 : Sl) (v7 : Int) (v8 : Sl) (v9 : Int) (v10 : Int) (v11 : Sl) (v12 : Int) (v13 : Int) (v14 : Int) (v15 : Int) (v16 : Int) (v17 : Int) (H : Hp), Fin Try.prog Try.f12 ret12 180 (todoAt (bodyOf Try.f12) [1, 1, 1, 1, 1, 1, 0, 1, 0, 0, 1, 1, 0, 0, 1, 1, 0, 1, 0, 0, 1, 1, 0, 0, 1, 1, 1, 1, 0, 0] []) [(0, .int .i64 v1), (1, .sl v2), (5, .sl v3), (9, .sl v4), (10, .int .i64 v5), (11, .sl v6), (12, .int .i64 v7), (75, .sl v8), (76, .int .i64 v9), (77, .int .i64 v10), (82, .sl v11), (83, .int .i64 v12), (84, .int .i64 v13), (119, .agg [.int .i64 v14, .int .i64 v15, .int .i64 v16]), (120, .int .i64 v17)] H (r12_l7 app kt3 k_ v1 v2 v3 v4 v5 v6 v7 v8 v9 v10 v11 v12 v13 v14 v15 v16 v17 H) := by
  intro k_
  induction k_ with
  | zero => intro _ _ _ _ _ _ _ _ _ _ _ _ _ _ _ _ _ _; exact f_none
  | succ k_ ih =>
    intro v1 v2 v3 v4 v5 v6 v7 v8 v9 v10 v11 v12 v13 v14 v15 v16 v17 H
    rw [r12_l7]
    refine f_seq ?_
    refine f_region ?_
    refine f_op rfl rfl (s_lss rfl rfl) ?_
    refine f_nil ?_
    refine f_seq ?_
    refine f_if (fun h1 => ?_) (fun h1 => ?_)
    · skip
      refine f_know 121 rfl (dec_true h1) ?_
      refine f_condT rfl ?_
      refine f_skip ?_
      refine f_seq ?_
      refine f_block ?_
      refine f_seq ?_
      refine f_region ?_
      refine o_ck fun g2 => ?_
      refine o_bind ?_; intro x3 hx3
      refine o_bind ?_; intro x4 hx4
      refine f_op rfl rfl (s_index Try.underlying63 Try.underlying3 ty3 rfl rfl g2 hx3) ?_
      refine o_know 122 rfl (asI_eq hx4) ?_
      refine f_op rfl rfl (s_as (v := .int .i64 x4) rfl) ?_
      refine f_nil ?_
      refine f_seq ?_
      refine f_seq ?_
      refine f_region ?_
      refine f_op rfl rfl (s_mv (v := .int .i64 v7) rfl) ?_
      refine f_op rfl rfl (s_mv (v := .int .i64 x4) rfl) ?_
      refine o_ck fun g5 => ?_
      refine f_op rfl rfl (s_shr rfl rfl g5) ?_
      refine f_op rfl rfl (s_and rfl rfl) ?_
      refine f_op rfl rfl (s_eql rfl rfl) ?_
      refine f_nil ?_
      refine f_if (fun h6 => ?_) (fun h6 => ?_)
      · skip
        refine f_know 127 rfl (dec_true h6) ?_
        refine f_condT rfl ?_
        refine f_seq ?_
        refine f_region ?_
        refine f_op rfl rfl (s_as (v := .bool false) rfl) ?_
        refine f_nil ?_
        exact f_ret (.tmp rfl (.nil)) rfl
      · skip
        refine f_know 127 rfl (dec_false h6) ?_
        refine f_condF rfl ?_
        refine f_skip ?_
        refine f_region ?_
        refine f_op rfl rfl (s_mv (v := .int .i64 v7) rfl) ?_
        refine f_op rfl rfl (s_mv (v := .int .i64 x4) rfl) ?_
        refine o_ck fun g7 => ?_
        refine f_op rfl rfl (s_shl rfl rfl g7) ?_
        refine f_op rfl rfl (s_or rfl rfl) ?_
        refine f_op rfl rfl (s_as (v := .int .i64 (bitsOf .or .i64 v7 (shlOf .i64 1 x4))) rfl) ?_
        refine f_nil ?_
        refine f_inBlock ?_
        refine f_region ?_
        refine f_op rfl rfl (s_add rfl rfl) ?_
        refine f_op rfl rfl (s_mv (v := .int .i64 (w64 (v17 + 1))) rfl) ?_
        refine f_nil ?_
        refine f_inLoop ?_
        refine f_keep [0, 1, 5, 9, 10, 11, 12, 75, 76, 77, 82, 83, 84, 119, 120] ?_
        exact ih v1 v2 v3 v4 v5 v6 (bitsOf .or .i64 v7 (shlOf .i64 1 x4)) v8 v9 v10 v11 v12 v13 v14 v15 v16 (w64 (v17 + 1)) H
    · skip
      refine f_know 121 rfl (dec_false h1) ?_
      refine f_condF rfl ?_
      refine f_exit rfl ?_
      refine f_inBlock ?_
      refine f_region ?_
      refine f_op rfl rfl (s_add rfl rfl) ?_
      refine f_op rfl rfl (s_mv (v := .int .i64 (w64 (v13 + 1))) rfl) ?_
      refine f_nil ?_
      refine f_inLoop ?_
      refine f_keep [0, 1, 5, 9, 10, 11, 12, 75, 76, 77, 82, 83, 84] ?_
      exact hkt3 v1 v2 v3 v4 v5 v6 v7 v8 v9 v10 v11 v12 (w64 (v13 + 1)) H

theorem s12_j5 {app : App} (happ : AppSim Try.prog app) (kt3 : Int → Sl → Sl → Sl → Int → Sl → Int → Sl → Int → Int → Sl → Int → Int → Hp → Option (Bool × Hp)) (hkt3 : ∀ (v1 : Int) (v2 : Sl) (v3 : Sl) (v4 : Sl) (v5 : Int) (v6 : Sl) (v7 : Int) (v8 : Sl) (v9 : Int) (v10 : Int) (v11 : Sl) (v12 : Int) (v13 : Int) (H : Hp), Fin Try.prog Try.f12 ret12 180 (todoAt (bodyOf Try.f12) [1, 1, 1, 1, 1, 1, 0, 1, 0, 0, 1, 1, 0, 0, 1, 1, 0, 1, 0, 0] []) [(0, .int .i64 v1), (1, .sl v2), (5, .sl v3), (9, .sl v4), (10, .int .i64 v5), (11, .sl v6), (12, .int .i64 v7), (75, .sl v8), (76, .int .i64 v9), (77, .int .i64 v10), (82, .sl v11), (83, .int .i64 v12), (84, .int .i64 v13)] H (kt3 v1 v2 v3 v4 v5 v6 v7 v8 v9 v10 v11 v12 v13 H)) (v1 : Int) (v2 : Sl) (v3 : Sl) (v4 : Sl) (v5 : Int) (v6 : Sl) (v7 : Int) (v8 : Int) (v9 : Sl) (v10 : Int) (v11 : Int) (v12 : Sl) (v13 : Int) (v14 : Int) (v15 : Bool) (H : Hp) : Fin Try.prog Try.f12 ret12 180 (todoAt (bodyOf Try.f12) [1, 1, 1, 1, 1, 1, 0, 1, 0, 0, 1, 1, 0, 0, 1, 1, 0, 1, 0, 0, 1, 1, 0, 0, 1, 0, 1] []) [(0, .int .i64 v1), (1, .sl v2), (5, .sl v3), (9, .sl v4), (10, .int .i64 v5), (11, .sl v6), (12, .int .i64 v7), (14, .int .i64 v8), (75, .sl v9), (76, .int .i64 v10), (77, .int .i64 v11), (82, .sl v12), (83, .int .i64 v13), (84, .int .i64 v14), (109, .bool v15)] H (r12_j5 app kt3 v1 v2 v3 v4 v5 v6 v7 v8 v9 v10 v11 v12 v13 v14 v15 H) := by
  unfold r12_j5
  refine f_if (fun h1 => ?_) (fun h1 => ?_)
  · skip
    refine f_know 109 rfl (bool_T h1) ?_
    refine f_condT rfl ?_
    refine f_seq ?_
    refine f_region ?_
    refine f_op rfl rfl (s_as (v := .bool false) rfl) ?_
    refine f_nil ?_
    exact f_ret (.tmp rfl (.nil)) rfl
  · skip
    refine f_know 109 rfl (bool_F h1) ?_
    refine f_condF rfl ?_
    refine f_skip ?_
    refine f_seq ?_
    refine f_region ?_
    refine f_op rfl rfl (s_mv (v := .sl v4) rfl) ?_
    refine f_op rfl rfl (s_mv (v := .int .i64 v8) rfl) ?_
    refine o_ck fun g2 => ?_
    refine f_op rfl rfl (s_idx Try.underlying22 ty3 rfl rfl g2) ?_
    refine o_bind ?_; intro x3 hx3
    refine f_op rfl rfl (s_load Try.underlying3 rfl rfl (ldI_eq hx3)) ?_
    refine f_op rfl rfl (s_add rfl rfl) ?_
    refine o_ck fun g4 => ?_
    refine f_op rfl rfl (s_idx Try.underlying22 ty3 rfl rfl g4) ?_
    refine o_bind ?_; intro H5 hH5
    refine f_op rfl rfl (s_store (s := 1) ty3 rfl rfl rfl hH5) ?_
    refine f_nil ?_
    refine f_seq ?_
    refine f_region ?_
    refine f_op rfl rfl (s_mv (v := .sl v2) rfl) ?_
    refine f_op rfl rfl (s_mv (v := .int .i64 v8) rfl) ?_
    refine o_ck fun g6 => ?_
    refine f_op rfl rfl (s_idx Try.underlying58 ty63 rfl rfl g6) ?_
    refine o_bind ?_; intro x7 hx7
    refine o_bind ?_; intro x8 hx8
    refine o_bind ?_; intro x9 hx9
    refine f_op rfl rfl (s_loads Try.underlying63 rfl ty63 rfl (lds_cons (ldI_eq hx7) (lds_cons (ldI_eq hx8) (lds_cons (ldI_eq hx9) (lds_nil))))) ?_
    refine f_op rfl rfl (s_mv (v := .int .i64 0) rfl) ?_
    refine f_nil ?_
    refine f_block ?_
    refine f_loop ?_
    refine f_keep [0, 1, 5, 9, 10, 11, 12, 75, 76, 77, 82, 83, 84, 119, 120] ?_
    exact s12_l7 happ _ hkt3 FUEL v1 v2 v3 v4 v5 v6 v7 v9 v10 v11 v12 v13 v14 x7 x8 x9 0 H5

theorem s12_j6 {app : App} (happ : AppSim Try.prog app) (kt2 : Int → Sl → Sl → Sl → Sl → Int → Int → Hp → Option (Bool × Hp)) (hkt2 : ∀ (v1 : Int) (v2 : Sl) (v3 : Sl) (v4 : Sl) (v5 : Sl) (v6 : Int) (v7 : Int) (H : Hp), Fin Try.prog Try.f12 ret12 180 (todoAt (bodyOf Try.f12) [1, 1, 1, 1, 1, 1, 0, 1, 0, 0] []) [(0, .int .i64 v1), (1, .sl v2), (5, .sl v3), (9, .sl v4), (75, .sl v5), (76, .int .i64 v6), (77, .int .i64 v7)] H (kt2 v1 v2 v3 v4 v5 v6 v7 H)) (v1 : Int) (v2 : Sl) (v3 : Sl) (v4 : Sl) (v5 : Sl) (v6 : Int) (v7 : Int) (v8 : Bool) (H : Hp) : Fin Try.prog Try.f12 ret12 180 (todoAt (bodyOf Try.f12) [1, 1, 1, 1, 1, 1, 0, 1, 0, 0, 1, 1, 0, 0, 1, 1, 1, 1] []) [(0, .int .i64 v1), (1, .sl v2), (5, .sl v3), (9, .sl v4), (75, .sl v5), (76, .int .i64 v6), (77, .int .i64 v7), (152, .bool v8)] H (r12_j6 app kt2 v1 v2 v3 v4 v5 v6 v7 v8 H) := by
  unfold r12_j6
  refine f_if (fun h1 => ?_) (fun h1 => ?_)
  · skip
    refine f_know 152 rfl (bool_T h1) ?_
    refine f_condT rfl ?_
    refine f_seq ?_
    refine f_region ?_
    refine f_op rfl rfl (s_as (v := .bool false) rfl) ?_
    refine f_nil ?_
    exact f_ret (.tmp rfl (.nil)) rfl
  · skip
    refine f_know 152 rfl (bool_F h1) ?_
    refine f_condF rfl ?_
    refine f_skip ?_
    refine f_inBlock ?_
    refine f_region ?_
    refine f_op rfl rfl (s_add rfl rfl) ?_
    refine f_op rfl rfl (s_mv (v := .int .i64 (w64 (v7 + 1))) rfl) ?_
    refine f_nil ?_
    refine f_inLoop ?_
    refine f_keep [0, 1, 5, 9, 75, 76, 77] ?_
    exact hkt2 v1 v2 v3 v4 v5 v6 (w64 (v7 + 1)) H

theorem s12_l3 {app : App} (happ : AppSim Try.prog app) (kt2 : Int → Sl → Sl → Sl → Sl → Int → Int → Hp → Option (Bool × Hp)) (hkt2 : ∀ (v1 : Int) (v2 : Sl) (v3 : Sl) (v4 : Sl) (v5 : Sl) (v6 : Int) (v7 : Int) (H : Hp), Fin Try.prog Try.f12 ret12 180 (todoAt (bodyOf Try.f12) [1, 1, 1, 1, 1, 1, 0, 1, 0, 0] []) [(0, .int .i64 v1), (1, .sl v2), (5, .sl v3), (9, .sl v4), (75, .sl v5), (76, .int .i64 v6), (77, .int .i64 v7)] H (kt2 v1 v2 v3 v4 v5 v6 v7 H)) : ∀ (k_ : Nat) (v1 : Int) (v2 : Sl) (v3 : Sl) (v4 : Sl) (v5 : Int) (v6 : Sl) (v7 : Int) (v8 : Sl) (v9 : Int) (v10 : Int) (v11 : Sl) (v12 : Int) (v13 : Int) (H : Hp), Fin Try.prog Try.f12 ret12 180 (todoAt (bodyOf Try.f12) [1, 1, 1, 1, 1, 1, 0, 1, 0, 0, 1, 1, 0, 0, 1, 1, 0, 1, 0, 0] []) [(0, .int .i64 v1), (1, .sl v2), (5, .sl v3), (9, .sl v4), (10, .int .i64 v5), (11, .sl v6), (12, .int .i64 v7), (75, .sl v8), (76, .int .i64 v9), (77, .int .i64 v10), (82, .sl v11), (83, .int .i64 v12), (84, .int .i64 v13)] H (r12_l3 app kt2 k_ v1 v2 v3 v4 v5 v6 v7 v8 v9 v10 v11 v12 v13 H) := by
  intro k_
  induction k_ with
  | zero => intro _ _ _ _ _ _ _ _ _ _ _ _ _ _; exact f_none
  | succ k_ ih =>
    intro v1 v2 v3 v4 v5 v6 v7 v8 v9 v10 v11 v12 v13 H
    rw [r12_l3]
    refine f_seq ?_
    refine f_region ?_
    refine f_op rfl rfl (s_lss rfl rfl) ?_
    refine f_nil ?_
    refine f_seq ?_
    refine f_if (fun h1 => ?_) (fun h1 => ?_)
    · skip
      refine f_know 85 rfl (dec_true h1) ?_
      refine f_condT rfl ?_
      refine f_skip ?_
      refine f_seq ?_
      refine f_block ?_
      refine f_seq ?_
      refine f_region ?_
      refine f_op rfl rfl (s_mv (v := .int .i64 v13) rfl) ?_
      refine o_ck fun g2 => ?_
      refine f_op rfl rfl (s_idx Try.underlying22 ty3 rfl rfl g2) ?_
      refine o_bind ?_; intro x3 hx3
      refine f_op rfl rfl (s_load Try.underlying3 rfl rfl (ldI_eq hx3)) ?_
      refine f_op rfl rfl (s_as (v := .int .i64 v13) rfl) ?_
      refine f_op rfl rfl (s_as (v := .int .i64 x3) rfl) ?_
      refine f_nil ?_
      refine f_seq ?_
      refine f_seq ?_
      refine f_region ?_
      refine f_op rfl rfl (s_mv (v := .int .i64 x3) rfl) ?_
      refine f_op rfl rfl (s_lss rfl rfl) ?_
      refine f_op rfl rfl (s_mv (v := .bool (decide (x3 < 0))) rfl) ?_
      refine o_if (fun h4 => ?_) (fun h4 => ?_)
      · skip
        refine o_know 91 rfl (dec_true h4) ?_
        refine f_no rfl rfl ?_
        refine f_no rfl rfl ?_
        refine f_no rfl rfl ?_
        refine f_no rfl rfl ?_
        refine f_op rfl rfl (s_pickT (v := .bool true) rfl rfl) ?_
        refine f_op rfl rfl (s_mv (v := .bool true) rfl) ?_
        refine f_no rfl rfl ?_
        refine f_no rfl rfl ?_
        refine f_no rfl rfl ?_
        refine f_no rfl rfl ?_
        refine f_no rfl rfl ?_
        refine f_no rfl rfl ?_
        refine f_no rfl rfl ?_
        refine f_no rfl rfl ?_
        refine f_no rfl rfl ?_
        refine f_no rfl rfl ?_
        refine f_no rfl rfl ?_
        refine f_op rfl rfl (s_pickT (v := .bool true) rfl rfl) ?_
        refine f_nil ?_
        refine f_keep [0, 1, 5, 9, 10, 11, 12, 14, 75, 76, 77, 82, 83, 84, 109] ?_
        exact s12_j5 happ _ (fun v1_ v2_ v3_ v4_ v5_ v6_ v7_ v8_ v9_ v10_ v11_ v12_ v13_ H_ => ih v1_ v2_ v3_ v4_ v5_ v6_ v7_ v8_ v9_ v10_ v11_ v12_ v13_ H_) v1 v2 v3 v4 v5 v6 v7 x3 v8 v9 v10 v11 v12 v13 true H
      · skip
        refine o_know 91 rfl (dec_false h4) ?_
        refine f_op rfl rfl (s_mv (v := .int .i64 x3) rfl) ?_
        refine f_op rfl rfl (s_mv (v := .sl v2) rfl) ?_
        refine f_op rfl rfl (s_lenS rfl Try.underlying58 rfl) ?_
        refine f_op rfl rfl (s_geq rfl rfl) ?_
        refine f_op rfl rfl (s_pickF (v := .bool (decide ((v2.len : Int) ≤ x3))) rfl rfl) ?_
        refine f_op rfl rfl (s_mv (v := .bool (decide ((v2.len : Int) ≤ x3))) rfl) ?_
        refine o_if (fun h5 => ?_) (fun h5 => ?_)
        · skip
          refine o_know 97 rfl (dec_true h5) ?_
          refine f_no rfl rfl ?_
          refine f_no rfl rfl ?_
          refine f_no rfl rfl ?_
          refine f_no rfl rfl ?_
          refine f_no rfl rfl ?_
          refine f_no rfl rfl ?_
          refine f_no rfl rfl ?_
          refine f_no rfl rfl ?_
          refine f_no rfl rfl ?_
          refine f_no rfl rfl ?_
          refine f_no rfl rfl ?_
          refine f_op rfl rfl (s_pickT (v := .bool true) rfl rfl) ?_
          refine f_nil ?_
          refine f_keep [0, 1, 5, 9, 10, 11, 12, 14, 75, 76, 77, 82, 83, 84, 109] ?_
          exact s12_j5 happ _ (fun v1_ v2_ v3_ v4_ v5_ v6_ v7_ v8_ v9_ v10_ v11_ v12_ v13_ H_ => ih v1_ v2_ v3_ v4_ v5_ v6_ v7_ v8_ v9_ v10_ v11_ v12_ v13_ H_) v1 v2 v3 v4 v5 v6 v7 x3 v8 v9 v10 v11 v12 v13 true H
        · skip
          refine o_know 97 rfl (dec_false h5) ?_
          refine f_op rfl rfl (s_mv (v := .int .i64 v13) rfl) ?_
          refine f_op rfl rfl (s_gtr rfl rfl) ?_
          refine f_op rfl rfl (s_mv (v := .bool (decide (0 < v13))) rfl) ?_
          refine o_if (fun h6 => ?_) (fun h6 => ?_)
          · skip
            refine o_know 100 rfl (dec_true h6) ?_
            refine f_op rfl rfl (s_mv (v := .sl v6) rfl) ?_
            refine f_op rfl rfl (s_mv (v := .int .i64 v13) rfl) ?_
            refine f_op rfl rfl (s_sub rfl rfl) ?_
            refine o_ck fun g7 => ?_
            refine f_op rfl rfl (s_idx Try.underlying22 ty3 rfl rfl g7) ?_
            refine o_bind ?_; intro x8 hx8
            refine f_op rfl rfl (s_load Try.underlying3 rfl rfl (ldI_eq hx8)) ?_
            refine f_op rfl rfl (s_mv (v := .int .i64 x3) rfl) ?_
            refine f_op rfl rfl (s_geq rfl rfl) ?_
            refine f_op rfl rfl (s_pickT (v := .bool (decide (x3 ≤ x8))) rfl rfl) ?_
            refine f_op rfl rfl (s_pickF (v := .bool (decide (x3 ≤ x8))) rfl rfl) ?_
            refine f_nil ?_
            refine f_keep [0, 1, 5, 9, 10, 11, 12, 14, 75, 76, 77, 82, 83, 84, 109] ?_
            exact s12_j5 happ _ (fun v1_ v2_ v3_ v4_ v5_ v6_ v7_ v8_ v9_ v10_ v11_ v12_ v13_ H_ => ih v1_ v2_ v3_ v4_ v5_ v6_ v7_ v8_ v9_ v10_ v11_ v12_ v13_ H_) v1 v2 v3 v4 v5 v6 v7 x3 v8 v9 v10 v11 v12 v13 (decide (x3 ≤ x8)) H
          · skip
            refine o_know 100 rfl (dec_false h6) ?_
            refine f_no rfl rfl ?_
            refine f_no rfl rfl ?_
            refine f_no rfl rfl ?_
            refine f_no rfl rfl ?_
            refine f_no rfl rfl ?_
            refine f_no rfl rfl ?_
            refine f_no rfl rfl ?_
            refine f_op rfl rfl (s_pickF (v := .bool false) rfl rfl) ?_
            refine f_op rfl rfl (s_pickF (v := .bool false) rfl rfl) ?_
            refine f_nil ?_
            refine f_keep [0, 1, 5, 9, 10, 11, 12, 14, 75, 76, 77, 82, 83, 84, 109] ?_
            exact s12_j5 happ _ (fun v1_ v2_ v3_ v4_ v5_ v6_ v7_ v8_ v9_ v10_ v11_ v12_ v13_ H_ => ih v1_ v2_ v3_ v4_ v5_ v6_ v7_ v8_ v9_ v10_ v11_ v12_ v13_ H_) v1 v2 v3 v4 v5 v6 v7 x3 v8 v9 v10 v11 v12 v13 false H
    · skip
      refine f_know 85 rfl (dec_false h1) ?_
      refine f_condF rfl ?_
      refine f_exit rfl ?_
      refine f_seq ?_
      refine f_region ?_
      refine f_op rfl rfl (s_mv (v := .int .i64 v7) rfl) ?_
      refine f_op rfl rfl (s_mv (v := .int .i64 v1) rfl) ?_
      refine o_ck fun g9 => ?_
      refine f_op rfl rfl (s_shl rfl rfl g9) ?_
      refine f_op rfl rfl (s_sub rfl rfl) ?_
      refine f_op rfl rfl (s_neq rfl rfl) ?_
      refine f_op rfl rfl (s_mv (v := .bool (decide (v7 ≠ (w64 ((shlOf .i64 1 v1) - 1))))) rfl) ?_
      refine o_if (fun h10 => ?_) (fun h10 => ?_)
      · skip
        refine o_know 139 rfl (dec_true h10) ?_
        refine f_no rfl rfl ?_
        refine f_no rfl rfl ?_
        refine f_no rfl rfl ?_
        refine f_no rfl rfl ?_
        refine f_no rfl rfl ?_
        refine f_no rfl rfl ?_
        refine f_no rfl rfl ?_
        refine f_no rfl rfl ?_
        refine f_no rfl rfl ?_
        refine f_no rfl rfl ?_
        refine f_no rfl rfl ?_
        refine f_no rfl rfl ?_
        refine f_op rfl rfl (s_pickT (v := .bool true) rfl rfl) ?_
        refine f_nil ?_
        refine f_keep [0, 1, 5, 9, 75, 76, 77, 152] ?_
        exact s12_j6 happ _ hkt2 v1 v2 v3 v4 v8 v9 v10 true H
      · skip
        refine o_know 139 rfl (dec_false h10) ?_
        refine f_op rfl rfl (s_mv (v := .int .i64 v5) rfl) ?_
        refine f_op rfl rfl (s_gtr rfl rfl) ?_
        refine f_op rfl rfl (s_mv (v := .bool (decide (0 < v5))) rfl) ?_
        refine o_if (fun h11 => ?_) (fun h11 => ?_)
        · skip
          refine o_know 142 rfl (dec_true h11) ?_
          refine f_op rfl rfl (s_mv (v := .sl v3) rfl) ?_
          refine f_op rfl rfl (s_mv (v := .int .i64 v5) rfl) ?_
          refine f_op rfl rfl (s_sub rfl rfl) ?_
          refine o_ck fun g12 => ?_
          refine f_op rfl rfl (s_idx Try.underlying51 ty22 rfl rfl g12) ?_
          refine o_bind ?_; intro x13 hx13
          refine f_op rfl rfl (s_load Try.underlying22 rfl rfl (ldSl_eq hx13)) ?_
          refine f_op rfl rfl (s_mv (v := .sl v6) rfl) ?_
          refine o_bind ?_; intro p14 hp14
          refine f_op rfl rfl (s_callF rfl ok50 (sim50 hp14)) ?_
          refine f_op rfl rfl (s_geq rfl rfl) ?_
          refine f_op rfl rfl (s_pickT (v := .bool (decide (0 ≤ p14.1))) rfl rfl) ?_
          refine f_op rfl rfl (s_pickF (v := .bool (decide (0 ≤ p14.1))) rfl rfl) ?_
          refine f_nil ?_
          refine f_keep [0, 1, 5, 9, 75, 76, 77, 152] ?_
          exact s12_j6 happ _ hkt2 v1 v2 v3 v4 v8 v9 v10 (decide (0 ≤ p14.1)) p14.2
        · skip
          refine o_know 142 rfl (dec_false h11) ?_
          refine f_no rfl rfl ?_
          refine f_no rfl rfl ?_
          refine f_no rfl rfl ?_
          refine f_no rfl rfl ?_
          refine f_no rfl rfl ?_
          refine f_no rfl rfl ?_
          refine f_no rfl rfl ?_
          refine f_no rfl rfl ?_
          refine f_op rfl rfl (s_pickF (v := .bool false) rfl rfl) ?_
          refine f_op rfl rfl (s_pickF (v := .bool false) rfl rfl) ?_
          refine f_nil ?_
          refine f_keep [0, 1, 5, 9, 75, 76, 77, 152] ?_
          exact s12_j6 happ _ hkt2 v1 v2 v3 v4 v8 v9 v10 false H

theorem s12_l4 {app : App} (happ : AppSim Try.prog app) : ∀ (k_ : Nat) (v1 : Sl) (v2 : Sl) (v3 : Int) (v4 : Int) (H : Hp), Fin Try.prog Try.f12 ret12 180 (todoAt (bodyOf Try.f12) [1, 1, 1, 1, 1, 1, 1, 1, 0, 1, 0, 0] []) [(5, .sl v1), (165, .sl v2), (166, .int .i64 v3), (167, .int .i64 v4)] H (r12_l4 app k_ v1 v2 v3 v4 H) := by
  intro k_
  induction k_ with
  | zero => intro _ _ _ _ _; exact f_none
  | succ k_ ih =>
    intro v1 v2 v3 v4 H
    rw [r12_l4]
    refine f_seq ?_
    refine f_region ?_
    refine f_op rfl rfl (s_lss rfl rfl) ?_
    refine f_nil ?_
    refine f_seq ?_
    refine f_if (fun h1 => ?_) (fun h1 => ?_)
    · skip
      refine f_know 168 rfl (dec_true h1) ?_
      refine f_condT rfl ?_
      refine f_skip ?_
      refine f_seq ?_
      refine f_block ?_
      refine f_seq ?_
      refine f_region ?_
      refine o_ck fun g2 => ?_
      refine f_op rfl rfl (s_idx Try.underlying22 ty3 rfl rfl g2) ?_
      refine o_bind ?_; intro x3 hx3
      refine f_op rfl rfl (s_load Try.underlying3 rfl rfl (ldI_eq hx3)) ?_
      refine f_op rfl rfl (s_as (v := .int .i64 x3) rfl) ?_
      refine f_nil ?_
      refine f_seq ?_
      refine f_region ?_
      refine f_op rfl rfl (s_mv (v := .int .i64 x3) rfl) ?_
      refine f_op rfl rfl (s_neq rfl rfl) ?_
      refine f_nil ?_
      refine f_if (fun h4 => ?_) (fun h4 => ?_)
      · skip
        refine f_know 172 rfl (dec_true h4) ?_
        refine f_condT rfl ?_
        refine f_seq ?_
        refine f_region ?_
        refine f_op rfl rfl (s_as (v := .bool false) rfl) ?_
        refine f_nil ?_
        exact f_ret (.tmp rfl (.nil)) rfl
      · skip
        refine f_know 172 rfl (dec_false h4) ?_
        refine f_condF rfl ?_
        refine f_skip ?_
        refine f_inBlock ?_
        refine f_region ?_
        refine f_op rfl rfl (s_add rfl rfl) ?_
        refine f_op rfl rfl (s_mv (v := .int .i64 (w64 (v4 + 1))) rfl) ?_
        refine f_nil ?_
        refine f_inLoop ?_
        refine f_keep [5, 165, 166, 167] ?_
        exact ih v1 v2 v3 (w64 (v4 + 1)) H
    · skip
      refine f_know 168 rfl (dec_false h1) ?_
      refine f_condF rfl ?_
      refine f_exit rfl ?_
      refine f_seq ?_
      refine f_region ?_
      refine f_op rfl rfl (s_mv (v := .sl v1) rfl) ?_
      refine f_op rfl rfl (s_lenS rfl Try.underlying51 rfl) ?_
      refine f_op rfl rfl (s_eql rfl rfl) ?_
      refine f_op rfl rfl (s_mv (v := .bool (decide ((v1.len : Int) = 4))) rfl) ?_
      refine o_if (fun h5 => ?_) (fun h5 => ?_)
      · skip
        refine o_know 177 rfl (dec_true h5) ?_
        refine o_bind ?_; intro p6 hp6
        refine f_op rfl rfl (s_callF rfl ok23 (sim23 happ hp6)) ?_
        refine f_op rfl rfl (s_pickT (v := .bool p6.1) rfl rfl) ?_
        refine f_op rfl rfl (s_as (v := .bool p6.1) rfl) ?_
        refine f_nil ?_
        exact f_ret (.tmp rfl (.nil)) rfl
      · skip
        refine o_know 177 rfl (dec_false h5) ?_
        refine f_no rfl rfl ?_
        refine f_op rfl rfl (s_pickF (v := .bool false) rfl rfl) ?_
        refine f_op rfl rfl (s_as (v := .bool false) rfl) ?_
        refine f_nil ?_
        exact f_ret (.tmp rfl (.nil)) rfl

theorem s12_l2 {app : App} (happ : AppSim Try.prog app) : ∀ (k_ : Nat) (v1 : Int) (v2 : Sl) (v3 : Sl) (v4 : Sl) (v5 : Sl) (v6 : Int) (v7 : Int) (H : Hp), Fin Try.prog Try.f12 ret12 180 (todoAt (bodyOf Try.f12) [1, 1, 1, 1, 1, 1, 0, 1, 0, 0] []) [(0, .int .i64 v1), (1, .sl v2), (5, .sl v3), (9, .sl v4), (75, .sl v5), (76, .int .i64 v6), (77, .int .i64 v7)] H (r12_l2 app k_ v1 v2 v3 v4 v5 v6 v7 H) := by
  intro k_
  induction k_ with
  | zero => intro _ _ _ _ _ _ _ _; exact f_none
  | succ k_ ih =>
    intro v1 v2 v3 v4 v5 v6 v7 H
    rw [r12_l2]
    refine f_seq ?_
    refine f_region ?_
    refine f_op rfl rfl (s_lss rfl rfl) ?_
    refine f_nil ?_
    refine f_seq ?_
    refine f_if (fun h1 => ?_) (fun h1 => ?_)
    · skip
      refine f_know 78 rfl (dec_true h1) ?_
      refine f_condT rfl ?_
      refine f_skip ?_
      refine f_seq ?_
      refine f_block ?_
      refine f_seq ?_
      refine f_region ?_
      refine f_op rfl rfl (s_mv (v := .int .i64 v7) rfl) ?_
      refine o_ck fun g2 => ?_
      refine f_op rfl rfl (s_idx Try.underlying51 ty22 rfl rfl g2) ?_
      refine o_bind ?_; intro x3 hx3
      refine f_op rfl rfl (s_load Try.underlying22 rfl rfl (ldSl_eq hx3)) ?_
      refine f_op rfl rfl (s_as (v := .int .i64 v7) rfl) ?_
      refine f_op rfl rfl (s_as (v := .sl x3) rfl) ?_
      refine f_nil ?_
      refine f_seq ?_
      refine f_region ?_
      refine f_op rfl rfl (s_as (v := .int .i64 0) rfl) ?_
      refine f_nil ?_
      refine f_seq ?_
      refine f_seq ?_
      refine f_region ?_
      refine f_op rfl rfl (s_mv (v := .sl x3) rfl) ?_
      refine f_op rfl rfl (s_lenS rfl Try.underlying22 rfl) ?_
      refine f_op rfl rfl (s_mv (v := .int .i64 0) rfl) ?_
      refine f_nil ?_
      refine f_block ?_
      refine f_loop ?_
      refine f_keep [0, 1, 5, 9, 10, 11, 12, 75, 76, 77, 82, 83, 84] ?_
      exact s12_l3 happ _ (fun v1_ v2_ v3_ v4_ v5_ v6_ v7_ H_ => ih v1_ v2_ v3_ v4_ v5_ v6_ v7_ H_) FUEL v1 v2 v3 v4 v7 x3 0 v5 v6 v7 x3 (x3.len : Int) 0 H
    · skip
      refine f_know 78 rfl (dec_false h1) ?_
      refine f_condF rfl ?_
      refine f_exit rfl ?_
      refine f_seq ?_
      refine f_seq ?_
      refine f_region ?_
      refine f_op rfl rfl (s_mv (v := .int .i64 v1) rfl) ?_
      refine f_op rfl rfl (s_neq rfl rfl) ?_
      refine f_nil ?_
      refine f_if (fun h4 => ?_) (fun h4 => ?_)
      · skip
        refine f_know 155 rfl (dec_true h4) ?_
        refine f_condT rfl ?_
        refine f_seq ?_
        refine f_region ?_
        refine f_op rfl rfl (s_mv (v := .sl v3) rfl) ?_
        refine f_op rfl rfl (s_lenS rfl Try.underlying51 rfl) ?_
        refine f_op rfl rfl (s_mv (v := .int .i64 v1) rfl) ?_
        refine f_op rfl rfl (s_rem rfl rfl (by decide)) ?_
        refine f_op rfl rfl (s_quo rfl rfl (by decide)) ?_
        refine f_op rfl rfl (s_eql rfl rfl) ?_
        refine f_op rfl rfl (s_mv (v := .bool (decide ((v3.len : Int) = (w64 (Int.tdiv (Int.tmod v1 7) 3))))) rfl) ?_
        refine o_if (fun h5 => ?_) (fun h5 => ?_)
        · skip
          refine o_know 162 rfl (dec_true h5) ?_
          refine o_bind ?_; intro p6 hp6
          refine f_op rfl rfl (s_callF rfl ok23 (sim23 happ hp6)) ?_
          refine f_op rfl rfl (s_pickT (v := .bool p6.1) rfl rfl) ?_
          refine f_op rfl rfl (s_as (v := .bool p6.1) rfl) ?_
          refine f_nil ?_
          exact f_ret (.tmp rfl (.nil)) rfl
        · skip
          refine o_know 162 rfl (dec_false h5) ?_
          refine f_no rfl rfl ?_
          refine f_op rfl rfl (s_pickF (v := .bool false) rfl rfl) ?_
          refine f_op rfl rfl (s_as (v := .bool false) rfl) ?_
          refine f_nil ?_
          exact f_ret (.tmp rfl (.nil)) rfl
      · skip
        refine f_know 155 rfl (dec_false h4) ?_
        refine f_condF rfl ?_
        refine f_skip ?_
        refine f_seq ?_
        refine f_seq ?_
        refine f_region ?_
        refine f_op rfl rfl (s_mv (v := .sl v4) rfl) ?_
        refine f_op rfl rfl (s_lenS rfl Try.underlying22 rfl) ?_
        refine f_op rfl rfl (s_mv (v := .int .i64 0) rfl) ?_
        refine f_nil ?_
        refine f_block ?_
        refine f_loop ?_
        refine f_keep [5, 165, 166, 167] ?_
        exact s12_l4 happ FUEL v3 v4 (v4.len : Int) 0 H

theorem s12_j1 {app : App} (happ : AppSim Try.prog app) (v1 : Int) (v2 : Sl) (v3 : Sl) (v4 : Bool) (H : Hp) : Fin Try.prog Try.f12 ret12 180 (todoAt (bodyOf Try.f12) [1, 1, 1, 1, 0, 1] []) [(0, .int .i64 v1), (1, .sl v2), (5, .sl v3), (71, .bool v4)] H (r12_j1 app v1 v2 v3 v4 H) := by
  unfold r12_j1
  refine f_if (fun h1 => ?_) (fun h1 => ?_)
  · skip
    refine f_know 71 rfl (bool_T h1) ?_
    refine f_condT rfl ?_
    refine f_seq ?_
    refine f_region ?_
    refine f_op rfl rfl (s_as (v := .bool false) rfl) ?_
    refine f_nil ?_
    exact f_ret (.tmp rfl (.nil)) rfl
  · skip
    refine f_know 71 rfl (bool_F h1) ?_
    refine f_condF rfl ?_
    refine f_skip ?_
    refine f_seq ?_
    refine f_region ?_
    refine f_op rfl rfl (s_mv (v := .sl v2) rfl) ?_
    refine f_op rfl rfl (s_lenS rfl Try.underlying58 rfl) ?_
    refine o_ck fun g2 => ?_
    refine f_op rfl rfl (s_makeSlice Try.underlying22 ty3 rfl rfl (by decide) (by decide) rfl rfl g2) ?_
    refine f_op rfl rfl (s_as (v := .sl ⟨false, H.n, 0, ((v2.len : Int) : Int).toNat, ((v2.len : Int) : Int).toNat, 0⟩) rfl) ?_
    refine o_hp ?_; intro H3 hH3
    refine f_nil ?_
    refine f_seq ?_
    refine f_seq ?_
    refine f_region ?_
    refine f_op rfl rfl (s_mv (v := .sl v3) rfl) ?_
    refine f_op rfl rfl (s_lenS rfl Try.underlying51 rfl) ?_
    refine f_op rfl rfl (s_mv (v := .int .i64 0) rfl) ?_
    refine f_nil ?_
    refine f_block ?_
    refine f_loop ?_
    refine f_keep [0, 1, 5, 9, 75, 76, 77] ?_
    exact s12_l2 happ FUEL v1 v2 v3 ⟨false, H.n, 0, ((v2.len : Int) : Int).toNat, ((v2.len : Int) : Int).toNat, 0⟩ v3 (v3.len : Int) 0 H3

theorem s12_j0 {app : App} (happ : AppSim Try.prog app) (v1 : Int) (v2 : Sl) (v3 : Sl) (v4 : Int) (v5 : Bool) (v6 : Int) (v7 : Bool) (H : Hp) : Fin Try.prog Try.f12 ret12 180 (todoAt (bodyOf Try.f12) [1, 1, 1, 0, 1] []) [(0, .int .i64 v1), (1, .sl v2), (5, .sl v3), (6, .int .i64 v4), (7, .bool v5), (8, .int .i64 v6), (42, .bool v7)] H (r12_j0 app v1 v2 v3 v4 v5 v6 v7 H) := by
  unfold r12_j0
  refine f_if (fun h1 => ?_) (fun h1 => ?_)
  · skip
    refine f_know 42 rfl (bool_T h1) ?_
    refine f_condT rfl ?_
    refine f_seq ?_
    refine f_region ?_
    refine f_op rfl rfl (s_mv (v := .int .i64 v4) rfl) ?_
    refine f_op rfl rfl (s_eql rfl rfl) ?_
    refine f_op rfl rfl (s_mv (v := .bool (decide (v4 = 2))) rfl) ?_
    refine o_if (fun h2 => ?_) (fun h2 => ?_)
    · skip
      refine o_know 45 rfl (dec_true h2) ?_
      refine f_op rfl rfl (s_mv (v := .int .i64 v6) rfl) ?_
      refine f_op rfl rfl (s_eql rfl rfl) ?_
      refine f_op rfl rfl (s_mv (v := .bool (decide (v6 = 0))) rfl) ?_
      refine o_if (fun h3 => ?_) (fun h3 => ?_)
      · skip
        refine o_know 48 rfl (dec_true h3) ?_
        refine f_op rfl rfl (s_mv (v := .bool v5) rfl) ?_
        refine f_op rfl rfl (s_not rfl) ?_
        refine f_op rfl rfl (s_pickT (v := .bool (!v5)) rfl rfl) ?_
        refine f_op rfl rfl (s_mv (v := .bool (!v5)) rfl) ?_
        refine o_if (fun h4 => ?_) (fun h4 => ?_)
        · skip
          refine o_know 52 rfl (bool_notT h4) ?_
          refine f_op rfl rfl (s_mv (v := .int .i64 v6) rfl) ?_
          refine f_op rfl rfl (s_eql rfl rfl) ?_
          refine f_op rfl rfl (s_pickF (v := .bool (decide (v6 = 2))) rfl rfl) ?_
          refine f_op rfl rfl (s_pickT (v := .bool (decide (v6 = 2))) rfl rfl) ?_
          refine f_op rfl rfl (s_mv (v := .bool (decide (v6 = 2))) rfl) ?_
          refine o_if (fun h5 => ?_) (fun h5 => ?_)
          · skip
            refine o_know 57 rfl (dec_true h5) ?_
            refine o_bind ?_; intro p6 hp6
            refine f_op rfl rfl (s_callF rfl ok23 (sim23 happ hp6)) ?_
            refine f_op rfl rfl (s_pickT (v := .bool p6.1) rfl rfl) ?_
            refine f_op rfl rfl (s_as (v := .bool p6.1) rfl) ?_
            refine f_nil ?_
            exact f_ret (.tmp rfl (.nil)) rfl
          · skip
            refine o_know 57 rfl (dec_false h5) ?_
            refine f_no rfl rfl ?_
            refine f_op rfl rfl (s_pickF (v := .bool false) rfl rfl) ?_
            refine f_op rfl rfl (s_as (v := .bool false) rfl) ?_
            refine f_nil ?_
            exact f_ret (.tmp rfl (.nil)) rfl
        · skip
          refine o_know 52 rfl (bool_notF h4) ?_
          refine f_no rfl rfl ?_
          refine f_no rfl rfl ?_
          refine f_op rfl rfl (s_pickT (v := .bool true) rfl rfl) ?_
          refine f_op rfl rfl (s_pickT (v := .bool true) rfl rfl) ?_
          refine f_op rfl rfl (s_mv (v := .bool true) rfl) ?_
          refine o_bind ?_; intro p7 hp7
          refine f_op rfl rfl (s_callF rfl ok23 (sim23 happ hp7)) ?_
          refine f_op rfl rfl (s_pickT (v := .bool p7.1) rfl rfl) ?_
          refine f_op rfl rfl (s_as (v := .bool p7.1) rfl) ?_
          refine f_nil ?_
          exact f_ret (.tmp rfl (.nil)) rfl
      · skip
        refine o_know 48 rfl (dec_false h3) ?_
        refine f_no rfl rfl ?_
        refine f_no rfl rfl ?_
        refine f_op rfl rfl (s_pickF (v := .bool false) rfl rfl) ?_
        refine f_op rfl rfl (s_mv (v := .bool false) rfl) ?_
        refine f_op rfl rfl (s_mv (v := .int .i64 v6) rfl) ?_
        refine f_op rfl rfl (s_eql rfl rfl) ?_
        refine f_op rfl rfl (s_pickF (v := .bool (decide (v6 = 2))) rfl rfl) ?_
        refine f_op rfl rfl (s_pickT (v := .bool (decide (v6 = 2))) rfl rfl) ?_
        refine f_op rfl rfl (s_mv (v := .bool (decide (v6 = 2))) rfl) ?_
        refine o_if (fun h8 => ?_) (fun h8 => ?_)
        · skip
          refine o_know 57 rfl (dec_true h8) ?_
          refine o_bind ?_; intro p9 hp9
          refine f_op rfl rfl (s_callF rfl ok23 (sim23 happ hp9)) ?_
          refine f_op rfl rfl (s_pickT (v := .bool p9.1) rfl rfl) ?_
          refine f_op rfl rfl (s_as (v := .bool p9.1) rfl) ?_
          refine f_nil ?_
          exact f_ret (.tmp rfl (.nil)) rfl
        · skip
          refine o_know 57 rfl (dec_false h8) ?_
          refine f_no rfl rfl ?_
          refine f_op rfl rfl (s_pickF (v := .bool false) rfl rfl) ?_
          refine f_op rfl rfl (s_as (v := .bool false) rfl) ?_
          refine f_nil ?_
          exact f_ret (.tmp rfl (.nil)) rfl
    · skip
      refine o_know 45 rfl (dec_false h2) ?_
      refine f_no rfl rfl ?_
      refine f_no rfl rfl ?_
      refine f_no rfl rfl ?_
      refine f_no rfl rfl ?_
      refine f_no rfl rfl ?_
      refine f_no rfl rfl ?_
      refine f_no rfl rfl ?_
      refine f_no rfl rfl ?_
      refine f_no rfl rfl ?_
      refine f_no rfl rfl ?_
      refine f_op rfl rfl (s_pickF (v := .bool false) rfl rfl) ?_
      refine f_op rfl rfl (s_mv (v := .bool false) rfl) ?_
      refine f_no rfl rfl ?_
      refine f_op rfl rfl (s_pickF (v := .bool false) rfl rfl) ?_
      refine f_op rfl rfl (s_as (v := .bool false) rfl) ?_
      refine f_nil ?_
      exact f_ret (.tmp rfl (.nil)) rfl
  · skip
    refine f_know 42 rfl (bool_F h1) ?_
    refine f_condF rfl ?_
    refine f_skip ?_
    refine f_seq ?_
    refine f_seq ?_
    refine f_region ?_
    refine f_op rfl rfl (s_mv (v := .int .i64 v1) rfl) ?_
    refine f_op rfl rfl (s_lss rfl rfl) ?_
    refine f_op rfl rfl (s_mv (v := .bool (decide (v1 < 3))) rfl) ?_
    refine o_if (fun h10 => ?_) (fun h10 => ?_)
    · skip
      refine o_know 62 rfl (dec_true h10) ?_
      refine f_no rfl rfl ?_
      refine f_no rfl rfl ?_
      refine f_op rfl rfl (s_pickT (v := .bool true) rfl rfl) ?_
      refine f_op rfl rfl (s_mv (v := .bool true) rfl) ?_
      refine f_no rfl rfl ?_
      refine f_no rfl rfl ?_
      refine f_no rfl rfl ?_
      refine f_no rfl rfl ?_
      refine f_op rfl rfl (s_pickT (v := .bool true) rfl rfl) ?_
      refine f_nil ?_
      refine f_keep [0, 1, 5, 71] ?_
      exact s12_j1 happ v1 v2 v3 true H
    · skip
      refine o_know 62 rfl (dec_false h10) ?_
      refine f_op rfl rfl (s_mv (v := .int .i64 v1) rfl) ?_
      refine f_op rfl rfl (s_gtr rfl rfl) ?_
      refine f_op rfl rfl (s_pickF (v := .bool (decide (9 < v1))) rfl rfl) ?_
      refine f_op rfl rfl (s_mv (v := .bool (decide (9 < v1))) rfl) ?_
      refine o_if (fun h11 => ?_) (fun h11 => ?_)
      · skip
        refine o_know 66 rfl (dec_true h11) ?_
        refine f_no rfl rfl ?_
        refine f_no rfl rfl ?_
        refine f_no rfl rfl ?_
        refine f_no rfl rfl ?_
        refine f_op rfl rfl (s_pickT (v := .bool true) rfl rfl) ?_
        refine f_nil ?_
        refine f_keep [0, 1, 5, 71] ?_
        exact s12_j1 happ v1 v2 v3 true H
      · skip
        refine o_know 66 rfl (dec_false h11) ?_
        refine f_op rfl rfl (s_mv (v := .int .i64 v1) rfl) ?_
        refine f_op rfl rfl (s_mv (v := .sl v2) rfl) ?_
        refine o_bind ?_; intro p12 hp12
        refine f_op rfl rfl (s_callF rfl ok54 (sim54 hp12)) ?_
        refine f_op rfl rfl (s_not rfl) ?_
        refine f_op rfl rfl (s_pickF (v := .bool (!p12.1)) rfl rfl) ?_
        refine f_nil ?_
        refine f_keep [0, 1, 5, 71] ?_
        exact s12_j1 happ v1 v2 v3 (!p12.1) p12.2

theorem sim12 {app : App} (happ : AppSim Try.prog app) {a0 : Int} {a1 : Sl} {H : Hp} {p : Bool × Hp} (h : r12 app a0 a1 H = some p) : CallSim Try.prog 12 [.int .i64 a0, .sl a1] H (.bool p.1) p.2 := by
  refine callSim (fn := Try.f12) (ret := ret12) Try.func12 rfl Try.ntmps12 rfl ?_ h
  unfold r12
  refine f_seq ?_
  refine f_region ?_
  refine f_op rfl rfl (s_as (v := .bool false) rfl) ?_
  refine f_nil ?_
  refine f_seq ?_
  refine f_region ?_
  refine f_op rfl rfl (s_mv (v := .int .i64 a0) rfl) ?_
  refine f_op rfl rfl (s_mv (v := .sl a1) rfl) ?_
  refine o_bind ?_; intro p1 hp1
  refine f_op rfl rfl (s_callF rfl ok52 (sim52 hp1)) ?_
  refine o_bind ?_; intro p2 hp2
  refine f_op rfl rfl (s_callF rfl ok51 (sim51 happ hp2)) ?_
  refine f_op rfl rfl (s_mv (v := .tup [.sl p2.1.1, .int .i64 p2.1.2]) rfl) ?_
  refine f_op rfl rfl (s_extract (r := .sl p2.1.1) rfl rfl) ?_
  refine f_op rfl rfl (s_extract (r := .int .i64 p2.1.2) rfl rfl) ?_
  refine f_op rfl rfl (s_as (v := .sl p2.1.1) rfl) ?_
  refine f_op rfl rfl (s_as (v := .int .i64 p2.1.2) rfl) ?_
  refine f_nil ?_
  refine f_seq ?_
  refine f_region ?_
  refine f_op rfl rfl (s_mv (v := .int .i64 a0) rfl) ?_
  refine f_op rfl rfl (s_mv (v := .sl a1) rfl) ?_
  refine o_bind ?_; intro p3 hp3
  refine f_op rfl rfl (s_callF rfl ok52 (sim52 hp3)) ?_
  refine o_bind ?_; intro p4 hp4
  refine f_op rfl rfl (s_callF rfl ok53 (sim53 happ hp4)) ?_
  refine f_op rfl rfl (s_mv (v := .tup [.bool p4.1.1, .int .i64 p4.1.2]) rfl) ?_
  refine f_op rfl rfl (s_extract (r := .bool p4.1.1) rfl rfl) ?_
  refine f_op rfl rfl (s_extract (r := .int .i64 p4.1.2) rfl rfl) ?_
  refine f_op rfl rfl (s_as (v := .bool p4.1.1) rfl) ?_
  refine f_op rfl rfl (s_as (v := .int .i64 p4.1.2) rfl) ?_
  refine f_nil ?_
  refine f_seq ?_
  refine f_seq ?_
  refine f_region ?_
  refine f_op rfl rfl (s_mv (v := .int .i64 p2.1.2) rfl) ?_
  refine f_op rfl rfl (s_neq rfl rfl) ?_
  refine f_op rfl rfl (s_mv (v := .bool (decide (p2.1.2 ≠ 0))) rfl) ?_
  refine o_if (fun h5 => ?_) (fun h5 => ?_)
  · skip
    refine o_know 35 rfl (dec_true h5) ?_
    refine f_no rfl rfl ?_
    refine f_no rfl rfl ?_
    refine f_op rfl rfl (s_pickT (v := .bool true) rfl rfl) ?_
    refine f_op rfl rfl (s_mv (v := .bool true) rfl) ?_
    refine f_no rfl rfl ?_
    refine f_no rfl rfl ?_
    refine f_op rfl rfl (s_pickT (v := .bool true) rfl rfl) ?_
    refine f_nil ?_
    refine f_keep [0, 1, 5, 6, 7, 8, 42] ?_
    exact s12_j0 happ a0 a1 p2.1.1 p2.1.2 p4.1.1 p4.1.2 true p4.2
  · skip
    refine o_know 35 rfl (dec_false h5) ?_
    refine f_op rfl rfl (s_mv (v := .int .i64 p4.1.2) rfl) ?_
    refine f_op rfl rfl (s_neq rfl rfl) ?_
    refine f_op rfl rfl (s_pickF (v := .bool (decide (p4.1.2 ≠ 0))) rfl rfl) ?_
    refine f_op rfl rfl (s_mv (v := .bool (decide (p4.1.2 ≠ 0))) rfl) ?_
    refine o_if (fun h6 => ?_) (fun h6 => ?_)
    · skip
      refine o_know 39 rfl (dec_true h6) ?_
      refine f_no rfl rfl ?_
      refine f_no rfl rfl ?_
      refine f_op rfl rfl (s_pickT (v := .bool true) rfl rfl) ?_
      refine f_nil ?_
      refine f_keep [0, 1, 5, 6, 7, 8, 42] ?_
      exact s12_j0 happ a0 a1 p2.1.1 p2.1.2 p4.1.1 p4.1.2 true p4.2
    · skip
      refine o_know 39 rfl (dec_false h6) ?_
      refine f_op rfl rfl (s_mv (v := .bool p4.1.1) rfl) ?_
      refine f_op rfl rfl (s_not rfl) ?_
      refine f_op rfl rfl (s_pickF (v := .bool (!p4.1.1)) rfl rfl) ?_
      refine f_nil ?_
      refine f_keep [0, 1, 5, 6, 7, 8, 42] ?_
      exact s12_j0 happ a0 a1 p2.1.1 p2.1.2 p4.1.1 p4.1.2 (!p4.1.1) p4.2

/- 36 slices.Clone[[]int,int] -/
theorem ok36 : FnOk Try.prog 36 := ⟨⟨Try.f36, Try.func36, by kernel_rfl, rfl⟩⟩
theorem sim36 {a0 : Sl} {H : Hp} {p : Sl × Hp} (h : r36 a0 H = some p) : CallSim Try.prog 36 [.sl a0] H (.sl p.1) p.2 := by
  refine callSim (fn := Try.f36) (ret := ret36) Try.func36 rfl Try.ntmps36 rfl ?_ h
  unfold r36
  refine f_seq ?_
  refine f_region ?_
  refine f_op rfl rfl (s_as (v := .sl ⟨true, 0, 0, 0, 0, 0⟩) rfl) ?_
  refine f_nil ?_
  refine f_seq ?_
  refine f_seq ?_
  refine f_region ?_
  refine f_op rfl rfl (s_mv (v := .sl a0) rfl) ?_
  refine f_op rfl rfl (s_eqNil Try.underlying22 rfl rfl) ?_
  refine f_nil ?_
  refine f_if (fun h1 => ?_) (fun h1 => ?_)
  · skip
    refine f_know 4 rfl (bool_T h1) ?_
    refine f_condT rfl ?_
    refine f_seq ?_
    refine f_region ?_
    refine f_op rfl rfl (s_as (v := .sl ⟨true, 0, 0, 0, 0, 0⟩) rfl) ?_
    refine f_nil ?_
    exact f_ret (.tmp rfl (.nil)) rfl
  · skip
    refine f_know 4 rfl (bool_F h1) ?_
    refine f_condF rfl ?_
    refine f_skip ?_
    refine f_seq ?_
    refine f_region ?_
    refine f_op rfl rfl (s_buildSlice0 Try.underlying22 ty3) ?_
    refine f_op rfl rfl (s_mv (v := .sl a0) rfl) ?_
    refine o_bind ?_; intro x2 hx2
    refine o_ck fun g3 => ?_
    refine o_bind ?_; intro x4 hx4
    refine f_op rfl rfl (s_append rfl rfl Try.underlying22 Try.underlying22 ty3 (by decide) rfl (by decide) rfl rfl hx2 g3 hx4) ?_
    refine f_op rfl rfl (s_as (v := .sl x4.1) rfl) ?_
    refine f_nil ?_
    exact f_ret (.tmp rfl (.nil)) rfl

/- 74 congou/pairs.First$1 -/
theorem ok74 : FnOk Try.prog 74 := ⟨⟨Try.f74, Try.func74, by kernel_rfl, rfl⟩⟩
theorem sim74 {a0 : Sl} {c0 : Nat} {H : Hp} {p : Bool × Hp} (h : r74 a0 c0 H = some p) : CallSim Try.prog 74 [.sl a0, .ptr c0 0] H (.bool p.1) p.2 := by
  refine callSim (fn := Try.f74) (ret := ret74) Try.func74 rfl Try.ntmps74 rfl ?_ h
  unfold r74
  refine f_seq ?_
  refine f_region ?_
  refine f_op rfl rfl (s_as (v := .bool false) rfl) ?_
  refine f_nil ?_
  refine f_seq ?_
  refine f_region ?_
  refine f_op rfl rfl (s_mv (v := .sl a0) rfl) ?_
  refine o_bind ?_; intro p1 hp1
  refine f_op rfl rfl (s_callF rfl ok36 (sim36 hp1)) ?_
  refine o_bind ?_; intro H2 hH2
  refine f_op rfl rfl (s_store (s := 1) ty22 rfl rfl rfl hH2) ?_
  refine f_nil ?_
  refine f_seq ?_
  refine f_region ?_
  refine f_op rfl rfl (s_as (v := .bool false) rfl) ?_
  refine f_nil ?_
  exact f_ret (.tmp rfl (.nil)) rfl

/- 90 congou/pairs.Spreads$1 -/
theorem ok90 : FnOk Try.prog 90 := ⟨⟨Try.f90, Try.func90, by kernel_rfl, rfl⟩⟩
theorem s90_l0 {app : App} (happ : AppSim Try.prog app) : ∀ (k_ : Nat) (v1 : Int) (v2 : Sl) (v3 : Nat) (v4 : Nat) (v5 : Int) (H : Hp), Fin Try.prog Try.f90 ret90 69 (todoAt (bodyOf Try.f90) [1, 1, 0, 0] []) [(1, .int .i64 v1), (2, .sl v2), (5, .ptr v3 0), (6, .ptr v4 0), (10, .int .i64 v5)] H (r90_l0 app k_ v1 v2 v3 v4 v5 H) := by
  intro k_
  induction k_ with
  | zero => intro _ _ _ _ _ _; exact f_none
  | succ k_ ih =>
    intro v1 v2 v3 v4 v5 H
    rw [r90_l0]
    refine f_seq ?_
    refine f_seq ?_
    refine f_region ?_
    refine f_op rfl rfl (s_mv (v := .int .i64 v5) rfl) ?_
    refine o_bind ?_; intro x1 hx1
    refine f_op rfl rfl (s_load Try.underlying58 rfl rfl (ldSl_eq hx1)) ?_
    refine f_op rfl rfl (s_lenS rfl Try.underlying58 rfl) ?_
    refine f_op rfl rfl (s_lss rfl rfl) ?_
    refine f_nil ?_
    refine f_if (fun h2 => ?_) (fun h2 => ?_)
    · skip
      refine f_know 26 rfl (dec_true h2) ?_
      refine f_condT rfl ?_
      refine f_skip ?_
      refine f_seq ?_
      refine f_block ?_
      refine f_seq ?_
      refine f_bind ?_; intro x3 hx3
      refine f_ck fun g4 => ?_
      refine f_bind ?_; intro x5 hx5
      refine f_ck fun g6 => ?_
      refine f_bind ?_; intro x7 hx7
      refine f_ck fun g8 => ?_
      refine f_bind ?_; intro x9 hx9
      refine f_ck fun g10 => ?_
      refine f_bind ?_; intro x11 hx11
      refine f_ck fun g12 => ?_
      refine f_bind ?_; intro x13 hx13
      refine f_ck fun g14 => ?_
      refine f_draw (Φ := fun _ => True) (lim := 1000000) [1, 0, 0, 0, 1, 0, 1, 0, 0, 0, 1, 0, 0, 1, 0, 0, 0, 1, 0, 0, 0] (Trc.read rfl rfl rfl (s_load Try.underlying58 rfl rfl (ldSl_eq hx3)) (Trc.pure rfl rfl rfl (.inl fun _ => s_mv (v := .int .i64 v5) rfl) (Trc.pure rfl rfl rfl (.inl fun _ => s_idx Try.underlying58 ty63 rfl rfl g4) (Trc.pure rfl rfl rfl (.inl fun _ => s_idxA Try.underlying63 ty3 rfl rfl (by decide)) (Trc.read rfl rfl rfl (s_load Try.underlying3 rfl rfl (ldI_eq hx5)) (Trc.pure rfl rfl rfl (.inl fun _ => s_shl rfl rfl g6) (Trc.read rfl rfl rfl (s_load Try.underlying58 rfl rfl (ldSl_eq hx7)) (Trc.pure rfl rfl rfl (.inl fun _ => s_mv (v := .int .i64 v5) rfl) (Trc.pure rfl rfl rfl (.inl fun _ => s_idx Try.underlying58 ty63 rfl rfl g8) (Trc.pure rfl rfl rfl (.inl fun _ => s_idxA Try.underlying63 ty3 rfl rfl (by decide)) (Trc.read rfl rfl rfl (s_load Try.underlying3 rfl rfl (ldI_eq hx9)) (Trc.pure rfl rfl rfl (.inl fun _ => s_shl rfl rfl g10) (Trc.pure rfl rfl rfl (.inl fun _ => s_or rfl rfl) (Trc.read rfl rfl rfl (s_load Try.underlying58 rfl rfl (ldSl_eq hx11)) (Trc.pure rfl rfl rfl (.inl fun _ => s_mv (v := .int .i64 v5) rfl) (Trc.pure rfl rfl rfl (.inl fun _ => s_idx Try.underlying58 ty63 rfl rfl g12) (Trc.pure rfl rfl rfl (.inl fun _ => s_idxA Try.underlying63 ty3 rfl rfl (by decide)) (Trc.read rfl rfl rfl (s_load Try.underlying3 rfl rfl (ldI_eq hx13)) (Trc.pure rfl rfl rfl (.inl fun _ => s_shl rfl rfl g14) (Trc.pure rfl rfl rfl (.inl fun _ => s_or rfl rfl) (Trc.pure rfl rfl rfl (.inl fun _ => s_as (v := .int .i64 (bitsOf .or .i64 (bitsOf .or .i64 (shlOf .i64 1 x5) (shlOf .i64 1 x9)) (shlOf .i64 1 x13))) rfl) (Trc.nil (fun _ => trivial))))))))))))))))))))))) rfl (by decide +kernel) mixed ?_
      refine f_seq ?_
      refine f_region ?_
      refine f_op rfl rfl (s_mv (v := .int .i64 (bitsOf .or .i64 (bitsOf .or .i64 (shlOf .i64 1 x5) (shlOf .i64 1 x9)) (shlOf .i64 1 x13))) rfl) ?_
      refine f_op rfl rfl (s_mv (v := .int .i64 v1) rfl) ?_
      refine f_op rfl rfl (s_and rfl rfl) ?_
      refine f_op rfl rfl (s_eql rfl rfl) ?_
      refine f_nil ?_
      refine f_if (fun h15 => ?_) (fun h15 => ?_)
      · skip
        refine f_know 52 rfl (dec_true h15) ?_
        refine f_condT rfl ?_
        refine f_bind ?_; intro x16 hx16
        refine f_ck fun g17 => ?_
        refine f_bind ?_; intro x18 hx18
        refine f_bind ?_; intro p19 hp19
        refine f_ck fun g20 => ?_
        refine f_ck fun g21 => ?_
        refine f_draw (Φ := fun H_ => H_.ld v4 0 = some (x16)) (lim := 15) [0, 0, 0, 0, 0, 0, 0, 0, 0, 0, 0, 0, 0, 2, 2, 2] (Trc.pure rfl rfl rfl (.inr ⟨by decide +kernel, fun _ hp_ => s_load Try.underlying94 rfl rfl hp_⟩) (Trc.pure rfl rfl rfl (.inl fun _ => s_mv (v := .int .i64 v5) rfl) (Trc.pure rfl rfl rfl (.inl fun _ => s_add rfl rfl) (Trc.pure rfl rfl rfl (.inl fun _ => s_mv (v := .int .i64 v1) rfl) (Trc.pure rfl rfl rfl (.inl fun _ => s_mv (v := .int .i64 (bitsOf .or .i64 (bitsOf .or .i64 (shlOf .i64 1 x5) (shlOf .i64 1 x9)) (shlOf .i64 1 x13))) rfl) (Trc.pure rfl rfl rfl (.inl fun _ => s_or rfl rfl) (Trc.pure rfl rfl rfl (.inl fun _ => s_mv (v := .sl v2) rfl) (Trc.pure rfl rfl rfl (.inl fun _ => s_mv (v := .sl v2) rfl) (Trc.pure rfl rfl rfl (.inl fun _ => s_lenS rfl Try.underlying22 rfl) (Trc.pure rfl rfl rfl (.inl fun _ => s_mv (v := .sl v2) rfl) (Trc.pure rfl rfl rfl (.inl fun _ => s_lenS rfl Try.underlying22 rfl) (Trc.pure rfl rfl rfl (.inl fun _ => s_slice3 Try.underlying22 ty3 rfl rfl rfl rfl g17) (Trc.pure rfl rfl rfl (.inl fun _ => s_mv (v := .int .i64 v5) rfl) (Trc.eff rfl rfl rfl (fun _ => ldV_eq hx16) (s_buildSlice (cs := [.int .i64 v5]) Try.underlying22 ty3 (by decide) (by decide) rfl (by decide) rfl) (Trc.eff rfl rfl rfl (fun _ => isV_eq g20) (s_ap rfl rfl Try.underlying22 Try.underlying22 ty3 rfl rfl rfl rfl rfl rfl rfl hx18) (Trc.eff rfl rfl rfl (fun _ => isV_eq g21) (s_callv happ rfl rfl hp19) (Trc.nil (fun h_ => absurd h_ (by decide +kernel))))))))))))))))))) rfl (by decide +kernel) mixed ?_
        refine f_inBlock ?_
        refine f_region ?_
        refine f_op rfl rfl (s_mv (v := .int .i64 v5) rfl) ?_
        refine f_op rfl rfl (s_add rfl rfl) ?_
        refine f_op rfl rfl (s_as (v := .int .i64 (w64 (v5 + 1))) rfl) ?_
        refine f_nil ?_
        refine f_inLoop ?_
        refine f_keep [1, 2, 5, 6, 10] ?_
        exact ih v1 v2 v3 v4 (w64 (v5 + 1)) p19.2
      · skip
        refine f_know 52 rfl (dec_false h15) ?_
        refine f_condF rfl ?_
        refine f_skip ?_
        refine f_inBlock ?_
        refine f_region ?_
        refine f_op rfl rfl (s_mv (v := .int .i64 v5) rfl) ?_
        refine f_op rfl rfl (s_add rfl rfl) ?_
        refine f_op rfl rfl (s_as (v := .int .i64 (w64 (v5 + 1))) rfl) ?_
        refine f_nil ?_
        refine f_inLoop ?_
        refine f_keep [1, 2, 5, 6, 10] ?_
        exact ih v1 v2 v3 v4 (w64 (v5 + 1)) H
    · skip
      refine f_know 26 rfl (dec_false h2) ?_
      refine f_condF rfl ?_
      refine f_exit rfl ?_
      exact f_end (.nil) rfl

theorem sim90 {app : App} (happ : AppSim Try.prog app) {a0 : Int} {a1 : Int} {a2 : Sl} {c0 : Nat} {c1 : Nat} {c2 : Nat} {c3 : Nat} {H : Hp} {p : Unit × Hp} (h : r90 app a0 a1 a2 c0 c1 c2 c3 H = some p) : CallSim Try.prog 90 [.int .i64 a0, .int .i64 a1, .sl a2, .ptr c0 0, .ptr c1 0, .ptr c2 0, .ptr c3 0] H (.tup []) p.2 := by
  refine callSim (fn := Try.f90) (ret := ret90) Try.func90 rfl Try.ntmps90 rfl ?_ h
  unfold r90
  refine f_seq ?_
  refine f_seq ?_
  refine f_region ?_
  refine f_op rfl rfl (s_mv (v := .int .i64 a1) rfl) ?_
  refine o_bind ?_; intro x1 hx1
  refine f_op rfl rfl (s_load Try.underlying3 rfl rfl (ldI_eq hx1)) ?_
  refine o_ck fun g2 => ?_
  refine f_op rfl rfl (s_shl rfl rfl g2) ?_
  refine f_op rfl rfl (s_sub rfl rfl) ?_
  refine f_op rfl rfl (s_eql rfl rfl) ?_
  refine f_nil ?_
  refine f_if (fun h3 => ?_) (fun h3 => ?_)
  · skip
    refine f_know 16 rfl (dec_true h3) ?_
    refine f_condT rfl ?_
    refine f_seq ?_
    refine f_bind ?_; intro x4 hx4
    refine f_bind ?_; intro p5 hp5
    refine f_bind ?_; intro x6 hx6
    refine f_bind ?_; intro H7 hH7
    refine f_ck fun g8 => ?_
    refine f_ck fun g9 => ?_
    refine f_draw (Φ := fun H_ => H_.ld c1 0 = some (.sl x4)) (lim := 4) [0, 0, 2, 2, 2, 2] (Trc.pure rfl rfl rfl (.inr ⟨by decide +kernel, fun _ hp_ => s_load Try.underlying51 rfl rfl hp_⟩) (Trc.pure rfl rfl rfl (.inl fun _ => s_mv (v := .sl a2) rfl) (Trc.eff rfl rfl rfl (fun _ => ldSl_eq hx4) (s_callF rfl ok36 (sim36 hp5)) (Trc.eff rfl rfl rfl (fun _ => ldSl_eq g8) (s_buildSlice (cs := [.sl p5.1]) Try.underlying51 ty22 (by decide) (by decide) rfl (by decide) rfl) (Trc.eff rfl rfl rfl (fun _ => ldSl_eq g9) (s_ap rfl rfl Try.underlying51 Try.underlying51 ty22 rfl rfl rfl rfl rfl rfl rfl hx6) (Trc.eff rfl rfl rfl (fun h_ => absurd h_ (by decide +kernel)) (s_store (s := 1) ty51 rfl rfl rfl hH7) (Trc.nil (fun h_ => absurd h_ (by decide +kernel))))))))) rfl (by decide +kernel) mixed ?_
    exact f_ret (.nil) rfl
  · skip
    refine f_know 16 rfl (dec_false h3) ?_
    refine f_condF rfl ?_
    refine f_skip ?_
    refine f_seq ?_
    refine f_region ?_
    refine f_op rfl rfl (s_mv (v := .int .i64 a0) rfl) ?_
    refine f_op rfl rfl (s_as (v := .int .i64 a0) rfl) ?_
    refine f_nil ?_
    refine f_block ?_
    refine f_loop ?_
    refine f_keep [1, 2, 5, 6, 10] ?_
    exact s90_l0 happ FUEL a1 a2 c2 c3 a0 H

/- 108 slices.Index[[]int,int] -/
theorem ok108 : FnOk Try.prog 108 := ⟨⟨Try.f108, Try.func108, by kernel_rfl, rfl⟩⟩
theorem s108_l0 : ∀ (k_ : Nat) (v1 : Sl) (v2 : Int) (v3 : Int) (v4 : Int) (H : Hp), Fin Try.prog Try.f108 ret108 19 (todoAt (bodyOf Try.f108) [1, 0, 1, 0, 0] []) [(0, .sl v1), (1, .int .i64 v2), (7, .int .i64 v3), (8, .int .i64 v4)] H (r108_l0 k_ v1 v2 v3 v4 H) := by
  intro k_
  induction k_ with
  | zero => intro _ _ _ _ _; exact f_none
  | succ k_ ih =>
    intro v1 v2 v3 v4 H
    rw [r108_l0]
    refine f_seq ?_
    refine f_region ?_
    refine f_op rfl rfl (s_lss rfl rfl) ?_
    refine f_nil ?_
    refine f_seq ?_
    refine f_if (fun h1 => ?_) (fun h1 => ?_)
    · skip
      refine f_know 9 rfl (dec_true h1) ?_
      refine f_condT rfl ?_
      refine f_skip ?_
      refine f_seq ?_
      refine f_block ?_
      refine f_seq ?_
      refine f_region ?_
      refine f_op rfl rfl (s_mv (v := .int .i64 v4) rfl) ?_
      refine f_op rfl rfl (s_as (v := .int .i64 v4) rfl) ?_
      refine f_nil ?_
      refine f_seq ?_
      refine f_region ?_
      refine f_op rfl rfl (s_mv (v := .int .i64 v2) rfl) ?_
      refine f_op rfl rfl (s_mv (v := .sl v1) rfl) ?_
      refine f_op rfl rfl (s_mv (v := .int .i64 v4) rfl) ?_
      refine o_ck fun g2 => ?_
      refine f_op rfl rfl (s_idx Try.underlying22 ty3 rfl rfl g2) ?_
      refine o_bind ?_; intro x3 hx3
      refine f_op rfl rfl (s_load Try.underlying3 rfl rfl (ldI_eq hx3)) ?_
      refine f_op rfl rfl (s_eql rfl rfl) ?_
      refine f_nil ?_
      refine f_if (fun h4 => ?_) (fun h4 => ?_)
      · skip
        refine f_know 16 rfl (dec_true h4) ?_
        refine f_condT rfl ?_
        refine f_seq ?_
        refine f_region ?_
        refine f_op rfl rfl (s_mv (v := .int .i64 v4) rfl) ?_
        refine f_op rfl rfl (s_as (v := .int .i64 v4) rfl) ?_
        refine f_nil ?_
        exact f_ret (.tmp rfl (.nil)) rfl
      · skip
        refine f_know 16 rfl (dec_false h4) ?_
        refine f_condF rfl ?_
        refine f_skip ?_
        refine f_inBlock ?_
        refine f_region ?_
        refine f_op rfl rfl (s_add rfl rfl) ?_
        refine f_op rfl rfl (s_mv (v := .int .i64 (w64 (v4 + 1))) rfl) ?_
        refine f_nil ?_
        refine f_inLoop ?_
        refine f_keep [0, 1, 7, 8] ?_
        exact ih v1 v2 v3 (w64 (v4 + 1)) H
    · skip
      refine f_know 9 rfl (dec_false h1) ?_
      refine f_condF rfl ?_
      refine f_exit rfl ?_
      refine f_seq ?_
      refine f_region ?_
      refine f_op rfl rfl (s_as (v := .int .i64 (-1)) rfl) ?_
      refine f_nil ?_
      exact f_ret (.tmp rfl (.nil)) rfl

theorem sim108 {a0 : Sl} {a1 : Int} {H : Hp} {p : Int × Hp} (h : r108 a0 a1 H = some p) : CallSim Try.prog 108 [.sl a0, .int .i64 a1] H (.int .i64 p.1) p.2 := by
  refine callSim (fn := Try.f108) (ret := ret108) Try.func108 rfl Try.ntmps108 rfl ?_ h
  unfold r108
  refine f_seq ?_
  refine f_region ?_
  refine f_op rfl rfl (s_as (v := .int .i64 0) rfl) ?_
  refine f_nil ?_
  refine f_seq ?_
  refine f_seq ?_
  refine f_region ?_
  refine f_op rfl rfl (s_mv (v := .sl a0) rfl) ?_
  refine f_op rfl rfl (s_lenS rfl Try.underlying22 rfl) ?_
  refine f_op rfl rfl (s_mv (v := .int .i64 0) rfl) ?_
  refine f_nil ?_
  refine f_block ?_
  refine f_loop ?_
  refine f_keep [0, 1, 7, 8] ?_
  exact s108_l0 FUEL a0 a1 (a0.len : Int) 0 H

end Go.Lt.P8
