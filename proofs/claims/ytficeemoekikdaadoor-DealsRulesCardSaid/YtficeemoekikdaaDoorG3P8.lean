/- PRINTED BY A PROGRAM OF OURS: what each function that 'DealsRules' reaches computes on the abstract heap, and that the translated code does just that. Nothing is asked of the input. -/
import Derived.Test.YtficeemoekikdaaDoorG3P7
set_option linter.unusedVariables false
set_option linter.unusedSimpArgs false
set_option maxRecDepth 100000
set_option maxHeartbeats 4000000
namespace Go.Lt.P5
open Go Go.Lt Go.Proofs
/- 31 congou/congouref05.Edge -/
theorem ok31 : FnOk Tryd.prog 31 := ⟨⟨Tryd.f31, Tryd.func31, by kernel_rfl, rfl⟩⟩
theorem s31_j3 (kt0 : Sl → Sl → Int → Hp → Option (Sl × Hp)) (hkt0 : ∀ (v1 : Sl) (v2 : Sl) (v3 : Int) (H : Hp), Fin Tryd.prog Tryd.f31 ret31 110 (todoAt (bodyOf Tryd.f31) [1, 1, 0, 1, 0, 0] []) [(0, .sl v1), (3, .sl v2), (16, .int .i64 v3)] H (kt0 v1 v2 v3 H)) (v1 : Sl) (v2 : Sl) (v3 : Int) (v4 : Int) (v5 : Int) (v6 : Bool) (H : Hp) : Fin Tryd.prog Tryd.f31 ret31 110 (todoAt (bodyOf Tryd.f31) [1, 1, 0, 1, 0, 0, 1, 1, 0, 0, 1, 1, 1, 1] []) [(0, .sl v1), (3, .sl v2), (4, .int .i64 v3), (5, .int .i64 v4), (16, .int .i64 v5), (42, .bool v6)] H (r31_j3 kt0 v1 v2 v3 v4 v5 v6 H) := by
  unfold r31_j3
  refine f_if (fun h1 => ?_) (fun h1 => ?_)
  · skip
    refine f_know 42 rfl (bool_T h1) ?_
    refine f_condT rfl ?_
    refine f_region ?_
    refine f_op rfl rfl (s_mv (v := .sl v2) rfl) ?_
    refine f_op rfl rfl (s_mv (v := .int .i64 v3) rfl) ?_
    refine f_op rfl rfl (s_mv (v := .int .i64 v4) rfl) ?_
    refine f_op rfl rfl (s_buildA (cs := [.int .i64 v3, .int .i64 v4]) Tryd.underlying23 ty23 ty3 rfl rfl) ?_
    refine f_op rfl rfl (s_buildSlice (cs := [.int .i64 v3, .int .i64 v4]) Tryd.underlying22 ty23 (by decide) (by decide) rfl (by decide) rfl) ?_
    refine o_bind ?_; intro x2 hx2
    refine f_op rfl rfl (s_ap rfl rfl Tryd.underlying22 Tryd.underlying22 ty23 rfl rfl rfl rfl rfl rfl rfl hx2) ?_
    refine f_op rfl rfl (s_as (v := .sl x2.1) rfl) ?_
    refine f_nil ?_
    refine f_inBlock ?_
    refine f_region ?_
    refine f_op rfl rfl (s_add rfl rfl) ?_
    refine f_op rfl rfl (s_mv (v := .int .i64 (w64 (v5 + 1))) rfl) ?_
    refine f_nil ?_
    refine f_inLoop ?_
    refine f_keep [0, 3, 16] ?_
    exact hkt0 v1 x2.1 (w64 (v5 + 1)) x2.2
  · skip
    refine f_know 42 rfl (bool_F h1) ?_
    refine f_condF rfl ?_
    refine f_skip ?_
    refine f_inBlock ?_
    refine f_region ?_
    refine f_op rfl rfl (s_add rfl rfl) ?_
    refine f_op rfl rfl (s_mv (v := .int .i64 (w64 (v5 + 1))) rfl) ?_
    refine f_nil ?_
    refine f_inLoop ?_
    refine f_keep [0, 3, 16] ?_
    exact hkt0 v1 v2 (w64 (v5 + 1)) H

theorem s31_l1 (kt0 : Sl → Sl → Int → Hp → Option (Sl × Hp)) (hkt0 : ∀ (v1 : Sl) (v2 : Sl) (v3 : Int) (H : Hp), Fin Tryd.prog Tryd.f31 ret31 110 (todoAt (bodyOf Tryd.f31) [1, 1, 0, 1, 0, 0] []) [(0, .sl v1), (3, .sl v2), (16, .int .i64 v3)] H (kt0 v1 v2 v3 H)) : ∀ (k_ : Nat) (v1 : Sl) (v2 : Sl) (v3 : Int) (v4 : Int) (v5 : Int) (v6 : Sl) (v7 : Int) (v8 : Int) (H : Hp), Fin Tryd.prog Tryd.f31 ret31 110 (todoAt (bodyOf Tryd.f31) [1, 1, 0, 1, 0, 0, 1, 1, 0, 0, 1, 1, 0, 1, 0, 0] []) [(0, .sl v1), (3, .sl v2), (4, .int .i64 v3), (5, .int .i64 v4), (16, .int .i64 v5), (19, .sl v6), (20, .int .i64 v7), (21, .int .i64 v8)] H (r31_l1 kt0 k_ v1 v2 v3 v4 v5 v6 v7 v8 H) := by
  intro k_
  induction k_ with
  | zero => intro _ _ _ _ _ _ _ _ _; exact f_none
  | succ k_ ih =>
    intro v1 v2 v3 v4 v5 v6 v7 v8 H
    rw [r31_l1]
    refine f_seq ?_
    refine f_region ?_
    refine f_op rfl rfl (s_lss rfl rfl) ?_
    refine f_nil ?_
    refine f_seq ?_
    refine f_if (fun h1 => ?_) (fun h1 => ?_)
    · skip
      refine f_know 22 rfl (dec_true h1) ?_
      refine f_condT rfl ?_
      refine f_skip ?_
      refine f_seq ?_
      refine f_block ?_
      refine f_seq ?_
      refine f_region ?_
      refine o_ck fun g2 => ?_
      refine f_op rfl rfl (s_idx Tryd.underlying22 ty23 rfl rfl g2) ?_
      refine o_bind ?_; intro x3 hx3
      refine o_bind ?_; intro x4 hx4
      refine f_op rfl rfl (s_loads Tryd.underlying23 rfl ty23 rfl (lds_cons (ldI_eq hx3) (lds_cons (ldI_eq hx4) (lds_nil)))) ?_
      refine f_op rfl rfl (s_alloc (zs := [.int .i64 0, .int .i64 0]) ty23 rfl rfl) ?_
      refine o_bind ?_; intro H5 hH5
      refine f_op rfl rfl (s_stores ty23 rfl rfl rfl rfl hH5 (Nat.le_of_eq (sts_mono hH5).symm)) ?_
      refine f_nil ?_
      refine f_seq ?_
      refine f_region ?_
      refine f_op rfl rfl (s_idxA Tryd.underlying23 ty3 rfl rfl (by decide)) ?_
      refine o_bind ?_; intro x6 hx6
      refine f_op rfl rfl (s_load Tryd.underlying3 rfl rfl (ldI_eq hx6)) ?_
      refine f_op rfl rfl (s_mv (v := .int .i64 v3) rfl) ?_
      refine f_op rfl rfl (s_eql rfl rfl) ?_
      refine f_nil ?_
      refine f_if (fun h7 => ?_) (fun h7 => ?_)
      · skip
        refine f_know 28 rfl (dec_true h7) ?_
        refine f_condT rfl ?_
        refine f_region ?_
        refine f_op rfl rfl (s_mv (v := .int .i64 v4) rfl) ?_
        refine f_op rfl rfl (s_idxA Tryd.underlying23 ty3 rfl rfl (by decide)) ?_
        refine o_bind ?_; intro x8 hx8
        refine f_op rfl rfl (s_load Tryd.underlying3 rfl rfl (ldI_eq hx8)) ?_
        refine f_op rfl rfl (s_max2 rfl rfl) ?_
        refine f_op rfl rfl (s_as (v := .int .i64 (if v4 < x8 then x8 else v4)) rfl) ?_
        refine f_nil ?_
        refine f_inBlock ?_
        refine f_region ?_
        refine f_op rfl rfl (s_add rfl rfl) ?_
        refine f_op rfl rfl (s_mv (v := .int .i64 (w64 (v8 + 1))) rfl) ?_
        refine f_nil ?_
        refine f_inLoop ?_
        refine f_keep [0, 3, 4, 5, 16, 19, 20, 21] ?_
        exact ih v1 v2 v3 (if v4 < x8 then x8 else v4) v5 v6 v7 (w64 (v8 + 1)) H5
      · skip
        refine f_know 28 rfl (dec_false h7) ?_
        refine f_condF rfl ?_
        refine f_skip ?_
        refine f_inBlock ?_
        refine f_region ?_
        refine f_op rfl rfl (s_add rfl rfl) ?_
        refine f_op rfl rfl (s_mv (v := .int .i64 (w64 (v8 + 1))) rfl) ?_
        refine f_nil ?_
        refine f_inLoop ?_
        refine f_keep [0, 3, 4, 5, 16, 19, 20, 21] ?_
        exact ih v1 v2 v3 v4 v5 v6 v7 (w64 (v8 + 1)) H5
    · skip
      refine f_know 22 rfl (dec_false h1) ?_
      refine f_condF rfl ?_
      refine f_exit rfl ?_
      refine f_seq ?_
      refine f_region ?_
      refine f_op rfl rfl (s_mv (v := .int .i64 v4) rfl) ?_
      refine f_op rfl rfl (s_geq rfl rfl) ?_
      refine f_op rfl rfl (s_mv (v := .bool (decide (0 ≤ v4))) rfl) ?_
      refine o_if (fun h9 => ?_) (fun h9 => ?_)
      · skip
        refine o_know 36 rfl (dec_true h9) ?_
        refine f_op rfl rfl (s_mv (v := .sl v1) rfl) ?_
        refine f_op rfl rfl (s_mv (v := .int .i64 v3) rfl) ?_
        refine f_op rfl rfl (s_mv (v := .int .i64 v4) rfl) ?_
        refine f_op rfl rfl (s_buildA (cs := [.int .i64 v3, .int .i64 v4]) Tryd.underlying23 ty23 ty3 rfl rfl) ?_
        refine o_bind ?_; intro p10 hp10
        refine f_op rfl rfl (s_callF rfl ok49 (sim49 hp10)) ?_
        refine f_op rfl rfl (s_pickT (v := .bool p10.1) rfl rfl) ?_
        refine f_nil ?_
        refine f_keep [0, 3, 4, 5, 16, 42] ?_
        exact s31_j3 _ hkt0 v1 v2 v3 v4 v5 p10.1 p10.2
      · skip
        refine o_know 36 rfl (dec_false h9) ?_
        refine f_no rfl rfl ?_
        refine f_no rfl rfl ?_
        refine f_no rfl rfl ?_
        refine f_no rfl rfl ?_
        refine f_no rfl rfl ?_
        refine f_op rfl rfl (s_pickF (v := .bool false) rfl rfl) ?_
        refine f_nil ?_
        refine f_keep [0, 3, 4, 5, 16, 42] ?_
        exact s31_j3 _ hkt0 v1 v2 v3 v4 v5 false H

theorem s31_l5 (kt4 : Sl → Sl → Int → Nat → Bool → Sl → Int → Int → Sl → Int → Int → Hp → Option (Sl × Hp)) (hkt4 : ∀ (v1 : Sl) (v2 : Sl) (v3 : Int) (v4 : Nat) (v5 : Bool) (v6 : Sl) (v7 : Int) (v8 : Int) (v9 : Sl) (v10 : Int) (v11 : Int) (H : Hp), Fin Tryd.prog Tryd.f31 ret31 110 (todoAt (bodyOf Tryd.f31) [1, 1, 1, 1, 0, 1, 0, 0, 1, 1, 0, 0, 1, 1, 0, 1, 0, 0] []) [(3, .sl v1), (8, .sl v2), (9, .int .i64 v3), (10, .ptr v4 0), (11, .bool v5), (50, .sl v6), (51, .int .i64 v7), (52, .int .i64 v8), (59, .sl v9), (60, .int .i64 v10), (61, .int .i64 v11)] H (kt4 v1 v2 v3 v4 v5 v6 v7 v8 v9 v10 v11 H)) : ∀ (k_ : Nat) (v1 : Sl) (v2 : Sl) (v3 : Int) (v4 : Nat) (v5 : Bool) (v6 : Nat) (v7 : Sl) (v8 : Int) (v9 : Int) (v10 : Sl) (v11 : Int) (v12 : Int) (v13 : Sl) (v14 : Int) (v15 : Int) (H : Hp), Fin Tryd.prog Tryd.f31 ret31 110 (todoAt (bodyOf Tryd.f31) [1, 1, 1, 1, 0, 1, 0, 0, 1, 1, 0, 0, 1, 1, 0, 1, 0, 0, 1, 1, 0, 0, 1, 1, 0, 0] []) [(3, .sl v1), (8, .sl v2), (9, .int .i64 v3), (10, .ptr v4 0), (11, .bool v5), (13, .ptr v6 0), (50, .sl v7), (51, .int .i64 v8), (52, .int .i64 v9), (59, .sl v10), (60, .int .i64 v11), (61, .int .i64 v12), (68, .sl v13), (69, .int .i64 v14), (70, .int .i64 v15)] H (r31_l5 kt4 k_ v1 v2 v3 v4 v5 v6 v7 v8 v9 v10 v11 v12 v13 v14 v15 H) := by
  intro k_
  induction k_ with
  | zero => intro _ _ _ _ _ _ _ _ _ _ _ _ _ _ _ _; exact f_none
  | succ k_ ih =>
    intro v1 v2 v3 v4 v5 v6 v7 v8 v9 v10 v11 v12 v13 v14 v15 H
    rw [r31_l5]
    refine f_seq ?_
    refine f_region ?_
    refine f_op rfl rfl (s_lss rfl rfl) ?_
    refine f_nil ?_
    refine f_seq ?_
    refine f_if (fun h1 => ?_) (fun h1 => ?_)
    · skip
      refine f_know 71 rfl (dec_true h1) ?_
      refine f_condT rfl ?_
      refine f_skip ?_
      refine f_seq ?_
      refine f_block ?_
      refine f_seq ?_
      refine f_region ?_
      refine o_ck fun g2 => ?_
      refine f_op rfl rfl (s_idx Tryd.underlying22 ty23 rfl rfl g2) ?_
      refine o_bind ?_; intro x3 hx3
      refine o_bind ?_; intro x4 hx4
      refine f_op rfl rfl (s_loads Tryd.underlying23 rfl ty23 rfl (lds_cons (ldI_eq hx3) (lds_cons (ldI_eq hx4) (lds_nil)))) ?_
      refine f_op rfl rfl (s_alloc (zs := [.int .i64 0, .int .i64 0]) ty23 rfl rfl) ?_
      refine o_bind ?_; intro H5 hH5
      refine f_op rfl rfl (s_stores ty23 rfl rfl rfl rfl hH5 (Nat.le_of_eq (sts_mono hH5).symm)) ?_
      refine f_nil ?_
      refine f_region ?_
      refine f_op rfl rfl (s_mv (v := .bool v5) rfl) ?_
      refine f_op rfl rfl (s_mv (v := .bool v5) rfl) ?_
      refine o_if (fun h6 => ?_) (fun h6 => ?_)
      · skip
        refine o_know 75 rfl (bool_T h6) ?_
        refine f_no rfl rfl ?_
        refine f_no rfl rfl ?_
        refine f_no rfl rfl ?_
        refine f_no rfl rfl ?_
        refine f_no rfl rfl ?_
        refine f_no rfl rfl ?_
        refine f_no rfl rfl ?_
        refine f_no rfl rfl ?_
        refine f_no rfl rfl ?_
        refine f_no rfl rfl ?_
        refine f_no rfl rfl ?_
        refine f_no rfl rfl ?_
        refine f_no rfl rfl ?_
        refine f_no rfl rfl ?_
        refine f_no rfl rfl ?_
        refine f_no rfl rfl ?_
        refine f_no rfl rfl ?_
        refine f_no rfl rfl ?_
        refine f_no rfl rfl ?_
        refine f_no rfl rfl ?_
        refine f_no rfl rfl ?_
        refine f_no rfl rfl ?_
        refine f_no rfl rfl ?_
        refine f_op rfl rfl (s_pickT (v := .bool true) rfl rfl) ?_
        refine f_op rfl rfl (s_as (v := .bool true) rfl) ?_
        refine f_nil ?_
        refine f_inBlock ?_
        refine f_region ?_
        refine f_op rfl rfl (s_add rfl rfl) ?_
        refine f_op rfl rfl (s_mv (v := .int .i64 (w64 (v15 + 1))) rfl) ?_
        refine f_nil ?_
        refine f_inLoop ?_
        refine f_keep [3, 8, 9, 10, 11, 13, 50, 51, 52, 59, 60, 61, 68, 69, 70] ?_
        exact ih v1 v2 v3 v4 true v6 v7 v8 v9 v10 v11 v12 v13 v14 (w64 (v15 + 1)) H5
      · skip
        refine o_know 75 rfl (bool_F h6) ?_
        refine f_op rfl rfl (s_idxA Tryd.underlying23 ty3 rfl rfl (by decide)) ?_
        refine o_bind ?_; intro x7 hx7
        refine f_op rfl rfl (s_load Tryd.underlying3 rfl rfl (ldI_eq hx7)) ?_
        refine f_op rfl rfl (s_idxA Tryd.underlying23 ty3 rfl rfl (by decide)) ?_
        refine o_bind ?_; intro x8 hx8
        refine f_op rfl rfl (s_load Tryd.underlying3 rfl rfl (ldI_eq hx8)) ?_
        refine f_op rfl rfl (s_sub rfl rfl) ?_
        refine f_op rfl rfl (s_idxA Tryd.underlying23 ty3 rfl rfl (by decide)) ?_
        refine o_bind ?_; intro x9 hx9
        refine f_op rfl rfl (s_load Tryd.underlying3 rfl rfl (ldI_eq hx9)) ?_
        refine f_op rfl rfl (s_idxA Tryd.underlying23 ty3 rfl rfl (by decide)) ?_
        refine o_bind ?_; intro x10 hx10
        refine f_op rfl rfl (s_load Tryd.underlying3 rfl rfl (ldI_eq hx10)) ?_
        refine f_op rfl rfl (s_sub rfl rfl) ?_
        refine f_op rfl rfl (s_mul rfl rfl) ?_
        refine f_op rfl rfl (s_idxA Tryd.underlying23 ty3 rfl rfl (by decide)) ?_
        refine o_bind ?_; intro x11 hx11
        refine f_op rfl rfl (s_load Tryd.underlying3 rfl rfl (ldI_eq hx11)) ?_
        refine f_op rfl rfl (s_idxA Tryd.underlying23 ty3 rfl rfl (by decide)) ?_
        refine o_bind ?_; intro x12 hx12
        refine f_op rfl rfl (s_load Tryd.underlying3 rfl rfl (ldI_eq hx12)) ?_
        refine f_op rfl rfl (s_sub rfl rfl) ?_
        refine f_op rfl rfl (s_idxA Tryd.underlying23 ty3 rfl rfl (by decide)) ?_
        refine o_bind ?_; intro x13 hx13
        refine f_op rfl rfl (s_load Tryd.underlying3 rfl rfl (ldI_eq hx13)) ?_
        refine f_op rfl rfl (s_idxA Tryd.underlying23 ty3 rfl rfl (by decide)) ?_
        refine o_bind ?_; intro x14 hx14
        refine f_op rfl rfl (s_load Tryd.underlying3 rfl rfl (ldI_eq hx14)) ?_
        refine f_op rfl rfl (s_sub rfl rfl) ?_
        refine f_op rfl rfl (s_mul rfl rfl) ?_
        refine f_op rfl rfl (s_eql rfl rfl) ?_
        refine f_op rfl rfl (s_pickF (v := .bool (decide ((w64 ((w64 (x7 - x8)) * (w64 (x9 - x10)))) = (w64 ((w64 (x11 - x12)) * (w64 (x13 - x14))))))) rfl rfl) ?_
        refine f_op rfl rfl (s_as (v := .bool (decide ((w64 ((w64 (x7 - x8)) * (w64 (x9 - x10)))) = (w64 ((w64 (x11 - x12)) * (w64 (x13 - x14))))))) rfl) ?_
        refine f_nil ?_
        refine f_inBlock ?_
        refine f_region ?_
        refine f_op rfl rfl (s_add rfl rfl) ?_
        refine f_op rfl rfl (s_mv (v := .int .i64 (w64 (v15 + 1))) rfl) ?_
        refine f_nil ?_
        refine f_inLoop ?_
        refine f_keep [3, 8, 9, 10, 11, 13, 50, 51, 52, 59, 60, 61, 68, 69, 70] ?_
        exact ih v1 v2 v3 v4 (decide ((w64 ((w64 (x7 - x8)) * (w64 (x9 - x10)))) = (w64 ((w64 (x11 - x12)) * (w64 (x13 - x14)))))) v6 v7 v8 v9 v10 v11 v12 v13 v14 (w64 (v15 + 1)) H5
    · skip
      refine f_know 71 rfl (dec_false h1) ?_
      refine f_condF rfl ?_
      refine f_exit rfl ?_
      refine f_inBlock ?_
      refine f_region ?_
      refine f_op rfl rfl (s_add rfl rfl) ?_
      refine f_op rfl rfl (s_mv (v := .int .i64 (w64 (v12 + 1))) rfl) ?_
      refine f_nil ?_
      refine f_inLoop ?_
      refine f_keep [3, 8, 9, 10, 11, 50, 51, 52, 59, 60, 61] ?_
      exact hkt4 v1 v2 v3 v4 v5 v7 v8 v9 v10 v11 (w64 (v12 + 1)) H

theorem s31_l4 (kt2 : Sl → Sl → Sl → Int → Int → Hp → Option (Sl × Hp)) (hkt2 : ∀ (v1 : Sl) (v2 : Sl) (v3 : Sl) (v4 : Int) (v5 : Int) (H : Hp), Fin Tryd.prog Tryd.f31 ret31 110 (todoAt (bodyOf Tryd.f31) [1, 1, 1, 1, 0, 1, 0, 0] []) [(3, .sl v1), (8, .sl v2), (50, .sl v3), (51, .int .i64 v4), (52, .int .i64 v5)] H (kt2 v1 v2 v3 v4 v5 H)) : ∀ (k_ : Nat) (v1 : Sl) (v2 : Sl) (v3 : Int) (v4 : Nat) (v5 : Bool) (v6 : Sl) (v7 : Int) (v8 : Int) (v9 : Sl) (v10 : Int) (v11 : Int) (H : Hp), Fin Tryd.prog Tryd.f31 ret31 110 (todoAt (bodyOf Tryd.f31) [1, 1, 1, 1, 0, 1, 0, 0, 1, 1, 0, 0, 1, 1, 0, 1, 0, 0] []) [(3, .sl v1), (8, .sl v2), (9, .int .i64 v3), (10, .ptr v4 0), (11, .bool v5), (50, .sl v6), (51, .int .i64 v7), (52, .int .i64 v8), (59, .sl v9), (60, .int .i64 v10), (61, .int .i64 v11)] H (r31_l4 kt2 k_ v1 v2 v3 v4 v5 v6 v7 v8 v9 v10 v11 H) := by
  intro k_
  induction k_ with
  | zero => intro _ _ _ _ _ _ _ _ _ _ _ _; exact f_none
  | succ k_ ih =>
    intro v1 v2 v3 v4 v5 v6 v7 v8 v9 v10 v11 H
    rw [r31_l4]
    refine f_seq ?_
    refine f_region ?_
    refine f_op rfl rfl (s_lss rfl rfl) ?_
    refine f_nil ?_
    refine f_seq ?_
    refine f_if (fun h1 => ?_) (fun h1 => ?_)
    · skip
      refine f_know 62 rfl (dec_true h1) ?_
      refine f_condT rfl ?_
      refine f_skip ?_
      refine f_seq ?_
      refine f_block ?_
      refine f_seq ?_
      refine f_region ?_
      refine o_ck fun g2 => ?_
      refine f_op rfl rfl (s_idx Tryd.underlying22 ty23 rfl rfl g2) ?_
      refine o_bind ?_; intro x3 hx3
      refine o_bind ?_; intro x4 hx4
      refine f_op rfl rfl (s_loads Tryd.underlying23 rfl ty23 rfl (lds_cons (ldI_eq hx3) (lds_cons (ldI_eq hx4) (lds_nil)))) ?_
      refine f_op rfl rfl (s_alloc (zs := [.int .i64 0, .int .i64 0]) ty23 rfl rfl) ?_
      refine o_bind ?_; intro H5 hH5
      refine f_op rfl rfl (s_stores ty23 rfl rfl rfl rfl hH5 (Nat.le_of_eq (sts_mono hH5).symm)) ?_
      refine f_nil ?_
      refine f_seq ?_
      refine f_region ?_
      refine f_op rfl rfl (s_mv (v := .sl v1) rfl) ?_
      refine f_op rfl rfl (s_mv (v := .int .i64 v3) rfl) ?_
      refine f_op rfl rfl (s_add rfl rfl) ?_
      refine o_ck fun g6 => ?_
      refine f_op rfl rfl (s_slice Tryd.underlying22 ty23 rfl rfl rfl g6.1 g6.2) ?_
      refine f_op rfl rfl (s_lenS rfl Tryd.underlying22 rfl) ?_
      refine f_op rfl rfl (s_mv (v := .int .i64 0) rfl) ?_
      refine f_nil ?_
      refine f_block ?_
      refine f_loop ?_
      refine f_keep [3, 8, 9, 10, 11, 13, 50, 51, 52, 59, 60, 61, 68, 69, 70] ?_
      exact s31_l5 _ (fun v1_ v2_ v3_ v4_ v5_ v6_ v7_ v8_ v9_ v10_ v11_ H_ => ih v1_ v2_ v3_ v4_ v5_ v6_ v7_ v8_ v9_ v10_ v11_ H_) FUEL v1 v2 v3 v4 v5 H.n v6 v7 v8 v9 v10 v11 (v1.cut 2 (w64 (v3 + 1) : Int).toNat ((v1.len : Int) : Int).toNat) ((v1.cut 2 (w64 (v3 + 1) : Int).toNat ((v1.len : Int) : Int).toNat).len : Int) 0 H5
    · skip
      refine f_know 62 rfl (dec_false h1) ?_
      refine f_condF rfl ?_
      refine f_exit rfl ?_
      refine f_seq ?_
      refine f_region ?_
      refine f_op rfl rfl (s_mv (v := .bool v5) rfl) ?_
      refine f_op rfl rfl (s_not rfl) ?_
      refine f_nil ?_
      refine f_if (fun h7 => ?_) (fun h7 => ?_)
      · skip
        refine f_know 103 rfl (bool_notT h7) ?_
        refine f_condF rfl ?_
        refine f_skip ?_
        refine f_inBlock ?_
        refine f_region ?_
        refine f_op rfl rfl (s_add rfl rfl) ?_
        refine f_op rfl rfl (s_mv (v := .int .i64 (w64 (v8 + 1))) rfl) ?_
        refine f_nil ?_
        refine f_inLoop ?_
        refine f_keep [3, 8, 50, 51, 52] ?_
        exact hkt2 v1 v2 v6 v7 (w64 (v8 + 1)) H
      · skip
        refine f_know 103 rfl (bool_notF h7) ?_
        refine f_condT rfl ?_
        refine f_region ?_
        refine f_op rfl rfl (s_mv (v := .sl v2) rfl) ?_
        refine o_bind ?_; intro x8 hx8
        refine o_bind ?_; intro x9 hx9
        refine f_op rfl rfl (s_loads Tryd.underlying23 rfl ty23 rfl (lds_cons (ldI_eq hx8) (lds_cons (ldI_eq hx9) (lds_nil)))) ?_
        refine f_op rfl rfl (s_buildSlice (cs := [.int .i64 x8, .int .i64 x9]) Tryd.underlying22 ty23 (by decide) (by decide) rfl (by decide) rfl) ?_
        refine o_bind ?_; intro x10 hx10
        refine f_op rfl rfl (s_ap rfl rfl Tryd.underlying22 Tryd.underlying22 ty23 rfl rfl rfl rfl rfl rfl rfl hx10) ?_
        refine f_op rfl rfl (s_as (v := .sl x10.1) rfl) ?_
        refine f_nil ?_
        refine f_inBlock ?_
        refine f_region ?_
        refine f_op rfl rfl (s_add rfl rfl) ?_
        refine f_op rfl rfl (s_mv (v := .int .i64 (w64 (v8 + 1))) rfl) ?_
        refine f_nil ?_
        refine f_inLoop ?_
        refine f_keep [3, 8, 50, 51, 52] ?_
        exact hkt2 v1 x10.1 v6 v7 (w64 (v8 + 1)) x10.2

theorem s31_l2 : ∀ (k_ : Nat) (v1 : Sl) (v2 : Sl) (v3 : Sl) (v4 : Int) (v5 : Int) (H : Hp), Fin Tryd.prog Tryd.f31 ret31 110 (todoAt (bodyOf Tryd.f31) [1, 1, 1, 1, 0, 1, 0, 0] []) [(3, .sl v1), (8, .sl v2), (50, .sl v3), (51, .int .i64 v4), (52, .int .i64 v5)] H (r31_l2 k_ v1 v2 v3 v4 v5 H) := by
  intro k_
  induction k_ with
  | zero => intro _ _ _ _ _ _; exact f_none
  | succ k_ ih =>
    intro v1 v2 v3 v4 v5 H
    rw [r31_l2]
    refine f_seq ?_
    refine f_region ?_
    refine f_op rfl rfl (s_lss rfl rfl) ?_
    refine f_nil ?_
    refine f_seq ?_
    refine f_if (fun h1 => ?_) (fun h1 => ?_)
    · skip
      refine f_know 53 rfl (dec_true h1) ?_
      refine f_condT rfl ?_
      refine f_skip ?_
      refine f_seq ?_
      refine f_block ?_
      refine f_seq ?_
      refine f_region ?_
      refine f_op rfl rfl (s_mv (v := .int .i64 v5) rfl) ?_
      refine o_ck fun g2 => ?_
      refine f_op rfl rfl (s_idx Tryd.underlying22 ty23 rfl rfl g2) ?_
      refine o_bind ?_; intro x3 hx3
      refine o_bind ?_; intro x4 hx4
      refine f_op rfl rfl (s_loads Tryd.underlying23 rfl ty23 rfl (lds_cons (ldI_eq hx3) (lds_cons (ldI_eq hx4) (lds_nil)))) ?_
      refine f_op rfl rfl (s_alloc (zs := [.int .i64 0, .int .i64 0]) ty23 rfl rfl) ?_
      refine f_op rfl rfl (s_as (v := .int .i64 v5) rfl) ?_
      refine o_bind ?_; intro H5 hH5
      refine f_op rfl rfl (s_stores ty23 rfl rfl rfl rfl hH5 (Nat.le_of_eq (sts_mono hH5).symm)) ?_
      refine f_nil ?_
      refine f_seq ?_
      refine f_region ?_
      refine f_op rfl rfl (s_as (v := .bool false) rfl) ?_
      refine f_nil ?_
      refine f_seq ?_
      refine f_seq ?_
      refine f_region ?_
      refine f_op rfl rfl (s_mv (v := .sl v1) rfl) ?_
      refine f_op rfl rfl (s_mv (v := .int .i64 v5) rfl) ?_
      refine o_ck fun g6 => ?_
      refine f_op rfl rfl (s_slice Tryd.underlying22 ty23 rfl rfl rfl g6.1 g6.2) ?_
      refine f_op rfl rfl (s_lenS rfl Tryd.underlying22 rfl) ?_
      refine f_op rfl rfl (s_mv (v := .int .i64 0) rfl) ?_
      refine f_nil ?_
      refine f_block ?_
      refine f_loop ?_
      refine f_keep [3, 8, 9, 10, 11, 50, 51, 52, 59, 60, 61] ?_
      exact s31_l4 _ (fun v1_ v2_ v3_ v4_ v5_ H_ => ih v1_ v2_ v3_ v4_ v5_ H_) FUEL v1 v2 v5 H.n false v3 v4 v5 (v1.cut 2 (0 : Int).toNat (v5 : Int).toNat) ((v1.cut 2 (0 : Int).toNat (v5 : Int).toNat).len : Int) 0 H5
    · skip
      refine f_know 53 rfl (dec_false h1) ?_
      refine f_condF rfl ?_
      refine f_exit rfl ?_
      refine f_seq ?_
      refine f_region ?_
      refine f_op rfl rfl (s_mv (v := .sl v2) rfl) ?_
      refine f_op rfl rfl (s_as (v := .sl v2) rfl) ?_
      refine f_nil ?_
      exact f_ret (.tmp rfl (.nil)) rfl

theorem s31_l0 : ∀ (k_ : Nat) (v1 : Sl) (v2 : Sl) (v3 : Int) (H : Hp), Fin Tryd.prog Tryd.f31 ret31 110 (todoAt (bodyOf Tryd.f31) [1, 1, 0, 1, 0, 0] []) [(0, .sl v1), (3, .sl v2), (16, .int .i64 v3)] H (r31_l0 k_ v1 v2 v3 H) := by
  intro k_
  induction k_ with
  | zero => intro _ _ _ _; exact f_none
  | succ k_ ih =>
    intro v1 v2 v3 H
    rw [r31_l0]
    refine f_seq ?_
    refine f_region ?_
    refine f_op rfl rfl (s_lss rfl rfl) ?_
    refine f_nil ?_
    refine f_seq ?_
    refine f_if (fun h1 => ?_) (fun h1 => ?_)
    · skip
      refine f_know 17 rfl (dec_true h1) ?_
      refine f_condT rfl ?_
      refine f_skip ?_
      refine f_seq ?_
      refine f_block ?_
      refine f_seq ?_
      refine f_region ?_
      refine f_op rfl rfl (s_mv (v := .int .i64 v3) rfl) ?_
      refine f_op rfl rfl (s_as (v := .int .i64 v3) rfl) ?_
      refine f_nil ?_
      refine f_seq ?_
      refine f_region ?_
      refine f_op rfl rfl (s_as (v := .int .i64 (-1)) rfl) ?_
      refine f_nil ?_
      refine f_seq ?_
      refine f_seq ?_
      refine f_region ?_
      refine f_op rfl rfl (s_mv (v := .sl v1) rfl) ?_
      refine f_op rfl rfl (s_lenS rfl Tryd.underlying22 rfl) ?_
      refine f_op rfl rfl (s_mv (v := .int .i64 0) rfl) ?_
      refine f_nil ?_
      refine f_block ?_
      refine f_loop ?_
      refine f_keep [0, 3, 4, 5, 16, 19, 20, 21] ?_
      exact s31_l1 _ (fun v1_ v2_ v3_ H_ => ih v1_ v2_ v3_ H_) FUEL v1 v2 v3 (-1) v3 v1 (v1.len : Int) 0 H
    · skip
      refine f_know 17 rfl (dec_false h1) ?_
      refine f_condF rfl ?_
      refine f_exit rfl ?_
      refine f_seq ?_
      refine f_region ?_
      refine f_op rfl rfl (s_as (v := .sl ⟨true, 0, 0, 0, 0, 0⟩) rfl) ?_
      refine f_nil ?_
      refine f_seq ?_
      refine f_seq ?_
      refine f_region ?_
      refine f_op rfl rfl (s_mv (v := .sl v2) rfl) ?_
      refine f_op rfl rfl (s_lenS rfl Tryd.underlying22 rfl) ?_
      refine f_op rfl rfl (s_mv (v := .int .i64 0) rfl) ?_
      refine f_nil ?_
      refine f_block ?_
      refine f_loop ?_
      refine f_keep [3, 8, 50, 51, 52] ?_
      exact s31_l2 FUEL v2 ⟨true, 0, 0, 0, 0, 0⟩ v2 (v2.len : Int) 0 H

theorem sim31 {a0 : Sl} {H : Hp} {p : Sl × Hp} (h : r31 a0 H = some p) : CallSim Tryd.prog 31 [.sl a0] H (.sl p.1) p.2 := by
  refine callSim (fn := Tryd.f31) (ret := ret31) Tryd.func31 rfl Tryd.ntmps31 rfl ?_ h
  unfold r31
  refine f_seq ?_
  refine f_region ?_
  refine f_op rfl rfl (s_as (v := .sl ⟨true, 0, 0, 0, 0, 0⟩) rfl) ?_
  refine f_nil ?_
  refine f_seq ?_
  refine f_region ?_
  refine f_op rfl rfl (s_as (v := .sl ⟨true, 0, 0, 0, 0, 0⟩) rfl) ?_
  refine f_nil ?_
  refine f_seq ?_
  refine f_seq ?_
  refine f_region ?_
  refine f_op rfl rfl (s_mv (v := .int .i64 0) rfl) ?_
  refine f_nil ?_
  refine f_block ?_
  refine f_loop ?_
  refine f_keep [0, 3, 16] ?_
  exact s31_l0 FUEL a0 ⟨true, 0, 0, 0, 0, 0⟩ 0 H

/- 13 congou/congouref05.Product -/
theorem ok13 : FnOk Tryd.prog 13 := ⟨⟨Tryd.f13, Tryd.func13, by kernel_rfl, rfl⟩⟩
theorem s13_j1 (kt0 : Nat → Nat → Sl → Sl → Sl → Int → Int → Hp → Option ((Int × Int × Int × Int) × Hp)) (hkt0 : ∀ (v1 : Nat) (v2 : Nat) (v3 : Sl) (v4 : Sl) (v5 : Sl) (v6 : Int) (v7 : Int) (H : Hp), Fin Tryd.prog Tryd.f13 ret13 150 (todoAt (bodyOf Tryd.f13) [1, 1, 1, 0, 1, 0, 0] []) [(3, .ptr v1 0), (4, .ptr v2 0), (5, .sl v3), (6, .sl v4), (23, .sl v5), (24, .int .i64 v6), (25, .int .i64 v7)] H (kt0 v1 v2 v3 v4 v5 v6 v7 H)) (v1 : Nat) (v2 : Nat) (v3 : Sl) (v4 : Sl) (v5 : Nat) (v6 : Sl) (v7 : Int) (v8 : Int) (v9 : Bool) (H : Hp) : Fin Tryd.prog Tryd.f13 ret13 150 (todoAt (bodyOf Tryd.f13) [1, 1, 1, 0, 1, 0, 0, 1, 1, 0, 0, 1, 1, 1, 1, 1, 1, 1, 1] []) [(3, .ptr v1 0), (4, .ptr v2 0), (5, .sl v3), (6, .sl v4), (13, .ptr v5 0), (23, .sl v6), (24, .int .i64 v7), (25, .int .i64 v8), (103, .bool v9)] H (r13_j1 kt0 v1 v2 v3 v4 v5 v6 v7 v8 v9 H) := by
  unfold r13_j1
  refine f_if (fun h1 => ?_) (fun h1 => ?_)
  · skip
    refine f_know 103 rfl (bool_T h1) ?_
    refine f_condT rfl ?_
    refine f_region ?_
    refine f_op rfl rfl (s_mv (v := .sl v4) rfl) ?_
    refine o_bind ?_; intro x2 hx2
    refine o_bind ?_; intro x3 hx3
    refine o_bind ?_; intro x4 hx4
    refine o_bind ?_; intro x5 hx5
    refine f_op rfl rfl (s_loads Tryd.underlying36 rfl ty36 rfl (lds_cons (ldI_eq hx2) (lds_cons (ldI_eq hx3) (lds_cons (ldI_eq hx4) (lds_cons (ldI_eq hx5) (lds_nil)))))) ?_
    refine f_op rfl rfl (s_buildSlice (cs := [.int .i64 x2, .int .i64 x3, .int .i64 x4, .int .i64 x5]) Tryd.underlying60 ty36 (by decide) (by decide) rfl (by decide) rfl) ?_
    refine o_bind ?_; intro x6 hx6
    refine f_op rfl rfl (s_ap rfl rfl Tryd.underlying60 Tryd.underlying60 ty36 rfl rfl rfl rfl rfl rfl rfl hx6) ?_
    refine f_op rfl rfl (s_as (v := .sl x6.1) rfl) ?_
    refine f_nil ?_
    refine f_inBlock ?_
    refine f_region ?_
    refine f_op rfl rfl (s_add rfl rfl) ?_
    refine f_op rfl rfl (s_mv (v := .int .i64 (w64 (v8 + 1))) rfl) ?_
    refine f_nil ?_
    refine f_inLoop ?_
    refine f_keep [3, 4, 5, 6, 23, 24, 25] ?_
    exact hkt0 v1 v2 v3 x6.1 v6 v7 (w64 (v8 + 1)) x6.2
  · skip
    refine f_know 103 rfl (bool_F h1) ?_
    refine f_condF rfl ?_
    refine f_skip ?_
    refine f_inBlock ?_
    refine f_region ?_
    refine f_op rfl rfl (s_add rfl rfl) ?_
    refine f_op rfl rfl (s_mv (v := .int .i64 (w64 (v8 + 1))) rfl) ?_
    refine f_nil ?_
    refine f_inLoop ?_
    refine f_keep [3, 4, 5, 6, 23, 24, 25] ?_
    exact hkt0 v1 v2 v3 v4 v6 v7 (w64 (v8 + 1)) H

theorem s13_j4 (kt2 : Nat → Nat → Nat → Nat → Sl → Int → Int → Hp → Option ((Int × Int × Int × Int) × Hp)) (hkt2 : ∀ (v1 : Nat) (v2 : Nat) (v3 : Nat) (v4 : Nat) (v5 : Sl) (v6 : Int) (v7 : Int) (H : Hp), Fin Tryd.prog Tryd.f13 ret13 150 (todoAt (bodyOf Tryd.f13) [1, 1, 1, 1, 1, 1, 0, 1, 0, 0] []) [(3, .ptr v1 0), (4, .ptr v2 0), (14, .ptr v3 0), (15, .ptr v4 0), (109, .sl v5), (110, .int .i64 v6), (111, .int .i64 v7)] H (kt2 v1 v2 v3 v4 v5 v6 v7 H)) (v1 : Nat) (v2 : Nat) (v3 : Nat) (v4 : Nat) (v5 : Nat) (v6 : Nat) (v7 : Sl) (v8 : Int) (v9 : Int) (v10 : Bool) (H : Hp) : Fin Tryd.prog Tryd.f13 ret13 150 (todoAt (bodyOf Tryd.f13) [1, 1, 1, 1, 1, 1, 0, 1, 0, 0, 1, 1, 0, 0, 1, 1, 1, 1, 1] []) [(3, .ptr v1 0), (4, .ptr v2 0), (14, .ptr v3 0), (15, .ptr v4 0), (17, .ptr v5 0), (20, .ptr v6 0), (109, .sl v7), (110, .int .i64 v8), (111, .int .i64 v9), (145, .bool v10)] H (r13_j4 kt2 v1 v2 v3 v4 v5 v6 v7 v8 v9 v10 H) := by
  unfold r13_j4
  refine f_if (fun h1 => ?_) (fun h1 => ?_)
  · skip
    refine f_know 145 rfl (bool_T h1) ?_
    refine f_condT rfl ?_
    refine f_bind ?_; intro x2 hx2
    refine f_bind ?_; intro x3 hx3
    refine f_bind ?_; intro x4 hx4
    refine f_bind ?_; intro x5 hx5
    refine f_bind ?_; intro x6 hx6
    refine f_bind ?_; intro x7 hx7
    refine f_bind ?_; intro H8 hH8
    refine f_bind ?_; intro H9 hH9
    refine f_ck fun g10 => ?_
    refine f_ck fun g11 => ?_
    refine f_draw (Φ := fun H_ => H_.ld v6 0 = some (.int .i64 x6) ∧ H_.ld v6 (0 + 1) = some (.int .i64 x7)) (lim := 3) [1, 0, 2, 2] (Trc.read rfl rfl rfl (s_loads Tryd.underlying36 rfl ty36 rfl (lds_cons (ldI_eq hx2) (lds_cons (ldI_eq hx3) (lds_cons (ldI_eq hx4) (lds_cons (ldI_eq hx5) (lds_nil)))))) (Trc.pure rfl rfl rfl (.inr ⟨by decide +kernel, fun _ hp_ => s_loads Tryd.underlying25 rfl ty25 rfl (lds_cons hp_.1 (lds_cons hp_.2 (lds_nil)))⟩) (Trc.eff rfl rfl rfl (fun _ => ⟨ldI_eq hx6, ldI_eq hx7⟩) (s_stores ty36 rfl rfl rfl rfl hH8 (Nat.le_of_eq (sts_mono hH8).symm)) (Trc.eff rfl rfl rfl (fun _ => ⟨ldI_eq g10, ldI_eq g11⟩) (s_stores ty25 rfl rfl rfl rfl hH9 (Nat.le_of_eq (sts_mono hH9).symm)) (Trc.nil (fun h_ => absurd h_ (by decide +kernel))))))) rfl (by decide +kernel) mixed ?_
    refine f_inBlock ?_
    refine f_region ?_
    refine f_op rfl rfl (s_add rfl rfl) ?_
    refine f_op rfl rfl (s_mv (v := .int .i64 (w64 (v9 + 1))) rfl) ?_
    refine f_nil ?_
    refine f_inLoop ?_
    refine f_keep [3, 4, 14, 15, 109, 110, 111] ?_
    exact hkt2 v1 v2 v3 v4 v7 v8 (w64 (v9 + 1)) H9
  · skip
    refine f_know 145 rfl (bool_F h1) ?_
    refine f_condF rfl ?_
    refine f_skip ?_
    refine f_inBlock ?_
    refine f_region ?_
    refine f_op rfl rfl (s_add rfl rfl) ?_
    refine f_op rfl rfl (s_mv (v := .int .i64 (w64 (v9 + 1))) rfl) ?_
    refine f_nil ?_
    refine f_inLoop ?_
    refine f_keep [3, 4, 14, 15, 109, 110, 111] ?_
    exact hkt2 v1 v2 v3 v4 v7 v8 (w64 (v9 + 1)) H

theorem s13_j3 (kt2 : Nat → Nat → Nat → Nat → Sl → Int → Int → Hp → Option ((Int × Int × Int × Int) × Hp)) (hkt2 : ∀ (v1 : Nat) (v2 : Nat) (v3 : Nat) (v4 : Nat) (v5 : Sl) (v6 : Int) (v7 : Int) (H : Hp), Fin Tryd.prog Tryd.f13 ret13 150 (todoAt (bodyOf Tryd.f13) [1, 1, 1, 1, 1, 1, 0, 1, 0, 0] []) [(3, .ptr v1 0), (4, .ptr v2 0), (14, .ptr v3 0), (15, .ptr v4 0), (109, .sl v5), (110, .int .i64 v6), (111, .int .i64 v7)] H (kt2 v1 v2 v3 v4 v5 v6 v7 H)) (v1 : Nat) (v2 : Nat) (v3 : Nat) (v4 : Nat) (v5 : Nat) (v6 : Nat) (v7 : Nat) (v8 : Sl) (v9 : Int) (v10 : Int) (v11 : Bool) (H : Hp) : Fin Tryd.prog Tryd.f13 ret13 150 (todoAt (bodyOf Tryd.f13) [1, 1, 1, 1, 1, 1, 0, 1, 0, 0, 1, 1, 0, 0, 1, 1, 0, 1] []) [(3, .ptr v1 0), (4, .ptr v2 0), (14, .ptr v3 0), (15, .ptr v4 0), (17, .ptr v5 0), (18, .ptr v6 0), (19, .ptr v7 0), (109, .sl v8), (110, .int .i64 v9), (111, .int .i64 v10), (134, .bool v11)] H (r13_j3 kt2 v1 v2 v3 v4 v5 v6 v7 v8 v9 v10 v11 H) := by
  unfold r13_j3
  refine f_if (fun h1 => ?_) (fun h1 => ?_)
  · skip
    refine f_know 134 rfl (bool_T h1) ?_
    refine f_condT rfl ?_
    refine f_exit rfl ?_
    refine f_region ?_
    refine f_op rfl rfl (s_add rfl rfl) ?_
    refine f_op rfl rfl (s_mv (v := .int .i64 (w64 (v10 + 1))) rfl) ?_
    refine f_nil ?_
    refine f_inLoop ?_
    refine f_keep [3, 4, 14, 15, 109, 110, 111] ?_
    exact hkt2 v1 v2 v3 v4 v8 v9 (w64 (v10 + 1)) H
  · skip
    refine f_know 134 rfl (bool_F h1) ?_
    refine f_condF rfl ?_
    refine f_skip ?_
    refine f_seq ?_
    refine f_region ?_
    refine o_bind ?_; intro x2 hx2
    refine o_bind ?_; intro x3 hx3
    refine f_op rfl rfl (s_loads Tryd.underlying25 rfl ty25 rfl (lds_cons (ldI_eq hx2) (lds_cons (ldI_eq hx3) (lds_nil)))) ?_
    refine o_bind ?_; intro x4 hx4
    refine o_bind ?_; intro x5 hx5
    refine f_op rfl rfl (s_loads Tryd.underlying25 rfl ty25 rfl (lds_cons (ldI_eq hx4) (lds_cons (ldI_eq hx5) (lds_nil)))) ?_
    refine o_bind ?_; intro p6 hp6
    refine f_op rfl rfl (s_callO rfl ok36 (sim36 hp6) rfl rfl) ?_
    refine f_op rfl rfl (s_alloc (zs := [.int .i64 0, .int .i64 0]) ty25 rfl rfl) ?_
    refine o_bind ?_; intro H7 hH7
    refine f_op rfl rfl (s_stores ty25 rfl rfl rfl rfl hH7 (Nat.le_of_eq (sts_mono hH7).symm)) ?_
    refine f_nil ?_
    refine f_seq ?_
    refine f_region ?_
    refine o_bind ?_; intro x8 hx8
    refine o_bind ?_; intro x9 hx9
    refine f_op rfl rfl (s_loads Tryd.underlying25 rfl ty25 rfl (lds_cons (ldI_eq hx8) (lds_cons (ldI_eq hx9) (lds_nil)))) ?_
    refine o_bind ?_; intro x10 hx10
    refine o_bind ?_; intro x11 hx11
    refine f_op rfl rfl (s_loads Tryd.underlying25 rfl ty25 rfl (lds_cons (ldI_eq hx10) (lds_cons (ldI_eq hx11) (lds_nil)))) ?_
    refine o_bind ?_; intro p12 hp12
    refine f_op rfl rfl (s_callO rfl ok34 (sim34 hp12) rfl rfl) ?_
    refine f_op rfl rfl (s_mv (v := .bool p12.1) rfl) ?_
    refine o_if (fun h13 => ?_) (fun h13 => ?_)
    · skip
      refine o_know 141 rfl (bool_T h13) ?_
      refine f_no rfl rfl ?_
      refine f_no rfl rfl ?_
      refine f_no rfl rfl ?_
      refine f_op rfl rfl (s_pickT (v := .bool true) rfl rfl) ?_
      refine f_nil ?_
      refine f_keep [3, 4, 14, 15, 17, 20, 109, 110, 111, 145] ?_
      exact s13_j4 _ hkt2 v1 v2 v3 v4 v5 H.n v8 v9 v10 true H7
    · skip
      refine o_know 141 rfl (bool_F h13) ?_
      refine f_op rfl rfl (s_fieldAddr Tryd.underlying25 rfl ty3 rfl) ?_
      refine o_bind ?_; intro x14 hx14
      refine f_op rfl rfl (s_load Tryd.underlying3 rfl rfl (ldI_eq hx14)) ?_
      refine f_op rfl rfl (s_eql rfl rfl) ?_
      refine f_op rfl rfl (s_pickF (v := .bool (decide (x14 = 0))) rfl rfl) ?_
      refine f_nil ?_
      refine f_keep [3, 4, 14, 15, 17, 20, 109, 110, 111, 145] ?_
      exact s13_j4 _ hkt2 v1 v2 v3 v4 v5 H.n v8 v9 v10 (decide (x14 = 0)) H7

theorem s13_l2 : ∀ (k_ : Nat) (v1 : Nat) (v2 : Nat) (v3 : Nat) (v4 : Nat) (v5 : Sl) (v6 : Int) (v7 : Int) (H : Hp), Fin Tryd.prog Tryd.f13 ret13 150 (todoAt (bodyOf Tryd.f13) [1, 1, 1, 1, 1, 1, 0, 1, 0, 0] []) [(3, .ptr v1 0), (4, .ptr v2 0), (14, .ptr v3 0), (15, .ptr v4 0), (109, .sl v5), (110, .int .i64 v6), (111, .int .i64 v7)] H (r13_l2 k_ v1 v2 v3 v4 v5 v6 v7 H) := by
  intro k_
  induction k_ with
  | zero => intro _ _ _ _ _ _ _ _; exact f_none
  | succ k_ ih =>
    intro v1 v2 v3 v4 v5 v6 v7 H
    rw [r13_l2]
    refine f_seq ?_
    refine f_region ?_
    refine f_op rfl rfl (s_lss rfl rfl) ?_
    refine f_nil ?_
    refine f_seq ?_
    refine f_if (fun h1 => ?_) (fun h1 => ?_)
    · skip
      refine f_know 112 rfl (dec_true h1) ?_
      refine f_condT rfl ?_
      refine f_skip ?_
      refine f_seq ?_
      refine f_block ?_
      refine f_seq ?_
      refine f_region ?_
      refine o_ck fun g2 => ?_
      refine f_op rfl rfl (s_idx Tryd.underlying60 ty36 rfl rfl g2) ?_
      refine o_bind ?_; intro x3 hx3
      refine o_bind ?_; intro x4 hx4
      refine o_bind ?_; intro x5 hx5
      refine o_bind ?_; intro x6 hx6
      refine f_op rfl rfl (s_loads Tryd.underlying36 rfl ty36 rfl (lds_cons (ldI_eq hx3) (lds_cons (ldI_eq hx4) (lds_cons (ldI_eq hx5) (lds_cons (ldI_eq hx6) (lds_nil)))))) ?_
      refine f_op rfl rfl (s_alloc (zs := [.int .i64 0, .int .i64 0, .int .i64 0, .int .i64 0]) ty36 rfl rfl) ?_
      refine o_bind ?_; intro H7 hH7
      refine f_op rfl rfl (s_stores ty36 rfl rfl rfl rfl hH7 (Nat.le_of_eq (sts_mono hH7).symm)) ?_
      refine f_nil ?_
      refine f_seq ?_
      refine f_bind ?_; intro x8 hx8
      refine f_bind ?_; intro x9 hx9
      refine f_bind ?_; intro x10 hx10
      refine f_bind ?_; intro p11 hp11
      refine f_bind ?_; intro p12 hp12
      refine f_bind ?_; intro x13 hx13
      refine f_bind ?_; intro x14 hx14
      refine f_bind ?_; intro x15 hx15
      refine f_bind ?_; intro p16 hp16
      refine f_bind ?_; intro p17 hp17
      refine f_bind ?_; intro H18 hH18
      refine f_bind ?_; intro H19 hH19
      refine f_drawF (Φ := fun _ => True) (lim := 1000000) [0, 1, 0, 1, 0, 0, 0, 1, 0, 1, 0, 0, 2, 2, 2, 2] [false, false, false, false, false, false, false, false, false, false, false, false, true, true, false, false] 12 14 (Trc.pure rfl rfl rfl (.inl fun _ => s_fieldAddr Tryd.underlying36 rfl ty25 rfl) (Trc.read rfl rfl rfl (s_loads Tryd.underlying25 rfl ty25 rfl (lds_cons (ldI_eq hx8) (lds_cons (ldI_eq hx9) (lds_nil)))) (Trc.pure rfl rfl rfl (.inl fun _ => s_idxA Tryd.underlying23 ty3 rfl rfl (by decide)) (Trc.read rfl rfl rfl (s_load Tryd.underlying3 rfl rfl (ldI_eq hx10)) (Trc.pure rfl rfl rfl (.inl fun _ => s_callO rfl ok30 (sim30 hp11) rfl rfl) (Trc.pure rfl rfl rfl (.inl fun _ => s_callO rfl ok35 (sim35 hp12) rfl rfl) (Trc.pure rfl rfl rfl (.inl fun _ => s_fieldAddr Tryd.underlying36 rfl ty25 rfl) (Trc.read rfl rfl rfl (s_loads Tryd.underlying25 rfl ty25 rfl (lds_cons (ldI_eq hx13) (lds_cons (ldI_eq hx14) (lds_nil)))) (Trc.pure rfl rfl rfl (.inl fun _ => s_idxA Tryd.underlying23 ty3 rfl rfl (by decide)) (Trc.read rfl rfl rfl (s_load Tryd.underlying3 rfl rfl (ldI_eq hx15)) (Trc.pure rfl rfl rfl (.inl fun _ => s_callO rfl ok30 (sim30 hp16) rfl rfl) (Trc.pure rfl rfl rfl (.inl fun _ => s_callO rfl ok35 (sim35 hp17) rfl rfl) (Trc.fl .p rfl rfl rfl (fun _ => trivial) rfl (by rfl) (fun _ => s_alloc (zs := [.int .i64 0, .int .i64 0]) ty25 rfl rfl) (Trc.fl .p rfl rfl rfl (fun _ => trivial) rfl (by rfl) (fun _ => s_alloc (zs := [.int .i64 0, .int .i64 0]) ty25 rfl rfl) (Trc.eff rfl rfl rfl (fun _ => trivial) (s_stores ty25 rfl rfl rfl rfl hH18 (Nat.le_of_eq (sts_mono hH18).symm)) (Trc.eff rfl rfl rfl (fun _ => trivial) (s_stores ty25 rfl rfl rfl rfl hH19 (Nat.le_of_eq (sts_mono hH19).symm)) (Trc.nil (fun _ => trivial)))))))))))))))))) rfl rfl (by decide +kernel) mixed ?_
      refine f_seq ?_
      refine f_seq ?_
      refine f_region ?_
      refine f_op rfl rfl (s_fieldAddr Tryd.underlying25 rfl ty3 rfl) ?_
      refine o_bind ?_; intro x20 hx20
      refine f_op rfl rfl (s_load Tryd.underlying3 rfl rfl (ldI_eq hx20)) ?_
      refine f_op rfl rfl (s_leq rfl rfl) ?_
      refine f_op rfl rfl (s_mv (v := .bool (decide (x20 ≤ 0))) rfl) ?_
      refine o_if (fun h21 => ?_) (fun h21 => ?_)
      · skip
        refine o_know 130 rfl (dec_true h21) ?_
        refine f_no rfl rfl ?_
        refine f_no rfl rfl ?_
        refine f_no rfl rfl ?_
        refine f_op rfl rfl (s_pickT (v := .bool true) rfl rfl) ?_
        refine f_nil ?_
        refine f_keep [3, 4, 14, 15, 17, 18, 19, 109, 110, 111, 134] ?_
        exact s13_j3 _ (fun v1_ v2_ v3_ v4_ v5_ v6_ v7_ H_ => ih v1_ v2_ v3_ v4_ v5_ v6_ v7_ H_) v1 v2 v3 v4 H.n H7.n ((H7.push (.cells [.int .i64 0, .int .i64 0] false)).n) v5 v6 v7 true H19
      · skip
        refine o_know 130 rfl (dec_false h21) ?_
        refine f_op rfl rfl (s_fieldAddr Tryd.underlying25 rfl ty3 rfl) ?_
        refine o_bind ?_; intro x22 hx22
        refine f_op rfl rfl (s_load Tryd.underlying3 rfl rfl (ldI_eq hx22)) ?_
        refine f_op rfl rfl (s_leq rfl rfl) ?_
        refine f_op rfl rfl (s_pickF (v := .bool (decide (x22 ≤ 0))) rfl rfl) ?_
        refine f_nil ?_
        refine f_keep [3, 4, 14, 15, 17, 18, 19, 109, 110, 111, 134] ?_
        exact s13_j3 _ (fun v1_ v2_ v3_ v4_ v5_ v6_ v7_ H_ => ih v1_ v2_ v3_ v4_ v5_ v6_ v7_ H_) v1 v2 v3 v4 H.n H7.n ((H7.push (.cells [.int .i64 0, .int .i64 0] false)).n) v5 v6 v7 (decide (x22 ≤ 0)) H19
    · skip
      refine f_know 112 rfl (dec_false h1) ?_
      refine f_condF rfl ?_
      refine f_exit rfl ?_
      refine f_seq ?_
      refine f_region ?_
      refine o_bind ?_; intro x23 hx23
      refine o_bind ?_; intro x24 hx24
      refine o_bind ?_; intro x25 hx25
      refine o_bind ?_; intro x26 hx26
      refine f_op rfl rfl (s_loads Tryd.underlying36 rfl ty36 rfl (lds_cons (ldI_eq hx23) (lds_cons (ldI_eq hx24) (lds_cons (ldI_eq hx25) (lds_cons (ldI_eq hx26) (lds_nil)))))) ?_
      refine o_bind ?_; intro H27 hH27
      refine f_op rfl rfl (s_stores ty36 rfl rfl rfl rfl hH27 (Nat.le_of_eq (sts_mono hH27).symm)) ?_
      refine f_nil ?_
      refine f_bind ?_; intro x28 hx28
      refine f_bind ?_; intro x29 hx29
      refine f_bind ?_; intro x30 hx30
      refine f_bind ?_; intro x31 hx31
      exact f_ret (.cells Tryd.underlying36 rfl sz36 rfl (lds_cons (ldI_eq hx28) (lds_cons (ldI_eq hx29) (lds_cons (ldI_eq hx30) (lds_cons (ldI_eq hx31) (lds_nil))))) (.nil)) rfl

theorem s13_l0 : ∀ (k_ : Nat) (v1 : Nat) (v2 : Nat) (v3 : Sl) (v4 : Sl) (v5 : Sl) (v6 : Int) (v7 : Int) (H : Hp), Fin Tryd.prog Tryd.f13 ret13 150 (todoAt (bodyOf Tryd.f13) [1, 1, 1, 0, 1, 0, 0] []) [(3, .ptr v1 0), (4, .ptr v2 0), (5, .sl v3), (6, .sl v4), (23, .sl v5), (24, .int .i64 v6), (25, .int .i64 v7)] H (r13_l0 k_ v1 v2 v3 v4 v5 v6 v7 H) := by
  intro k_
  induction k_ with
  | zero => intro _ _ _ _ _ _ _ _; exact f_none
  | succ k_ ih =>
    intro v1 v2 v3 v4 v5 v6 v7 H
    rw [r13_l0]
    refine f_seq ?_
    refine f_region ?_
    refine f_op rfl rfl (s_lss rfl rfl) ?_
    refine f_nil ?_
    refine f_seq ?_
    refine f_if (fun h1 => ?_) (fun h1 => ?_)
    · skip
      refine f_know 26 rfl (dec_true h1) ?_
      refine f_condT rfl ?_
      refine f_skip ?_
      refine f_seq ?_
      refine f_block ?_
      refine f_seq ?_
      refine f_region ?_
      refine f_op rfl rfl (s_mv (v := .int .i64 v7) rfl) ?_
      refine o_ck fun g2 => ?_
      refine f_op rfl rfl (s_idx Tryd.underlying22 ty23 rfl rfl g2) ?_
      refine o_bind ?_; intro x3 hx3
      refine o_bind ?_; intro x4 hx4
      refine f_op rfl rfl (s_loads Tryd.underlying23 rfl ty23 rfl (lds_cons (ldI_eq hx3) (lds_cons (ldI_eq hx4) (lds_nil)))) ?_
      refine f_op rfl rfl (s_alloc (zs := [.int .i64 0, .int .i64 0]) ty23 rfl rfl) ?_
      refine f_op rfl rfl (s_as (v := .int .i64 v7) rfl) ?_
      refine o_bind ?_; intro H5 hH5
      refine f_op rfl rfl (s_stores ty23 rfl rfl rfl rfl hH5 (Nat.le_of_eq (sts_mono hH5).symm)) ?_
      refine f_nil ?_
      refine f_seq ?_
      refine f_region ?_
      refine f_op rfl rfl (s_mv (v := .sl v4) rfl) ?_
      refine o_bind ?_; intro x6 hx6
      refine o_bind ?_; intro x7 hx7
      refine f_op rfl rfl (s_loads Tryd.underlying23 rfl ty23 rfl (lds_cons (ldI_eq hx6) (lds_cons (ldI_eq hx7) (lds_nil)))) ?_
      refine o_bind ?_; intro p8 hp8
      refine f_op rfl rfl (s_callO rfl ok28 (sim28 hp8) rfl rfl) ?_
      refine f_op rfl rfl (s_buildSlice (cs := [.int .i64 p8.1.1, .int .i64 p8.1.2.1, .int .i64 p8.1.2.2.1, .int .i64 p8.1.2.2.2]) Tryd.underlying60 ty36 (by decide) (by decide) rfl (by decide) rfl) ?_
      refine o_bind ?_; intro x9 hx9
      refine f_op rfl rfl (s_ap rfl rfl Tryd.underlying60 Tryd.underlying60 ty36 rfl rfl rfl rfl rfl rfl rfl hx9) ?_
      refine f_op rfl rfl (s_as (v := .sl x9.1) rfl) ?_
      refine f_nil ?_
      refine f_seq ?_
      refine f_seq ?_
      refine f_region ?_
      refine f_op rfl rfl (s_mv (v := .int .i64 v7) rfl) ?_
      refine f_op rfl rfl (s_eql rfl rfl) ?_
      refine f_nil ?_
      refine f_if (fun h10 => ?_) (fun h10 => ?_)
      · skip
        refine f_know 36 rfl (dec_true h10) ?_
        refine f_condT rfl ?_
        refine f_exit rfl ?_
        refine f_region ?_
        refine f_op rfl rfl (s_add rfl rfl) ?_
        refine f_op rfl rfl (s_mv (v := .int .i64 (w64 (v7 + 1))) rfl) ?_
        refine f_nil ?_
        refine f_inLoop ?_
        refine f_keep [3, 4, 5, 6, 23, 24, 25] ?_
        exact ih v1 v2 v3 x9.1 v5 v6 (w64 (v7 + 1)) x9.2
      · skip
        refine f_know 36 rfl (dec_false h10) ?_
        refine f_condF rfl ?_
        refine f_skip ?_
        refine f_seq ?_
        refine f_region ?_
        refine f_op rfl rfl (s_mv (v := .sl v3) rfl) ?_
        refine f_op rfl rfl (s_mv (v := .int .i64 v7) rfl) ?_
        refine f_op rfl rfl (s_sub rfl rfl) ?_
        refine o_ck fun g11 => ?_
        refine f_op rfl rfl (s_idx Tryd.underlying22 ty23 rfl rfl g11) ?_
        refine o_bind ?_; intro x12 hx12
        refine o_bind ?_; intro x13 hx13
        refine f_op rfl rfl (s_loads Tryd.underlying23 rfl ty23 rfl (lds_cons (ldI_eq hx12) (lds_cons (ldI_eq hx13) (lds_nil)))) ?_
        refine f_op rfl rfl (s_alloc (zs := [.int .i64 0, .int .i64 0]) ty23 rfl rfl) ?_
        refine o_bind ?_; intro H14 hH14
        refine f_op rfl rfl (s_stores ty23 rfl rfl rfl rfl hH14 (Nat.le_of_eq (sts_mono hH14).symm)) ?_
        refine f_nil ?_
        refine f_seq ?_
        refine f_bind ?_; intro x15 hx15
        refine f_bind ?_; intro x16 hx16
        refine f_bind ?_; intro x17 hx17
        refine f_bind ?_; intro x18 hx18
        refine f_draw (Φ := fun _ => True) (lim := 1000000) [0, 1, 0, 1, 0, 0, 1, 0, 1, 0, 0, 0] (Trc.pure rfl rfl rfl (.inl fun _ => s_idxA Tryd.underlying23 ty3 rfl rfl (by decide)) (Trc.read rfl rfl rfl (s_load Tryd.underlying3 rfl rfl (ldI_eq hx15)) (Trc.pure rfl rfl rfl (.inl fun _ => s_idxA Tryd.underlying23 ty3 rfl rfl (by decide)) (Trc.read rfl rfl rfl (s_load Tryd.underlying3 rfl rfl (ldI_eq hx16)) (Trc.pure rfl rfl rfl (.inl fun _ => s_sub rfl rfl) (Trc.pure rfl rfl rfl (.inl fun _ => s_idxA Tryd.underlying23 ty3 rfl rfl (by decide)) (Trc.read rfl rfl rfl (s_load Tryd.underlying3 rfl rfl (ldI_eq hx17)) (Trc.pure rfl rfl rfl (.inl fun _ => s_idxA Tryd.underlying23 ty3 rfl rfl (by decide)) (Trc.read rfl rfl rfl (s_load Tryd.underlying3 rfl rfl (ldI_eq hx18)) (Trc.pure rfl rfl rfl (.inl fun _ => s_sub rfl rfl) (Trc.pure rfl rfl rfl (.inl fun _ => s_as (v := .int .i64 (w64 (x15 - x16))) rfl) (Trc.pure rfl rfl rfl (.inl fun _ => s_as (v := .int .i64 (w64 (x17 - x18))) rfl) (Trc.nil (fun _ => trivial)))))))))))))) rfl (by decide +kernel) mixed ?_
        refine f_seq ?_
        refine f_region ?_
        refine f_op rfl rfl (s_mv (v := .int .i64 (w64 (x15 - x16))) rfl) ?_
        refine f_op rfl rfl (s_idxA Tryd.underlying23 ty3 rfl rfl (by decide)) ?_
        refine o_bind ?_; intro x19 hx19
        refine f_op rfl rfl (s_load Tryd.underlying3 rfl rfl (ldI_eq hx19)) ?_
        refine f_op rfl rfl (s_mul rfl rfl) ?_
        refine f_op rfl rfl (s_mv (v := .int .i64 (w64 (x17 - x18))) rfl) ?_
        refine f_op rfl rfl (s_idxA Tryd.underlying23 ty3 rfl rfl (by decide)) ?_
        refine o_bind ?_; intro x20 hx20
        refine f_op rfl rfl (s_load Tryd.underlying3 rfl rfl (ldI_eq hx20)) ?_
        refine f_op rfl rfl (s_mul rfl rfl) ?_
        refine f_op rfl rfl (s_add rfl rfl) ?_
        refine f_op rfl rfl (s_mv (v := .int .i64 (w64 (x15 - x16))) rfl) ?_
        refine f_op rfl rfl (s_idxA Tryd.underlying23 ty3 rfl rfl (by decide)) ?_
        refine o_bind ?_; intro x21 hx21
        refine f_op rfl rfl (s_load Tryd.underlying3 rfl rfl (ldI_eq hx21)) ?_
        refine f_op rfl rfl (s_mul rfl rfl) ?_
        refine f_op rfl rfl (s_sub rfl rfl) ?_
        refine f_op rfl rfl (s_mv (v := .int .i64 (w64 (x17 - x18))) rfl) ?_
        refine f_op rfl rfl (s_idxA Tryd.underlying23 ty3 rfl rfl (by decide)) ?_
        refine o_bind ?_; intro x22 hx22
        refine f_op rfl rfl (s_load Tryd.underlying3 rfl rfl (ldI_eq hx22)) ?_
        refine f_op rfl rfl (s_mul rfl rfl) ?_
        refine f_op rfl rfl (s_sub rfl rfl) ?_
        refine f_op rfl rfl (s_as (v := .int .i64 (w64 ((w64 ((w64 ((w64 ((w64 (x15 - x16)) * x19)) + (w64 ((w64 (x17 - x18)) * x20)))) - (w64 ((w64 (x15 - x16)) * x21)))) - (w64 ((w64 (x17 - x18)) * x22))))) rfl) ?_
        refine f_nil ?_
        refine f_seq ?_
        refine f_bind ?_; intro x23 hx23
        refine f_bind ?_; intro p24 hp24
        refine f_bind ?_; intro p25 hp25
        refine f_bind ?_; intro p26 hp26
        refine f_bind ?_; intro x27 hx27
        refine f_bind ?_; intro p28 hp28
        refine f_bind ?_; intro p29 hp29
        refine f_bind ?_; intro p30 hp30
        refine f_bind ?_; intro H31 hH31
        refine f_drawF (Φ := fun _ => True) (lim := 1000000) [0, 1, 0, 0, 0, 0, 0, 0, 0, 1, 0, 0, 0, 0, 0, 0, 0, 2, 2] [false, false, false, false, false, false, false, false, false, false, false, false, false, false, false, false, false, true, false] 17 18 (Trc.pure rfl rfl rfl (.inl fun _ => s_idxA Tryd.underlying23 ty3 rfl rfl (by decide)) (Trc.read rfl rfl rfl (s_load Tryd.underlying3 rfl rfl (ldI_eq hx23)) (Trc.pure rfl rfl rfl (.inl fun _ => s_callO rfl ok30 (sim30 hp24) rfl rfl) (Trc.pure rfl rfl rfl (.inl fun _ => s_mv (v := .int .i64 (w64 ((w64 ((w64 ((w64 ((w64 (x15 - x16)) * x19)) + (w64 ((w64 (x17 - x18)) * x20)))) - (w64 ((w64 (x15 - x16)) * x21)))) - (w64 ((w64 (x17 - x18)) * x22))))) rfl) (Trc.pure rfl rfl rfl (.inl fun _ => s_mv (v := .int .i64 (w64 (x15 - x16))) rfl) (Trc.pure rfl rfl rfl (.inl fun _ => s_mul rfl rfl) (Trc.pure rfl rfl rfl (.inl fun _ => s_callO rfl ok33 (sim33 hp25) rfl rfl) (Trc.pure rfl rfl rfl (.inl fun _ => s_callO rfl ok32 (sim32 hp26) rfl rfl) (Trc.pure rfl rfl rfl (.inl fun _ => s_idxA Tryd.underlying23 ty3 rfl rfl (by decide)) (Trc.read rfl rfl rfl (s_load Tryd.underlying3 rfl rfl (ldI_eq hx27)) (Trc.pure rfl rfl rfl (.inl fun _ => s_callO rfl ok30 (sim30 hp28) rfl rfl) (Trc.pure rfl rfl rfl (.inl fun _ => s_mv (v := .int .i64 (w64 ((w64 ((w64 ((w64 ((w64 (x15 - x16)) * x19)) + (w64 ((w64 (x17 - x18)) * x20)))) - (w64 ((w64 (x15 - x16)) * x21)))) - (w64 ((w64 (x17 - x18)) * x22))))) rfl) (Trc.pure rfl rfl rfl (.inl fun _ => s_mv (v := .int .i64 (w64 (x17 - x18))) rfl) (Trc.pure rfl rfl rfl (.inl fun _ => s_mul rfl rfl) (Trc.pure rfl rfl rfl (.inl fun _ => s_callO rfl ok33 (sim33 hp29) rfl rfl) (Trc.pure rfl rfl rfl (.inl fun _ => s_callO rfl ok32 (sim32 hp30) rfl rfl) (Trc.pure rfl rfl rfl (.inl fun _ => s_build (cs := [.int .i64 p26.1.1, .int .i64 p26.1.2, .int .i64 p30.1.1, .int .i64 p30.1.2]) Tryd.underlying36 ty36 rfl pl36 rfl) (Trc.fl .p rfl rfl rfl (fun _ => trivial) rfl (by rfl) (fun _ => s_alloc (zs := [.int .i64 0, .int .i64 0, .int .i64 0, .int .i64 0]) ty36 rfl rfl) (Trc.eff rfl rfl rfl (fun _ => trivial) (s_stores ty36 rfl rfl rfl rfl hH31 (Nat.le_of_eq (sts_mono hH31).symm)) (Trc.nil (fun _ => trivial))))))))))))))))))))) rfl rfl (by decide +kernel) mixed ?_
        refine f_seq ?_
        refine f_bind ?_; intro x32 hx32
        refine f_bind ?_; intro x33 hx33
        refine f_bind ?_; intro x34 hx34
        refine f_bind ?_; intro p35 hp35
        refine f_bind ?_; intro p36 hp36
        refine f_if (fun h37 => ?_) (fun h37 => ?_)
        · skip
          refine f_draw (Φ := fun _ => True) (lim := 1000000) [0, 1, 0, 1, 0, 0, 0, 0, 0, 0, 0, 0, 0, 0, 0, 0] (Trc.pure rfl rfl rfl (.inl fun _ => s_fieldAddr Tryd.underlying36 rfl ty25 rfl) (Trc.read rfl rfl rfl (s_loads Tryd.underlying25 rfl ty25 rfl (lds_cons (ldI_eq hx32) (lds_cons (ldI_eq hx33) (lds_nil)))) (Trc.pure rfl rfl rfl (.inl fun _ => s_idxA Tryd.underlying23 ty3 rfl rfl (by decide)) (Trc.read rfl rfl rfl (s_load Tryd.underlying3 rfl rfl (ldI_eq hx34)) (Trc.pure rfl rfl rfl (.inl fun _ => s_callO rfl ok30 (sim30 hp35) rfl rfl) (Trc.pure rfl rfl rfl (.inl fun _ => s_callO rfl ok34 (sim34 hp36) rfl rfl) (Trc.pure rfl rfl rfl (.inl fun _ => s_not rfl) (Trc.pure rfl rfl rfl (.inl fun _ => s_mv (v := .bool (!p36.1)) rfl) (Trc.know 95 rfl (bool_notT h37) (Trc.no rfl rfl rfl (Trc.no rfl rfl rfl (Trc.no rfl rfl rfl (Trc.no rfl rfl rfl (Trc.no rfl rfl rfl (Trc.no rfl rfl rfl (Trc.no rfl rfl rfl (Trc.pure rfl rfl rfl (.inl fun _ => s_pickF (v := .bool false) rfl rfl) (Trc.nil (fun _ => trivial))))))))))))))))))) rfl (by decide +kernel) mixed ?_
          refine f_keep [3, 4, 5, 6, 13, 23, 24, 25, 103] ?_
          exact s13_j1 _ (fun v1_ v2_ v3_ v4_ v5_ v6_ v7_ H_ => ih v1_ v2_ v3_ v4_ v5_ v6_ v7_ H_) v1 v2 v3 x9.1 H14.n v5 v6 v7 false H31
        · skip
          refine f_bind ?_; intro x38 hx38
          refine f_bind ?_; intro p39 hp39
          refine f_bind ?_; intro x40 hx40
          refine f_bind ?_; intro x41 hx41
          refine f_bind ?_; intro p42 hp42
          refine f_draw (Φ := fun _ => True) (lim := 1000000) [0, 1, 0, 1, 0, 0, 0, 0, 0, 1, 0, 0, 1, 0, 0, 0] (Trc.pure rfl rfl rfl (.inl fun _ => s_fieldAddr Tryd.underlying36 rfl ty25 rfl) (Trc.read rfl rfl rfl (s_loads Tryd.underlying25 rfl ty25 rfl (lds_cons (ldI_eq hx32) (lds_cons (ldI_eq hx33) (lds_nil)))) (Trc.pure rfl rfl rfl (.inl fun _ => s_idxA Tryd.underlying23 ty3 rfl rfl (by decide)) (Trc.read rfl rfl rfl (s_load Tryd.underlying3 rfl rfl (ldI_eq hx34)) (Trc.pure rfl rfl rfl (.inl fun _ => s_callO rfl ok30 (sim30 hp35) rfl rfl) (Trc.pure rfl rfl rfl (.inl fun _ => s_callO rfl ok34 (sim34 hp36) rfl rfl) (Trc.pure rfl rfl rfl (.inl fun _ => s_not rfl) (Trc.pure rfl rfl rfl (.inl fun _ => s_mv (v := .bool (!p36.1)) rfl) (Trc.know 95 rfl (bool_notF h37) (Trc.pure rfl rfl rfl (.inl fun _ => s_idxA Tryd.underlying23 ty3 rfl rfl (by decide)) (Trc.read rfl rfl rfl (s_load Tryd.underlying3 rfl rfl (ldI_eq hx38)) (Trc.pure rfl rfl rfl (.inl fun _ => s_callO rfl ok30 (sim30 hp39) rfl rfl) (Trc.pure rfl rfl rfl (.inl fun _ => s_fieldAddr Tryd.underlying36 rfl ty25 rfl) (Trc.read rfl rfl rfl (s_loads Tryd.underlying25 rfl ty25 rfl (lds_cons (ldI_eq hx40) (lds_cons (ldI_eq hx41) (lds_nil)))) (Trc.pure rfl rfl rfl (.inl fun _ => s_callO rfl ok34 (sim34 hp42) rfl rfl) (Trc.pure rfl rfl rfl (.inl fun _ => s_not rfl) (Trc.pure rfl rfl rfl (.inl fun _ => s_pickT (v := .bool (!p42.1)) rfl rfl) (Trc.nil (fun _ => trivial))))))))))))))))))) rfl (by decide +kernel) mixed ?_
          refine f_keep [3, 4, 5, 6, 13, 23, 24, 25, 103] ?_
          exact s13_j1 _ (fun v1_ v2_ v3_ v4_ v5_ v6_ v7_ H_ => ih v1_ v2_ v3_ v4_ v5_ v6_ v7_ H_) v1 v2 v3 x9.1 H14.n v5 v6 v7 (!p42.1) H31
    · skip
      refine f_know 26 rfl (dec_false h1) ?_
      refine f_condF rfl ?_
      refine f_exit rfl ?_
      refine f_seq ?_
      refine f_region ?_
      refine f_op rfl rfl (s_alloc (zs := [.int .i64 0, .int .i64 0, .int .i64 0, .int .i64 0]) ty36 rfl rfl) ?_
      refine o_hp ?_; intro H43 hH43
      refine f_nil ?_
      refine f_seq ?_
      refine f_region ?_
      refine f_op rfl rfl (s_alloc (zs := [.int .i64 0, .int .i64 0]) ty25 rfl rfl) ?_
      refine o_hp ?_; intro H44 hH44
      refine f_nil ?_
      refine f_seq ?_
      refine f_seq ?_
      refine f_region ?_
      refine f_op rfl rfl (s_mv (v := .sl v4) rfl) ?_
      refine f_op rfl rfl (s_lenS rfl Tryd.underlying60 rfl) ?_
      refine f_op rfl rfl (s_mv (v := .int .i64 0) rfl) ?_
      refine f_nil ?_
      refine f_block ?_
      refine f_loop ?_
      refine f_keep [3, 4, 14, 15, 109, 110, 111] ?_
      exact s13_l2 FUEL v1 v2 H.n H43.n v4 (v4.len : Int) 0 H44

theorem sim13 {a0 : Sl} {a1_0 : Int} {a1_1 : Int} {H : Hp} {p : (Int × Int × Int × Int) × Hp} (h : r13 a0 a1_0 a1_1 H = some p) : CallSim Tryd.prog 13 [.sl a0, .agg [.int .i64 a1_0, .int .i64 a1_1]] H (.agg [.int .i64 p.1.1, .int .i64 p.1.2.1, .int .i64 p.1.2.2.1, .int .i64 p.1.2.2.2]) p.2 := by
  refine callSim (fn := Tryd.f13) (ret := ret13) Tryd.func13 rfl Tryd.ntmps13 rfl ?_ h
  unfold r13
  refine f_seq ?_
  refine f_region ?_
  refine f_op rfl rfl (s_box (v := .agg [.int .i64 a1_0, .int .i64 a1_1]) rfl rfl) ?_
  refine f_op rfl rfl (s_alloc (zs := [.int .i64 0, .int .i64 0, .int .i64 0, .int .i64 0]) ty36 rfl rfl) ?_
  refine o_hp ?_; intro H1 hH1
  refine f_nil ?_
  refine f_seq ?_
  refine f_region ?_
  refine f_op rfl rfl (s_mv (v := .sl a0) rfl) ?_
  refine o_bind ?_; intro p2 hp2
  refine f_op rfl rfl (s_callF rfl ok31 (sim31 hp2)) ?_
  refine f_op rfl rfl (s_as (v := .sl p2.1) rfl) ?_
  refine f_nil ?_
  refine f_seq ?_
  refine f_region ?_
  refine f_op rfl rfl (s_as (v := .sl ⟨true, 0, 0, 0, 0, 0⟩) rfl) ?_
  refine f_nil ?_
  refine f_seq ?_
  refine f_seq ?_
  refine f_region ?_
  refine f_op rfl rfl (s_mv (v := .sl p2.1) rfl) ?_
  refine f_op rfl rfl (s_lenS rfl Tryd.underlying22 rfl) ?_
  refine f_op rfl rfl (s_mv (v := .int .i64 0) rfl) ?_
  refine f_nil ?_
  refine f_block ?_
  refine f_loop ?_
  refine f_keep [3, 4, 5, 6, 23, 24, 25] ?_
  exact s13_l0 FUEL H.n ((H.push (.cells [.int .i64 a1_0, .int .i64 a1_1] false)).n) p2.1 ⟨true, 0, 0, 0, 0, 0⟩ p2.1 (p2.1.len : Int) 0 p2.2

end Go.Lt.P5
