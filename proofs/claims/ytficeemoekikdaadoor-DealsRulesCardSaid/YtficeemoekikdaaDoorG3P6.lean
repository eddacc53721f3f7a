/- PRINTED BY A PROGRAM OF OURS: what each function that 'DealsRules' reaches computes on the abstract heap, and that the translated code does just that. Nothing is asked of the input. -/
import Derived.Test.YtficeemoekikdaaDoorG3P5
set_option linter.unusedVariables false
set_option linter.unusedSimpArgs false
set_option maxRecDepth 100000
set_option maxHeartbeats 4000000
namespace Go.Lt.P5
open Go Go.Lt Go.Proofs
/- 9 congou/congouref05.Fallback -/
theorem ok9 : FnOk Tryd.prog 9 := ⟨⟨Tryd.f9, Tryd.func9, by kernel_rfl, rfl⟩⟩
theorem sim9 {a0_0 : Int} {a0_1 : Int} {H : Hp} {p : Bool × Hp} (h : r9 a0_0 a0_1 H = some p) : CallSim Tryd.prog 9 [.agg [.int .i64 a0_0, .int .i64 a0_1]] H (.bool p.1) p.2 := by
  refine callSim (fn := Tryd.f9) (ret := ret9) Tryd.func9 rfl Tryd.ntmps9 rfl ?_ h
  unfold r9
  refine f_seq ?_
  refine f_region ?_
  refine f_op rfl rfl (s_box (v := .agg [.int .i64 a0_0, .int .i64 a0_1]) rfl rfl) ?_
  refine f_op rfl rfl (s_as (v := .bool false) rfl) ?_
  refine o_hp ?_; intro H1 hH1
  refine f_nil ?_
  refine f_seq ?_
  refine f_region ?_
  refine f_op rfl rfl (s_idxA Tryd.underlying23 ty3 rfl rfl (by decide)) ?_
  refine o_bind ?_; intro x2 hx2
  refine f_op rfl rfl (s_load Tryd.underlying3 rfl rfl (ldI_eq hx2)) ?_
  refine f_op rfl rfl (s_geq rfl rfl) ?_
  refine f_op rfl rfl (s_mv (v := .bool (decide (0 ≤ x2))) rfl) ?_
  refine o_if (fun h3 => ?_) (fun h3 => ?_)
  · skip
    refine o_know 6 rfl (dec_true h3) ?_
    refine f_op rfl rfl (s_idxA Tryd.underlying23 ty3 rfl rfl (by decide)) ?_
    refine o_bind ?_; intro x4 hx4
    refine f_op rfl rfl (s_load Tryd.underlying3 rfl rfl (ldI_eq hx4)) ?_
    refine f_op rfl rfl (s_leq rfl rfl) ?_
    refine f_op rfl rfl (s_pickT (v := .bool (decide (x4 ≤ 30))) rfl rfl) ?_
    refine f_op rfl rfl (s_mv (v := .bool (decide (x4 ≤ 30))) rfl) ?_
    refine o_if (fun h5 => ?_) (fun h5 => ?_)
    · skip
      refine o_know 11 rfl (dec_true h5) ?_
      refine f_op rfl rfl (s_idxA Tryd.underlying23 ty3 rfl rfl (by decide)) ?_
      refine o_bind ?_; intro x6 hx6
      refine f_op rfl rfl (s_load Tryd.underlying3 rfl rfl (ldI_eq hx6)) ?_
      refine f_op rfl rfl (s_geq rfl rfl) ?_
      refine f_op rfl rfl (s_pickT (v := .bool (decide (0 ≤ x6))) rfl rfl) ?_
      refine f_op rfl rfl (s_mv (v := .bool (decide (0 ≤ x6))) rfl) ?_
      refine o_if (fun h7 => ?_) (fun h7 => ?_)
      · skip
        refine o_know 16 rfl (dec_true h7) ?_
        refine f_op rfl rfl (s_idxA Tryd.underlying23 ty3 rfl rfl (by decide)) ?_
        refine o_bind ?_; intro x8 hx8
        refine f_op rfl rfl (s_load Tryd.underlying3 rfl rfl (ldI_eq hx8)) ?_
        refine f_op rfl rfl (s_leq rfl rfl) ?_
        refine f_op rfl rfl (s_pickT (v := .bool (decide (x8 ≤ 30))) rfl rfl) ?_
        refine f_op rfl rfl (s_as (v := .bool (decide (x8 ≤ 30))) rfl) ?_
        refine f_nil ?_
        exact f_ret (.tmp rfl (.nil)) rfl
      · skip
        refine o_know 16 rfl (dec_false h7) ?_
        refine f_no rfl rfl ?_
        refine f_no rfl rfl ?_
        refine f_no rfl rfl ?_
        refine f_op rfl rfl (s_pickF (v := .bool false) rfl rfl) ?_
        refine f_op rfl rfl (s_as (v := .bool false) rfl) ?_
        refine f_nil ?_
        exact f_ret (.tmp rfl (.nil)) rfl
    · skip
      refine o_know 11 rfl (dec_false h5) ?_
      refine f_no rfl rfl ?_
      refine f_no rfl rfl ?_
      refine f_no rfl rfl ?_
      refine f_op rfl rfl (s_pickF (v := .bool false) rfl rfl) ?_
      refine f_op rfl rfl (s_mv (v := .bool false) rfl) ?_
      refine f_no rfl rfl ?_
      refine f_no rfl rfl ?_
      refine f_no rfl rfl ?_
      refine f_op rfl rfl (s_pickF (v := .bool false) rfl rfl) ?_
      refine f_op rfl rfl (s_as (v := .bool false) rfl) ?_
      refine f_nil ?_
      exact f_ret (.tmp rfl (.nil)) rfl
  · skip
    refine o_know 6 rfl (dec_false h3) ?_
    refine f_no rfl rfl ?_
    refine f_no rfl rfl ?_
    refine f_no rfl rfl ?_
    refine f_op rfl rfl (s_pickF (v := .bool false) rfl rfl) ?_
    refine f_op rfl rfl (s_mv (v := .bool false) rfl) ?_
    refine f_no rfl rfl ?_
    refine f_no rfl rfl ?_
    refine f_no rfl rfl ?_
    refine f_op rfl rfl (s_pickF (v := .bool false) rfl rfl) ?_
    refine f_op rfl rfl (s_mv (v := .bool false) rfl) ?_
    refine f_no rfl rfl ?_
    refine f_no rfl rfl ?_
    refine f_no rfl rfl ?_
    refine f_op rfl rfl (s_pickF (v := .bool false) rfl rfl) ?_
    refine f_op rfl rfl (s_as (v := .bool false) rfl) ?_
    refine f_nil ?_
    exact f_ret (.tmp rfl (.nil)) rfl

/- 8 congou/congouref05.Offers -/
theorem ok8 : FnOk Tryd.prog 8 := ⟨⟨Tryd.f8, Tryd.func8, by kernel_rfl, rfl⟩⟩
theorem s8_l1 (kt0 : Sl → Sl → Int → Int → Hp → Option (Bool × Hp)) (hkt0 : ∀ (v1 : Sl) (v2 : Sl) (v3 : Int) (v4 : Int) (H : Hp), Fin Tryd.prog Tryd.f8 ret8 38 (todoAt (bodyOf Tryd.f8) [1, 0, 1, 0, 0] []) [(0, .sl v1), (7, .sl v2), (8, .int .i64 v3), (9, .int .i64 v4)] H (kt0 v1 v2 v3 v4 H)) : ∀ (k_ : Nat) (v1 : Sl) (v2 : Nat) (v3 : Sl) (v4 : Int) (v5 : Int) (v6 : Sl) (v7 : Int) (v8 : Int) (H : Hp), Fin Tryd.prog Tryd.f8 ret8 38 (todoAt (bodyOf Tryd.f8) [1, 0, 1, 0, 0, 1, 1, 0, 0, 1, 1, 1, 0, 0] []) [(0, .sl v1), (4, .ptr v2 0), (7, .sl v3), (8, .int .i64 v4), (9, .int .i64 v5), (19, .sl v6), (20, .int .i64 v7), (21, .int .i64 v8)] H (r8_l1 kt0 k_ v1 v2 v3 v4 v5 v6 v7 v8 H) := by
  intro k_
  induction k_ with
  | zero => intro _ _ _ _ _ _ _ _ _; exact f_none
  | succ k_ ih =>
    intro v1 v2 v3 v4 v5 v6 v7 v8 H
    rw [r8_l1]
    refine f_seq ?_
    refine f_region ?_
    refine f_op rfl rfl (s_lss rfl rfl) ?_
    refine f_nil ?_
    refine f_seq ?_
    refine f_if (fun h1 => ?_) (fun h1 => ?_)
    · skip
      refine f_know 22 rfl (dec_true h1) ?_
      refine f_condT rfl ?_
      refine f_skip ?_
      refine f_seq ?_
      refine f_block ?_
      refine f_seq ?_
      refine f_region ?_
      refine o_ck fun g2 => ?_
      refine f_op rfl rfl (s_idx Tryd.underlying22 ty23 rfl rfl g2) ?_
      refine o_bind ?_; intro x3 hx3
      refine o_bind ?_; intro x4 hx4
      refine f_op rfl rfl (s_loads Tryd.underlying23 rfl ty23 rfl (lds_cons (ldI_eq hx3) (lds_cons (ldI_eq hx4) (lds_nil)))) ?_
      refine f_op rfl rfl (s_alloc (zs := [.int .i64 0, .int .i64 0]) ty23 rfl rfl) ?_
      refine o_bind ?_; intro H5 hH5
      refine f_op rfl rfl (s_stores ty23 rfl rfl rfl rfl hH5 (Nat.le_of_eq (sts_mono hH5).symm)) ?_
      refine f_nil ?_
      refine f_seq ?_
      refine f_region ?_
      refine o_bind ?_; intro x6 hx6
      refine o_bind ?_; intro x7 hx7
      refine f_op rfl rfl (s_loads Tryd.underlying23 rfl ty23 rfl (lds_cons (ldI_eq hx6) (lds_cons (ldI_eq hx7) (lds_nil)))) ?_
      refine o_bind ?_; intro x8 hx8
      refine o_bind ?_; intro x9 hx9
      refine f_op rfl rfl (s_loads Tryd.underlying23 rfl ty23 rfl (lds_cons (ldI_eq hx8) (lds_cons (ldI_eq hx9) (lds_nil)))) ?_
      refine f_op rfl rfl (s_eqArr eg23 Tryd.underlying23 Tryd.underlying3 ty3 rfl rfl rfl rfl rfl rfl) ?_
      refine f_nil ?_
      refine f_if (fun h10 => ?_) (fun h10 => ?_)
      · skip
        refine f_know 27 rfl (bool_T h10) ?_
        refine f_condT rfl ?_
        refine f_seq ?_
        refine f_region ?_
        refine f_op rfl rfl (s_as (v := .bool false) rfl) ?_
        refine f_nil ?_
        exact f_ret (.tmp rfl (.nil)) rfl
      · skip
        refine f_know 27 rfl (bool_F h10) ?_
        refine f_condF rfl ?_
        refine f_skip ?_
        refine f_inBlock ?_
        refine f_region ?_
        refine f_op rfl rfl (s_add rfl rfl) ?_
        refine f_op rfl rfl (s_mv (v := .int .i64 (w64 (v8 + 1))) rfl) ?_
        refine f_nil ?_
        refine f_inLoop ?_
        refine f_keep [0, 4, 7, 8, 9, 19, 20, 21] ?_
        exact ih v1 v2 v3 v4 v5 v6 v7 (w64 (v8 + 1)) H5
    · skip
      refine f_know 22 rfl (dec_false h1) ?_
      refine f_condF rfl ?_
      refine f_exit rfl ?_
      refine f_inBlock ?_
      refine f_region ?_
      refine f_op rfl rfl (s_add rfl rfl) ?_
      refine f_op rfl rfl (s_mv (v := .int .i64 (w64 (v5 + 1))) rfl) ?_
      refine f_nil ?_
      refine f_inLoop ?_
      refine f_keep [0, 7, 8, 9] ?_
      exact hkt0 v1 v3 v4 (w64 (v5 + 1)) H

theorem s8_l0 : ∀ (k_ : Nat) (v1 : Sl) (v2 : Sl) (v3 : Int) (v4 : Int) (H : Hp), Fin Tryd.prog Tryd.f8 ret8 38 (todoAt (bodyOf Tryd.f8) [1, 0, 1, 0, 0] []) [(0, .sl v1), (7, .sl v2), (8, .int .i64 v3), (9, .int .i64 v4)] H (r8_l0 k_ v1 v2 v3 v4 H) := by
  intro k_
  induction k_ with
  | zero => intro _ _ _ _ _; exact f_none
  | succ k_ ih =>
    intro v1 v2 v3 v4 H
    rw [r8_l0]
    refine f_seq ?_
    refine f_region ?_
    refine f_op rfl rfl (s_lss rfl rfl) ?_
    refine f_nil ?_
    refine f_seq ?_
    refine f_if (fun h1 => ?_) (fun h1 => ?_)
    · skip
      refine f_know 10 rfl (dec_true h1) ?_
      refine f_condT rfl ?_
      refine f_skip ?_
      refine f_seq ?_
      refine f_block ?_
      refine f_seq ?_
      refine f_region ?_
      refine f_op rfl rfl (s_mv (v := .int .i64 v4) rfl) ?_
      refine o_ck fun g2 => ?_
      refine f_op rfl rfl (s_idx Tryd.underlying22 ty23 rfl rfl g2) ?_
      refine o_bind ?_; intro x3 hx3
      refine o_bind ?_; intro x4 hx4
      refine f_op rfl rfl (s_loads Tryd.underlying23 rfl ty23 rfl (lds_cons (ldI_eq hx3) (lds_cons (ldI_eq hx4) (lds_nil)))) ?_
      refine f_op rfl rfl (s_alloc (zs := [.int .i64 0, .int .i64 0]) ty23 rfl rfl) ?_
      refine f_op rfl rfl (s_as (v := .int .i64 v4) rfl) ?_
      refine o_bind ?_; intro H5 hH5
      refine f_op rfl rfl (s_stores ty23 rfl rfl rfl rfl hH5 (Nat.le_of_eq (sts_mono hH5).symm)) ?_
      refine f_nil ?_
      refine f_seq ?_
      refine f_seq ?_
      refine f_region ?_
      refine o_bind ?_; intro x6 hx6
      refine o_bind ?_; intro x7 hx7
      refine f_op rfl rfl (s_loads Tryd.underlying23 rfl ty23 rfl (lds_cons (ldI_eq hx6) (lds_cons (ldI_eq hx7) (lds_nil)))) ?_
      refine o_bind ?_; intro p8 hp8
      refine f_op rfl rfl (s_callO rfl ok9 (sim9 hp8) rfl rfl) ?_
      refine f_op rfl rfl (s_not rfl) ?_
      refine f_nil ?_
      refine f_if (fun h9 => ?_) (fun h9 => ?_)
      · skip
        refine f_know 16 rfl (bool_notT h9) ?_
        refine f_condF rfl ?_
        refine f_skip ?_
        refine f_seq ?_
        refine f_region ?_
        refine f_op rfl rfl (s_mv (v := .sl v1) rfl) ?_
        refine f_op rfl rfl (s_mv (v := .int .i64 v4) rfl) ?_
        refine o_ck fun g10 => ?_
        refine f_op rfl rfl (s_slice Tryd.underlying22 ty23 rfl rfl rfl g10.1 g10.2) ?_
        refine f_op rfl rfl (s_lenS rfl Tryd.underlying22 rfl) ?_
        refine f_op rfl rfl (s_mv (v := .int .i64 0) rfl) ?_
        refine f_nil ?_
        refine f_block ?_
        refine f_loop ?_
        refine f_keep [0, 4, 7, 8, 9, 19, 20, 21] ?_
        exact s8_l1 _ (fun v1_ v2_ v3_ v4_ H_ => ih v1_ v2_ v3_ v4_ H_) FUEL v1 H.n v2 v3 v4 (v1.cut 2 (0 : Int).toNat (v4 : Int).toNat) ((v1.cut 2 (0 : Int).toNat (v4 : Int).toNat).len : Int) 0 H5
      · skip
        refine f_know 16 rfl (bool_notF h9) ?_
        refine f_condT rfl ?_
        refine f_seq ?_
        refine f_region ?_
        refine f_op rfl rfl (s_as (v := .bool false) rfl) ?_
        refine f_nil ?_
        exact f_ret (.tmp rfl (.nil)) rfl
    · skip
      refine f_know 10 rfl (dec_false h1) ?_
      refine f_condF rfl ?_
      refine f_exit rfl ?_
      refine f_seq ?_
      refine f_region ?_
      refine f_op rfl rfl (s_mv (v := .sl v1) rfl) ?_
      refine f_op rfl rfl (s_lenS rfl Tryd.underlying22 rfl) ?_
      refine f_op rfl rfl (s_geq rfl rfl) ?_
      refine f_op rfl rfl (s_mv (v := .bool (decide (1 ≤ (v1.len : Int)))) rfl) ?_
      refine o_if (fun h11 => ?_) (fun h11 => ?_)
      · skip
        refine o_know 33 rfl (dec_true h11) ?_
        refine f_op rfl rfl (s_mv (v := .sl v1) rfl) ?_
        refine f_op rfl rfl (s_lenS rfl Tryd.underlying22 rfl) ?_
        refine f_op rfl rfl (s_leq rfl rfl) ?_
        refine f_op rfl rfl (s_pickT (v := .bool (decide ((v1.len : Int) ≤ 8))) rfl rfl) ?_
        refine f_op rfl rfl (s_as (v := .bool (decide ((v1.len : Int) ≤ 8))) rfl) ?_
        refine f_nil ?_
        exact f_ret (.tmp rfl (.nil)) rfl
      · skip
        refine o_know 33 rfl (dec_false h11) ?_
        refine f_no rfl rfl ?_
        refine f_no rfl rfl ?_
        refine f_no rfl rfl ?_
        refine f_op rfl rfl (s_pickF (v := .bool false) rfl rfl) ?_
        refine f_op rfl rfl (s_as (v := .bool false) rfl) ?_
        refine f_nil ?_
        exact f_ret (.tmp rfl (.nil)) rfl

theorem sim8 {a0 : Sl} {H : Hp} {p : Bool × Hp} (h : r8 a0 H = some p) : CallSim Tryd.prog 8 [.sl a0] H (.bool p.1) p.2 := by
  refine callSim (fn := Tryd.f8) (ret := ret8) Tryd.func8 rfl Tryd.ntmps8 rfl ?_ h
  unfold r8
  refine f_seq ?_
  refine f_region ?_
  refine f_op rfl rfl (s_as (v := .bool false) rfl) ?_
  refine f_nil ?_
  refine f_seq ?_
  refine f_seq ?_
  refine f_region ?_
  refine f_op rfl rfl (s_mv (v := .sl a0) rfl) ?_
  refine f_op rfl rfl (s_lenS rfl Tryd.underlying22 rfl) ?_
  refine f_op rfl rfl (s_mv (v := .int .i64 0) rfl) ?_
  refine f_nil ?_
  refine f_block ?_
  refine f_loop ?_
  refine f_keep [0, 7, 8, 9] ?_
  exact s8_l0 FUEL a0 a0 (a0.len : Int) 0 H

/- 48 congou/congouref05.Limits -/
theorem ok48 : FnOk Tryd.prog 48 := ⟨⟨Tryd.f48, Tryd.func48, by kernel_rfl, rfl⟩⟩
theorem s48_j3 (kt1 : Sl → Sl → Sl → Nat → Sl → Int → Int → Sl → Int → Int → Hp → Option (Sl × Hp)) (hkt1 : ∀ (v1 : Sl) (v2 : Sl) (v3 : Sl) (v4 : Nat) (v5 : Sl) (v6 : Int) (v7 : Int) (v8 : Sl) (v9 : Int) (v10 : Int) (H : Hp), Fin Tryd.prog Tryd.f48 ret48 117 (todoAt (bodyOf Tryd.f48) [1, 1, 0, 1, 0, 0, 1, 1, 0, 0, 1, 1, 1, 0, 0] []) [(0, .sl v1), (3, .sl v2), (4, .sl v3), (6, .ptr v4 0), (14, .sl v5), (15, .int .i64 v6), (16, .int .i64 v7), (29, .sl v8), (30, .int .i64 v9), (31, .int .i64 v10)] H (kt1 v1 v2 v3 v4 v5 v6 v7 v8 v9 v10 H)) (v1 : Sl) (v2 : Sl) (v3 : Sl) (v4 : Nat) (v5 : Nat) (v6 : Sl) (v7 : Int) (v8 : Int) (v9 : Sl) (v10 : Int) (v11 : Int) (v12 : Bool) (H : Hp) : Fin Tryd.prog Tryd.f48 ret48 117 (todoAt (bodyOf Tryd.f48) [1, 1, 0, 1, 0, 0, 1, 1, 0, 0, 1, 1, 1, 0, 0, 1, 1, 0, 0, 1, 1] []) [(0, .sl v1), (3, .sl v2), (4, .sl v3), (6, .ptr v4 0), (8, .ptr v5 0), (14, .sl v6), (15, .int .i64 v7), (16, .int .i64 v8), (29, .sl v9), (30, .int .i64 v10), (31, .int .i64 v11), (46, .bool v12)] H (r48_j3 kt1 v1 v2 v3 v4 v5 v6 v7 v8 v9 v10 v11 v12 H) := by
  unfold r48_j3
  refine f_if (fun h1 => ?_) (fun h1 => ?_)
  · skip
    refine f_know 46 rfl (bool_T h1) ?_
    refine f_condT rfl ?_
    refine f_region ?_
    refine f_op rfl rfl (s_mv (v := .sl v2) rfl) ?_
    refine f_op rfl rfl (s_idxA Tryd.underlying23 ty3 rfl rfl (by decide)) ?_
    refine o_bind ?_; intro x2 hx2
    refine f_op rfl rfl (s_load Tryd.underlying3 rfl rfl (ldI_eq hx2)) ?_
    refine f_op rfl rfl (s_idxA Tryd.underlying23 ty3 rfl rfl (by decide)) ?_
    refine o_bind ?_; intro x3 hx3
    refine f_op rfl rfl (s_load Tryd.underlying3 rfl rfl (ldI_eq hx3)) ?_
    refine f_op rfl rfl (s_sub rfl rfl) ?_
    refine f_op rfl rfl (s_idxA Tryd.underlying23 ty3 rfl rfl (by decide)) ?_
    refine o_bind ?_; intro x4 hx4
    refine f_op rfl rfl (s_load Tryd.underlying3 rfl rfl (ldI_eq hx4)) ?_
    refine f_op rfl rfl (s_idxA Tryd.underlying23 ty3 rfl rfl (by decide)) ?_
    refine o_bind ?_; intro x5 hx5
    refine f_op rfl rfl (s_load Tryd.underlying3 rfl rfl (ldI_eq hx5)) ?_
    refine f_op rfl rfl (s_sub rfl rfl) ?_
    refine f_op rfl rfl (s_idxA Tryd.underlying23 ty3 rfl rfl (by decide)) ?_
    refine o_bind ?_; intro x6 hx6
    refine f_op rfl rfl (s_load Tryd.underlying3 rfl rfl (ldI_eq hx6)) ?_
    refine f_op rfl rfl (s_idxA Tryd.underlying23 ty3 rfl rfl (by decide)) ?_
    refine o_bind ?_; intro x7 hx7
    refine f_op rfl rfl (s_load Tryd.underlying3 rfl rfl (ldI_eq hx7)) ?_
    refine f_op rfl rfl (s_sub rfl rfl) ?_
    refine f_op rfl rfl (s_idxA Tryd.underlying23 ty3 rfl rfl (by decide)) ?_
    refine o_bind ?_; intro x8 hx8
    refine f_op rfl rfl (s_load Tryd.underlying3 rfl rfl (ldI_eq hx8)) ?_
    refine f_op rfl rfl (s_mul rfl rfl) ?_
    refine f_op rfl rfl (s_idxA Tryd.underlying23 ty3 rfl rfl (by decide)) ?_
    refine o_bind ?_; intro x9 hx9
    refine f_op rfl rfl (s_load Tryd.underlying3 rfl rfl (ldI_eq hx9)) ?_
    refine f_op rfl rfl (s_idxA Tryd.underlying23 ty3 rfl rfl (by decide)) ?_
    refine o_bind ?_; intro x10 hx10
    refine f_op rfl rfl (s_load Tryd.underlying3 rfl rfl (ldI_eq hx10)) ?_
    refine f_op rfl rfl (s_sub rfl rfl) ?_
    refine f_op rfl rfl (s_idxA Tryd.underlying23 ty3 rfl rfl (by decide)) ?_
    refine o_bind ?_; intro x11 hx11
    refine f_op rfl rfl (s_load Tryd.underlying3 rfl rfl (ldI_eq hx11)) ?_
    refine f_op rfl rfl (s_mul rfl rfl) ?_
    refine f_op rfl rfl (s_add rfl rfl) ?_
    refine f_op rfl rfl (s_buildA (cs := [.int .i64 (w64 (x2 - x3)), .int .i64 (w64 (x4 - x5)), .int .i64 (w64 ((w64 ((w64 (x6 - x7)) * x8)) + (w64 ((w64 (x9 - x10)) * x11))))]) Tryd.underlying77 ty77 ty3 rfl rfl) ?_
    refine f_op rfl rfl (s_buildSlice (cs := [.int .i64 (w64 (x2 - x3)), .int .i64 (w64 (x4 - x5)), .int .i64 (w64 ((w64 ((w64 (x6 - x7)) * x8)) + (w64 ((w64 (x9 - x10)) * x11))))]) Tryd.underlying75 ty77 (by decide) (by decide) rfl (by decide) rfl) ?_
    refine o_bind ?_; intro x12 hx12
    refine f_op rfl rfl (s_ap rfl rfl Tryd.underlying75 Tryd.underlying75 ty77 rfl rfl rfl rfl rfl rfl rfl hx12) ?_
    refine f_op rfl rfl (s_as (v := .sl x12.1) rfl) ?_
    refine f_nil ?_
    refine f_inBlock ?_
    refine f_region ?_
    refine f_op rfl rfl (s_add rfl rfl) ?_
    refine f_op rfl rfl (s_mv (v := .int .i64 (w64 (v11 + 1))) rfl) ?_
    refine f_nil ?_
    refine f_inLoop ?_
    refine f_keep [0, 3, 4, 6, 14, 15, 16, 29, 30, 31] ?_
    exact hkt1 v1 x12.1 v3 v4 v6 v7 v8 v9 v10 (w64 (v11 + 1)) x12.2
  · skip
    refine f_know 46 rfl (bool_F h1) ?_
    refine f_condF rfl ?_
    refine f_skip ?_
    refine f_inBlock ?_
    refine f_region ?_
    refine f_op rfl rfl (s_add rfl rfl) ?_
    refine f_op rfl rfl (s_mv (v := .int .i64 (w64 (v11 + 1))) rfl) ?_
    refine f_nil ?_
    refine f_inLoop ?_
    refine f_keep [0, 3, 4, 6, 14, 15, 16, 29, 30, 31] ?_
    exact hkt1 v1 v2 v3 v4 v6 v7 v8 v9 v10 (w64 (v11 + 1)) H

theorem s48_l1 (kt0 : Sl → Sl → Sl → Sl → Int → Int → Hp → Option (Sl × Hp)) (hkt0 : ∀ (v1 : Sl) (v2 : Sl) (v3 : Sl) (v4 : Sl) (v5 : Int) (v6 : Int) (H : Hp), Fin Tryd.prog Tryd.f48 ret48 117 (todoAt (bodyOf Tryd.f48) [1, 1, 0, 1, 0, 0] []) [(0, .sl v1), (3, .sl v2), (4, .sl v3), (14, .sl v4), (15, .int .i64 v5), (16, .int .i64 v6)] H (kt0 v1 v2 v3 v4 v5 v6 H)) : ∀ (k_ : Nat) (v1 : Sl) (v2 : Sl) (v3 : Sl) (v4 : Nat) (v5 : Sl) (v6 : Int) (v7 : Int) (v8 : Sl) (v9 : Int) (v10 : Int) (H : Hp), Fin Tryd.prog Tryd.f48 ret48 117 (todoAt (bodyOf Tryd.f48) [1, 1, 0, 1, 0, 0, 1, 1, 0, 0, 1, 1, 1, 0, 0] []) [(0, .sl v1), (3, .sl v2), (4, .sl v3), (6, .ptr v4 0), (14, .sl v5), (15, .int .i64 v6), (16, .int .i64 v7), (29, .sl v8), (30, .int .i64 v9), (31, .int .i64 v10)] H (r48_l1 kt0 k_ v1 v2 v3 v4 v5 v6 v7 v8 v9 v10 H) := by
  intro k_
  induction k_ with
  | zero => intro _ _ _ _ _ _ _ _ _ _ _; exact f_none
  | succ k_ ih =>
    intro v1 v2 v3 v4 v5 v6 v7 v8 v9 v10 H
    rw [r48_l1]
    refine f_seq ?_
    refine f_region ?_
    refine f_op rfl rfl (s_lss rfl rfl) ?_
    refine f_nil ?_
    refine f_seq ?_
    refine f_if (fun h1 => ?_) (fun h1 => ?_)
    · skip
      refine f_know 32 rfl (dec_true h1) ?_
      refine f_condT rfl ?_
      refine f_skip ?_
      refine f_seq ?_
      refine f_block ?_
      refine f_seq ?_
      refine f_region ?_
      refine o_ck fun g2 => ?_
      refine f_op rfl rfl (s_idx Tryd.underlying22 ty23 rfl rfl g2) ?_
      refine o_bind ?_; intro x3 hx3
      refine o_bind ?_; intro x4 hx4
      refine f_op rfl rfl (s_loads Tryd.underlying23 rfl ty23 rfl (lds_cons (ldI_eq hx3) (lds_cons (ldI_eq hx4) (lds_nil)))) ?_
      refine f_op rfl rfl (s_alloc (zs := [.int .i64 0, .int .i64 0]) ty23 rfl rfl) ?_
      refine o_bind ?_; intro H5 hH5
      refine f_op rfl rfl (s_stores ty23 rfl rfl rfl rfl hH5 (Nat.le_of_eq (sts_mono hH5).symm)) ?_
      refine f_nil ?_
      refine f_seq ?_
      refine f_region ?_
      refine f_op rfl rfl (s_idxA Tryd.underlying23 ty3 rfl rfl (by decide)) ?_
      refine o_bind ?_; intro x6 hx6
      refine f_op rfl rfl (s_load Tryd.underlying3 rfl rfl (ldI_eq hx6)) ?_
      refine f_op rfl rfl (s_idxA Tryd.underlying23 ty3 rfl rfl (by decide)) ?_
      refine o_bind ?_; intro x7 hx7
      refine f_op rfl rfl (s_load Tryd.underlying3 rfl rfl (ldI_eq hx7)) ?_
      refine f_op rfl rfl (s_gtr rfl rfl) ?_
      refine f_op rfl rfl (s_mv (v := .bool (decide (x7 < x6))) rfl) ?_
      refine o_if (fun h8 => ?_) (fun h8 => ?_)
      · skip
        refine o_know 40 rfl (dec_true h8) ?_
        refine f_op rfl rfl (s_idxA Tryd.underlying23 ty3 rfl rfl (by decide)) ?_
        refine o_bind ?_; intro x9 hx9
        refine f_op rfl rfl (s_load Tryd.underlying3 rfl rfl (ldI_eq hx9)) ?_
        refine f_op rfl rfl (s_idxA Tryd.underlying23 ty3 rfl rfl (by decide)) ?_
        refine o_bind ?_; intro x10 hx10
        refine f_op rfl rfl (s_load Tryd.underlying3 rfl rfl (ldI_eq hx10)) ?_
        refine f_op rfl rfl (s_lss rfl rfl) ?_
        refine f_op rfl rfl (s_pickT (v := .bool (decide (x9 < x10))) rfl rfl) ?_
        refine f_nil ?_
        refine f_keep [0, 3, 4, 6, 8, 14, 15, 16, 29, 30, 31, 46] ?_
        exact s48_j3 _ (fun v1_ v2_ v3_ v4_ v5_ v6_ v7_ v8_ v9_ v10_ H_ => ih v1_ v2_ v3_ v4_ v5_ v6_ v7_ v8_ v9_ v10_ H_) v1 v2 v3 v4 H.n v5 v6 v7 v8 v9 v10 (decide (x9 < x10)) H5
      · skip
        refine o_know 40 rfl (dec_false h8) ?_
        refine f_no rfl rfl ?_
        refine f_no rfl rfl ?_
        refine f_no rfl rfl ?_
        refine f_no rfl rfl ?_
        refine f_no rfl rfl ?_
        refine f_op rfl rfl (s_pickF (v := .bool false) rfl rfl) ?_
        refine f_nil ?_
        refine f_keep [0, 3, 4, 6, 8, 14, 15, 16, 29, 30, 31, 46] ?_
        exact s48_j3 _ (fun v1_ v2_ v3_ v4_ v5_ v6_ v7_ v8_ v9_ v10_ H_ => ih v1_ v2_ v3_ v4_ v5_ v6_ v7_ v8_ v9_ v10_ H_) v1 v2 v3 v4 H.n v5 v6 v7 v8 v9 v10 false H5
    · skip
      refine f_know 32 rfl (dec_false h1) ?_
      refine f_condF rfl ?_
      refine f_exit rfl ?_
      refine f_inBlock ?_
      refine f_region ?_
      refine f_op rfl rfl (s_add rfl rfl) ?_
      refine f_op rfl rfl (s_mv (v := .int .i64 (w64 (v7 + 1))) rfl) ?_
      refine f_nil ?_
      refine f_inLoop ?_
      refine f_keep [0, 3, 4, 14, 15, 16] ?_
      exact hkt0 v1 v2 v3 v5 v6 (w64 (v7 + 1)) H

theorem s48_l4 (kt2 : Sl → Sl → Sl → Int → Int → Hp → Option (Sl × Hp)) (hkt2 : ∀ (v1 : Sl) (v2 : Sl) (v3 : Sl) (v4 : Int) (v5 : Int) (H : Hp), Fin Tryd.prog Tryd.f48 ret48 117 (todoAt (bodyOf Tryd.f48) [1, 1, 1, 0, 1, 0, 0] []) [(0, .sl v1), (4, .sl v2), (80, .sl v3), (81, .int .i64 v4), (82, .int .i64 v5)] H (kt2 v1 v2 v3 v4 v5 H)) : ∀ (k_ : Nat) (v1 : Sl) (v2 : Sl) (v3 : Nat) (v4 : Bool) (v5 : Sl) (v6 : Int) (v7 : Int) (v8 : Sl) (v9 : Int) (v10 : Int) (H : Hp), Fin Tryd.prog Tryd.f48 ret48 117 (todoAt (bodyOf Tryd.f48) [1, 1, 1, 0, 1, 0, 0, 1, 1, 0, 0, 1, 1, 0, 1, 0, 0] []) [(0, .sl v1), (4, .sl v2), (10, .ptr v3 0), (11, .bool v4), (80, .sl v5), (81, .int .i64 v6), (82, .int .i64 v7), (86, .sl v8), (87, .int .i64 v9), (88, .int .i64 v10)] H (r48_l4 kt2 k_ v1 v2 v3 v4 v5 v6 v7 v8 v9 v10 H) := by
  intro k_
  induction k_ with
  | zero => intro _ _ _ _ _ _ _ _ _ _ _; exact f_none
  | succ k_ ih =>
    intro v1 v2 v3 v4 v5 v6 v7 v8 v9 v10 H
    rw [r48_l4]
    refine f_seq ?_
    refine f_region ?_
    refine f_op rfl rfl (s_lss rfl rfl) ?_
    refine f_nil ?_
    refine f_seq ?_
    refine f_if (fun h1 => ?_) (fun h1 => ?_)
    · skip
      refine f_know 89 rfl (dec_true h1) ?_
      refine f_condT rfl ?_
      refine f_skip ?_
      refine f_seq ?_
      refine f_block ?_
      refine f_seq ?_
      refine f_region ?_
      refine o_ck fun g2 => ?_
      refine f_op rfl rfl (s_idx Tryd.underlying22 ty23 rfl rfl g2) ?_
      refine o_bind ?_; intro x3 hx3
      refine o_bind ?_; intro x4 hx4
      refine f_op rfl rfl (s_loads Tryd.underlying23 rfl ty23 rfl (lds_cons (ldI_eq hx3) (lds_cons (ldI_eq hx4) (lds_nil)))) ?_
      refine f_op rfl rfl (s_alloc (zs := [.int .i64 0, .int .i64 0]) ty23 rfl rfl) ?_
      refine o_bind ?_; intro H5 hH5
      refine f_op rfl rfl (s_stores ty23 rfl rfl rfl rfl hH5 (Nat.le_of_eq (sts_mono hH5).symm)) ?_
      refine f_nil ?_
      refine f_region ?_
      refine f_op rfl rfl (s_mv (v := .bool v4) rfl) ?_
      refine f_op rfl rfl (s_mv (v := .bool v4) rfl) ?_
      refine o_if (fun h6 => ?_) (fun h6 => ?_)
      · skip
        refine o_know 93 rfl (bool_T h6) ?_
        refine f_op rfl rfl (s_idxA Tryd.underlying77 ty3 rfl rfl (by decide)) ?_
        refine o_bind ?_; intro x7 hx7
        refine f_op rfl rfl (s_load Tryd.underlying3 rfl rfl (ldI_eq hx7)) ?_
        refine f_op rfl rfl (s_idxA Tryd.underlying23 ty3 rfl rfl (by decide)) ?_
        refine o_bind ?_; intro x8 hx8
        refine f_op rfl rfl (s_load Tryd.underlying3 rfl rfl (ldI_eq hx8)) ?_
        refine f_op rfl rfl (s_mul rfl rfl) ?_
        refine f_op rfl rfl (s_idxA Tryd.underlying77 ty3 rfl rfl (by decide)) ?_
        refine o_bind ?_; intro x9 hx9
        refine f_op rfl rfl (s_load Tryd.underlying3 rfl rfl (ldI_eq hx9)) ?_
        refine f_op rfl rfl (s_idxA Tryd.underlying23 ty3 rfl rfl (by decide)) ?_
        refine o_bind ?_; intro x10 hx10
        refine f_op rfl rfl (s_load Tryd.underlying3 rfl rfl (ldI_eq hx10)) ?_
        refine f_op rfl rfl (s_mul rfl rfl) ?_
        refine f_op rfl rfl (s_add rfl rfl) ?_
        refine f_op rfl rfl (s_idxA Tryd.underlying77 ty3 rfl rfl (by decide)) ?_
        refine o_bind ?_; intro x11 hx11
        refine f_op rfl rfl (s_load Tryd.underlying3 rfl rfl (ldI_eq hx11)) ?_
        refine f_op rfl rfl (s_leq rfl rfl) ?_
        refine f_op rfl rfl (s_pickT (v := .bool (decide ((w64 ((w64 (x7 * x8)) + (w64 (x9 * x10)))) ≤ x11))) rfl rfl) ?_
        refine f_op rfl rfl (s_as (v := .bool (decide ((w64 ((w64 (x7 * x8)) + (w64 (x9 * x10)))) ≤ x11))) rfl) ?_
        refine f_nil ?_
        refine f_inBlock ?_
        refine f_region ?_
        refine f_op rfl rfl (s_add rfl rfl) ?_
        refine f_op rfl rfl (s_mv (v := .int .i64 (w64 (v10 + 1))) rfl) ?_
        refine f_nil ?_
        refine f_inLoop ?_
        refine f_keep [0, 4, 10, 11, 80, 81, 82, 86, 87, 88] ?_
        exact ih v1 v2 v3 (decide ((w64 ((w64 (x7 * x8)) + (w64 (x9 * x10)))) ≤ x11)) v5 v6 v7 v8 v9 (w64 (v10 + 1)) H5
      · skip
        refine o_know 93 rfl (bool_F h6) ?_
        refine f_no rfl rfl ?_
        refine f_no rfl rfl ?_
        refine f_no rfl rfl ?_
        refine f_no rfl rfl ?_
        refine f_no rfl rfl ?_
        refine f_no rfl rfl ?_
        refine f_no rfl rfl ?_
        refine f_no rfl rfl ?_
        refine f_no rfl rfl ?_
        refine f_no rfl rfl ?_
        refine f_no rfl rfl ?_
        refine f_no rfl rfl ?_
        refine f_no rfl rfl ?_
        refine f_no rfl rfl ?_
        refine f_op rfl rfl (s_pickF (v := .bool false) rfl rfl) ?_
        refine f_op rfl rfl (s_as (v := .bool false) rfl) ?_
        refine f_nil ?_
        refine f_inBlock ?_
        refine f_region ?_
        refine f_op rfl rfl (s_add rfl rfl) ?_
        refine f_op rfl rfl (s_mv (v := .int .i64 (w64 (v10 + 1))) rfl) ?_
        refine f_nil ?_
        refine f_inLoop ?_
        refine f_keep [0, 4, 10, 11, 80, 81, 82, 86, 87, 88] ?_
        exact ih v1 v2 v3 false v5 v6 v7 v8 v9 (w64 (v10 + 1)) H5
    · skip
      refine f_know 89 rfl (dec_false h1) ?_
      refine f_condF rfl ?_
      refine f_exit rfl ?_
      refine f_seq ?_
      refine f_region ?_
      refine f_op rfl rfl (s_mv (v := .bool v4) rfl) ?_
      refine f_nil ?_
      refine f_if (fun h12 => ?_) (fun h12 => ?_)
      · skip
        refine f_know 110 rfl (bool_T h12) ?_
        refine f_condT rfl ?_
        refine f_region ?_
        refine f_op rfl rfl (s_mv (v := .sl v2) rfl) ?_
        refine o_bind ?_; intro x13 hx13
        refine o_bind ?_; intro x14 hx14
        refine o_bind ?_; intro x15 hx15
        refine f_op rfl rfl (s_loads Tryd.underlying77 rfl ty77 rfl (lds_cons (ldI_eq hx13) (lds_cons (ldI_eq hx14) (lds_cons (ldI_eq hx15) (lds_nil))))) ?_
        refine f_op rfl rfl (s_buildSlice (cs := [.int .i64 x13, .int .i64 x14, .int .i64 x15]) Tryd.underlying75 ty77 (by decide) (by decide) rfl (by decide) rfl) ?_
        refine o_bind ?_; intro x16 hx16
        refine f_op rfl rfl (s_ap rfl rfl Tryd.underlying75 Tryd.underlying75 ty77 rfl rfl rfl rfl rfl rfl rfl hx16) ?_
        refine f_op rfl rfl (s_as (v := .sl x16.1) rfl) ?_
        refine f_nil ?_
        refine f_inBlock ?_
        refine f_region ?_
        refine f_op rfl rfl (s_add rfl rfl) ?_
        refine f_op rfl rfl (s_mv (v := .int .i64 (w64 (v7 + 1))) rfl) ?_
        refine f_nil ?_
        refine f_inLoop ?_
        refine f_keep [0, 4, 80, 81, 82] ?_
        exact hkt2 v1 x16.1 v5 v6 (w64 (v7 + 1)) x16.2
      · skip
        refine f_know 110 rfl (bool_F h12) ?_
        refine f_condF rfl ?_
        refine f_skip ?_
        refine f_inBlock ?_
        refine f_region ?_
        refine f_op rfl rfl (s_add rfl rfl) ?_
        refine f_op rfl rfl (s_mv (v := .int .i64 (w64 (v7 + 1))) rfl) ?_
        refine f_nil ?_
        refine f_inLoop ?_
        refine f_keep [0, 4, 80, 81, 82] ?_
        exact hkt2 v1 v2 v5 v6 (w64 (v7 + 1)) H

theorem s48_l2 : ∀ (k_ : Nat) (v1 : Sl) (v2 : Sl) (v3 : Sl) (v4 : Int) (v5 : Int) (H : Hp), Fin Tryd.prog Tryd.f48 ret48 117 (todoAt (bodyOf Tryd.f48) [1, 1, 1, 0, 1, 0, 0] []) [(0, .sl v1), (4, .sl v2), (80, .sl v3), (81, .int .i64 v4), (82, .int .i64 v5)] H (r48_l2 k_ v1 v2 v3 v4 v5 H) := by
  intro k_
  induction k_ with
  | zero => intro _ _ _ _ _ _; exact f_none
  | succ k_ ih =>
    intro v1 v2 v3 v4 v5 H
    rw [r48_l2]
    refine f_seq ?_
    refine f_region ?_
    refine f_op rfl rfl (s_lss rfl rfl) ?_
    refine f_nil ?_
    refine f_seq ?_
    refine f_if (fun h1 => ?_) (fun h1 => ?_)
    · skip
      refine f_know 83 rfl (dec_true h1) ?_
      refine f_condT rfl ?_
      refine f_skip ?_
      refine f_seq ?_
      refine f_block ?_
      refine f_seq ?_
      refine f_region ?_
      refine o_ck fun g2 => ?_
      refine f_op rfl rfl (s_idx Tryd.underlying75 ty77 rfl rfl g2) ?_
      refine o_bind ?_; intro x3 hx3
      refine o_bind ?_; intro x4 hx4
      refine o_bind ?_; intro x5 hx5
      refine f_op rfl rfl (s_loads Tryd.underlying77 rfl ty77 rfl (lds_cons (ldI_eq hx3) (lds_cons (ldI_eq hx4) (lds_cons (ldI_eq hx5) (lds_nil))))) ?_
      refine f_op rfl rfl (s_alloc (zs := [.int .i64 0, .int .i64 0, .int .i64 0]) ty77 rfl rfl) ?_
      refine o_bind ?_; intro H6 hH6
      refine f_op rfl rfl (s_stores ty77 rfl rfl rfl rfl hH6 (Nat.le_of_eq (sts_mono hH6).symm)) ?_
      refine f_nil ?_
      refine f_seq ?_
      refine f_region ?_
      refine f_op rfl rfl (s_as (v := .bool true) rfl) ?_
      refine f_nil ?_
      refine f_seq ?_
      refine f_seq ?_
      refine f_region ?_
      refine f_op rfl rfl (s_mv (v := .sl v1) rfl) ?_
      refine f_op rfl rfl (s_lenS rfl Tryd.underlying22 rfl) ?_
      refine f_op rfl rfl (s_mv (v := .int .i64 0) rfl) ?_
      refine f_nil ?_
      refine f_block ?_
      refine f_loop ?_
      refine f_keep [0, 4, 10, 11, 80, 81, 82, 86, 87, 88] ?_
      exact s48_l4 _ (fun v1_ v2_ v3_ v4_ v5_ H_ => ih v1_ v2_ v3_ v4_ v5_ H_) FUEL v1 v2 H.n true v3 v4 v5 v1 (v1.len : Int) 0 H6
    · skip
      refine f_know 83 rfl (dec_false h1) ?_
      refine f_condF rfl ?_
      refine f_exit rfl ?_
      refine f_seq ?_
      refine f_region ?_
      refine f_op rfl rfl (s_mv (v := .sl v2) rfl) ?_
      refine f_op rfl rfl (s_as (v := .sl v2) rfl) ?_
      refine f_nil ?_
      exact f_ret (.tmp rfl (.nil)) rfl

theorem s48_l0 : ∀ (k_ : Nat) (v1 : Sl) (v2 : Sl) (v3 : Sl) (v4 : Sl) (v5 : Int) (v6 : Int) (H : Hp), Fin Tryd.prog Tryd.f48 ret48 117 (todoAt (bodyOf Tryd.f48) [1, 1, 0, 1, 0, 0] []) [(0, .sl v1), (3, .sl v2), (4, .sl v3), (14, .sl v4), (15, .int .i64 v5), (16, .int .i64 v6)] H (r48_l0 k_ v1 v2 v3 v4 v5 v6 H) := by
  intro k_
  induction k_ with
  | zero => intro _ _ _ _ _ _ _; exact f_none
  | succ k_ ih =>
    intro v1 v2 v3 v4 v5 v6 H
    rw [r48_l0]
    refine f_seq ?_
    refine f_region ?_
    refine f_op rfl rfl (s_lss rfl rfl) ?_
    refine f_nil ?_
    refine f_seq ?_
    refine f_if (fun h1 => ?_) (fun h1 => ?_)
    · skip
      refine f_know 17 rfl (dec_true h1) ?_
      refine f_condT rfl ?_
      refine f_skip ?_
      refine f_seq ?_
      refine f_block ?_
      refine f_seq ?_
      refine f_region ?_
      refine o_ck fun g2 => ?_
      refine f_op rfl rfl (s_idx Tryd.underlying22 ty23 rfl rfl g2) ?_
      refine o_bind ?_; intro x3 hx3
      refine o_bind ?_; intro x4 hx4
      refine f_op rfl rfl (s_loads Tryd.underlying23 rfl ty23 rfl (lds_cons (ldI_eq hx3) (lds_cons (ldI_eq hx4) (lds_nil)))) ?_
      refine f_op rfl rfl (s_alloc (zs := [.int .i64 0, .int .i64 0]) ty23 rfl rfl) ?_
      refine o_bind ?_; intro H5 hH5
      refine f_op rfl rfl (s_stores ty23 rfl rfl rfl rfl hH5 (Nat.le_of_eq (sts_mono hH5).symm)) ?_
      refine f_nil ?_
      refine f_seq ?_
      refine f_region ?_
      refine f_op rfl rfl (s_mv (v := .sl v2) rfl) ?_
      refine f_op rfl rfl (s_idxA Tryd.underlying23 ty3 rfl rfl (by decide)) ?_
      refine o_bind ?_; intro x6 hx6
      refine f_op rfl rfl (s_load Tryd.underlying3 rfl rfl (ldI_eq hx6)) ?_
      refine f_op rfl rfl (s_buildA (cs := [.int .i64 1, .int .i64 0, .int .i64 x6]) Tryd.underlying77 ty77 ty3 rfl rfl) ?_
      refine f_op rfl rfl (s_idxA Tryd.underlying23 ty3 rfl rfl (by decide)) ?_
      refine o_bind ?_; intro x7 hx7
      refine f_op rfl rfl (s_load Tryd.underlying3 rfl rfl (ldI_eq hx7)) ?_
      refine f_op rfl rfl (s_buildA (cs := [.int .i64 0, .int .i64 1, .int .i64 x7]) Tryd.underlying77 ty77 ty3 rfl rfl) ?_
      refine f_op rfl rfl (s_buildSlice (cs := [.int .i64 1, .int .i64 0, .int .i64 x6, .int .i64 0, .int .i64 1, .int .i64 x7]) Tryd.underlying75 ty77 (by decide) (by decide) rfl (by decide) rfl) ?_
      refine o_bind ?_; intro x8 hx8
      refine f_op rfl rfl (s_ap rfl rfl Tryd.underlying75 Tryd.underlying75 ty77 rfl rfl rfl rfl rfl rfl rfl hx8) ?_
      refine f_op rfl rfl (s_as (v := .sl x8.1) rfl) ?_
      refine f_nil ?_
      refine f_seq ?_
      refine f_region ?_
      refine f_op rfl rfl (s_mv (v := .sl v1) rfl) ?_
      refine f_op rfl rfl (s_lenS rfl Tryd.underlying22 rfl) ?_
      refine f_op rfl rfl (s_mv (v := .int .i64 0) rfl) ?_
      refine f_nil ?_
      refine f_block ?_
      refine f_loop ?_
      refine f_keep [0, 3, 4, 6, 14, 15, 16, 29, 30, 31] ?_
      exact s48_l1 _ (fun v1_ v2_ v3_ v4_ v5_ v6_ H_ => ih v1_ v2_ v3_ v4_ v5_ v6_ H_) FUEL v1 x8.1 v3 H.n v4 v5 v6 v1 (v1.len : Int) 0 x8.2
    · skip
      refine f_know 17 rfl (dec_false h1) ?_
      refine f_condF rfl ?_
      refine f_exit rfl ?_
      refine f_seq ?_
      refine f_seq ?_
      refine f_region ?_
      refine f_op rfl rfl (s_mv (v := .sl v2) rfl) ?_
      refine f_op rfl rfl (s_lenS rfl Tryd.underlying75 rfl) ?_
      refine f_op rfl rfl (s_mv (v := .int .i64 0) rfl) ?_
      refine f_nil ?_
      refine f_block ?_
      refine f_loop ?_
      refine f_keep [0, 4, 80, 81, 82] ?_
      exact s48_l2 FUEL v1 v3 v2 (v2.len : Int) 0 H

theorem sim48 {a0 : Sl} {H : Hp} {p : Sl × Hp} (h : r48 a0 H = some p) : CallSim Tryd.prog 48 [.sl a0] H (.sl p.1) p.2 := by
  refine callSim (fn := Tryd.f48) (ret := ret48) Tryd.func48 rfl Tryd.ntmps48 rfl ?_ h
  unfold r48
  refine f_seq ?_
  refine f_region ?_
  refine f_op rfl rfl (s_as (v := .sl ⟨true, 0, 0, 0, 0, 0⟩) rfl) ?_
  refine f_nil ?_
  refine f_seq ?_
  refine f_region ?_
  refine f_op rfl rfl (s_as (v := .sl ⟨true, 0, 0, 0, 0, 0⟩) rfl) ?_
  refine f_op rfl rfl (s_as (v := .sl ⟨true, 0, 0, 0, 0, 0⟩) rfl) ?_
  refine f_nil ?_
  refine f_seq ?_
  refine f_seq ?_
  refine f_region ?_
  refine f_op rfl rfl (s_mv (v := .sl a0) rfl) ?_
  refine f_op rfl rfl (s_lenS rfl Tryd.underlying22 rfl) ?_
  refine f_op rfl rfl (s_mv (v := .int .i64 0) rfl) ?_
  refine f_nil ?_
  refine f_block ?_
  refine f_loop ?_
  refine f_keep [0, 3, 4, 14, 15, 16] ?_
  exact s48_l0 FUEL a0 ⟨true, 0, 0, 0, 0, 0⟩ ⟨true, 0, 0, 0, 0, 0⟩ a0 (a0.len : Int) 0 H

/- 27 congou/congouref05.Is -/
theorem ok27 : FnOk Tryd.prog 27 := ⟨⟨Tryd.f27, Tryd.func27, by kernel_rfl, rfl⟩⟩
theorem s27_l0 : ∀ (k_ : Nat) (v1 : Nat) (v2 : Sl) (v3 : Int) (v4 : Int) (H : Hp), Fin Tryd.prog Tryd.f27 ret27 47 (todoAt (bodyOf Tryd.f27) [1, 0, 1, 0, 0] []) [(3, .ptr v1 0), (8, .sl v2), (9, .int .i64 v3), (10, .int .i64 v4)] H (r27_l0 k_ v1 v2 v3 v4 H) := by
  intro k_
  induction k_ with
  | zero => intro _ _ _ _ _; exact f_none
  | succ k_ ih =>
    intro v1 v2 v3 v4 H
    rw [r27_l0]
    refine f_seq ?_
    refine f_region ?_
    refine f_op rfl rfl (s_lss rfl rfl) ?_
    refine f_nil ?_
    refine f_seq ?_
    refine f_if (fun h1 => ?_) (fun h1 => ?_)
    · skip
      refine f_know 11 rfl (dec_true h1) ?_
      refine f_condT rfl ?_
      refine f_skip ?_
      refine f_seq ?_
      refine f_block ?_
      refine f_seq ?_
      refine f_region ?_
      refine o_ck fun g2 => ?_
      refine f_op rfl rfl (s_idx Tryd.underlying75 ty77 rfl rfl g2) ?_
      refine o_bind ?_; intro x3 hx3
      refine o_bind ?_; intro x4 hx4
      refine o_bind ?_; intro x5 hx5
      refine f_op rfl rfl (s_loads Tryd.underlying77 rfl ty77 rfl (lds_cons (ldI_eq hx3) (lds_cons (ldI_eq hx4) (lds_cons (ldI_eq hx5) (lds_nil))))) ?_
      refine f_op rfl rfl (s_alloc (zs := [.int .i64 0, .int .i64 0, .int .i64 0]) ty77 rfl rfl) ?_
      refine o_bind ?_; intro H6 hH6
      refine f_op rfl rfl (s_stores ty77 rfl rfl rfl rfl hH6 (Nat.le_of_eq (sts_mono hH6).symm)) ?_
      refine f_nil ?_
      refine f_seq ?_
      refine f_region ?_
      refine f_op rfl rfl (s_idxA Tryd.underlying77 ty3 rfl rfl (by decide)) ?_
      refine o_bind ?_; intro x7 hx7
      refine f_op rfl rfl (s_load Tryd.underlying3 rfl rfl (ldI_eq hx7)) ?_
      refine f_op rfl rfl (s_fieldAddr Tryd.underlying36 rfl ty25 rfl) ?_
      refine f_op rfl rfl (s_fieldAddr Tryd.underlying25 rfl ty3 rfl) ?_
      refine o_bind ?_; intro x8 hx8
      refine f_op rfl rfl (s_load Tryd.underlying3 rfl rfl (ldI_eq hx8)) ?_
      refine f_op rfl rfl (s_mul rfl rfl) ?_
      refine f_op rfl rfl (s_fieldAddr Tryd.underlying36 rfl ty25 rfl) ?_
      refine f_op rfl rfl (s_fieldAddr Tryd.underlying25 rfl ty3 rfl) ?_
      refine o_bind ?_; intro x9 hx9
      refine f_op rfl rfl (s_load Tryd.underlying3 rfl rfl (ldI_eq hx9)) ?_
      refine f_op rfl rfl (s_mul rfl rfl) ?_
      refine f_op rfl rfl (s_idxA Tryd.underlying77 ty3 rfl rfl (by decide)) ?_
      refine o_bind ?_; intro x10 hx10
      refine f_op rfl rfl (s_load Tryd.underlying3 rfl rfl (ldI_eq hx10)) ?_
      refine f_op rfl rfl (s_fieldAddr Tryd.underlying36 rfl ty25 rfl) ?_
      refine f_op rfl rfl (s_fieldAddr Tryd.underlying25 rfl ty3 rfl) ?_
      refine o_bind ?_; intro x11 hx11
      refine f_op rfl rfl (s_load Tryd.underlying3 rfl rfl (ldI_eq hx11)) ?_
      refine f_op rfl rfl (s_mul rfl rfl) ?_
      refine f_op rfl rfl (s_fieldAddr Tryd.underlying36 rfl ty25 rfl) ?_
      refine f_op rfl rfl (s_fieldAddr Tryd.underlying25 rfl ty3 rfl) ?_
      refine o_bind ?_; intro x12 hx12
      refine f_op rfl rfl (s_load Tryd.underlying3 rfl rfl (ldI_eq hx12)) ?_
      refine f_op rfl rfl (s_mul rfl rfl) ?_
      refine f_op rfl rfl (s_add rfl rfl) ?_
      refine f_op rfl rfl (s_idxA Tryd.underlying77 ty3 rfl rfl (by decide)) ?_
      refine o_bind ?_; intro x13 hx13
      refine f_op rfl rfl (s_load Tryd.underlying3 rfl rfl (ldI_eq hx13)) ?_
      refine f_op rfl rfl (s_fieldAddr Tryd.underlying36 rfl ty25 rfl) ?_
      refine f_op rfl rfl (s_fieldAddr Tryd.underlying25 rfl ty3 rfl) ?_
      refine o_bind ?_; intro x14 hx14
      refine f_op rfl rfl (s_load Tryd.underlying3 rfl rfl (ldI_eq hx14)) ?_
      refine f_op rfl rfl (s_mul rfl rfl) ?_
      refine f_op rfl rfl (s_fieldAddr Tryd.underlying36 rfl ty25 rfl) ?_
      refine f_op rfl rfl (s_fieldAddr Tryd.underlying25 rfl ty3 rfl) ?_
      refine o_bind ?_; intro x15 hx15
      refine f_op rfl rfl (s_load Tryd.underlying3 rfl rfl (ldI_eq hx15)) ?_
      refine f_op rfl rfl (s_mul rfl rfl) ?_
      refine f_op rfl rfl (s_gtr rfl rfl) ?_
      refine f_nil ?_
      refine f_if (fun h16 => ?_) (fun h16 => ?_)
      · skip
        refine f_know 45 rfl (dec_true h16) ?_
        refine f_condT rfl ?_
        refine f_seq ?_
        refine f_region ?_
        refine f_op rfl rfl (s_as (v := .bool false) rfl) ?_
        refine f_nil ?_
        exact f_ret (.tmp rfl (.nil)) rfl
      · skip
        refine f_know 45 rfl (dec_false h16) ?_
        refine f_condF rfl ?_
        refine f_skip ?_
        refine f_inBlock ?_
        refine f_region ?_
        refine f_op rfl rfl (s_add rfl rfl) ?_
        refine f_op rfl rfl (s_mv (v := .int .i64 (w64 (v4 + 1))) rfl) ?_
        refine f_nil ?_
        refine f_inLoop ?_
        refine f_keep [3, 8, 9, 10] ?_
        exact ih v1 v2 v3 (w64 (v4 + 1)) H6
    · skip
      refine f_know 11 rfl (dec_false h1) ?_
      refine f_condF rfl ?_
      refine f_exit rfl ?_
      refine f_seq ?_
      refine f_region ?_
      refine f_op rfl rfl (s_as (v := .bool true) rfl) ?_
      refine f_nil ?_
      exact f_ret (.tmp rfl (.nil)) rfl

theorem sim27 {a0 : Sl} {a1_0 : Int} {a1_1 : Int} {a1_2 : Int} {a1_3 : Int} {H : Hp} {p : Bool × Hp} (h : r27 a0 a1_0 a1_1 a1_2 a1_3 H = some p) : CallSim Tryd.prog 27 [.sl a0, .agg [.int .i64 a1_0, .int .i64 a1_1, .int .i64 a1_2, .int .i64 a1_3]] H (.bool p.1) p.2 := by
  refine callSim (fn := Tryd.f27) (ret := ret27) Tryd.func27 rfl Tryd.ntmps27 rfl ?_ h
  unfold r27
  refine f_seq ?_
  refine f_region ?_
  refine f_op rfl rfl (s_box (v := .agg [.int .i64 a1_0, .int .i64 a1_1, .int .i64 a1_2, .int .i64 a1_3]) rfl rfl) ?_
  refine f_op rfl rfl (s_as (v := .bool false) rfl) ?_
  refine o_hp ?_; intro H1 hH1
  refine f_nil ?_
  refine f_seq ?_
  refine f_seq ?_
  refine f_region ?_
  refine f_op rfl rfl (s_mv (v := .sl a0) rfl) ?_
  refine o_bind ?_; intro p2 hp2
  refine f_op rfl rfl (s_callF rfl ok48 (sim48 hp2)) ?_
  refine f_op rfl rfl (s_lenS rfl Tryd.underlying75 rfl) ?_
  refine f_op rfl rfl (s_mv (v := .int .i64 0) rfl) ?_
  refine f_nil ?_
  refine f_block ?_
  refine f_loop ?_
  refine f_keep [3, 8, 9, 10] ?_
  exact s27_l0 FUEL H.n p2.1 (p2.1.len : Int) 0 p2.2

/- 30 congou/congouref05.whole -/
theorem ok30 : FnOk Tryd.prog 30 := ⟨⟨Tryd.f30, Tryd.func30, by kernel_rfl, rfl⟩⟩
theorem sim30 {a0 : Int} {H : Hp} {p : (Int × Int) × Hp} (h : r30 a0 H = some p) : CallSim Tryd.prog 30 [.int .i64 a0] H (.agg [.int .i64 p.1.1, .int .i64 p.1.2]) p.2 := by
  refine callSim (fn := Tryd.f30) (ret := ret30) Tryd.func30 rfl Tryd.ntmps30 rfl ?_ h
  unfold r30
  refine f_seq ?_
  refine f_region ?_
  refine f_op rfl rfl (s_alloc (zs := [.int .i64 0, .int .i64 0]) ty25 rfl rfl) ?_
  refine o_hp ?_; intro H1 hH1
  refine f_nil ?_
  refine f_seq ?_
  refine f_region ?_
  refine f_op rfl rfl (s_mv (v := .int .i64 a0) rfl) ?_
  refine f_op rfl rfl (s_build (cs := [.int .i64 a0, .int .i64 1]) Tryd.underlying25 ty25 rfl pl25 rfl) ?_
  refine o_bind ?_; intro H2 hH2
  refine f_op rfl rfl (s_stores ty25 rfl rfl rfl rfl hH2 (Nat.le_of_eq (sts_mono hH2).symm)) ?_
  refine f_nil ?_
  refine f_bind ?_; intro x3 hx3
  refine f_bind ?_; intro x4 hx4
  exact f_ret (.cells Tryd.underlying25 rfl sz25 rfl (lds_cons (ldI_eq hx3) (lds_cons (ldI_eq hx4) (lds_nil))) (.nil)) rfl

/- 28 congou/congouref05.pair -/
theorem ok28 : FnOk Tryd.prog 28 := ⟨⟨Tryd.f28, Tryd.func28, by kernel_rfl, rfl⟩⟩
theorem sim28 {a0_0 : Int} {a0_1 : Int} {H : Hp} {p : (Int × Int × Int × Int) × Hp} (h : r28 a0_0 a0_1 H = some p) : CallSim Tryd.prog 28 [.agg [.int .i64 a0_0, .int .i64 a0_1]] H (.agg [.int .i64 p.1.1, .int .i64 p.1.2.1, .int .i64 p.1.2.2.1, .int .i64 p.1.2.2.2]) p.2 := by
  refine callSim (fn := Tryd.f28) (ret := ret28) Tryd.func28 rfl Tryd.ntmps28 rfl ?_ h
  unfold r28
  refine f_seq ?_
  refine f_region ?_
  refine f_op rfl rfl (s_box (v := .agg [.int .i64 a0_0, .int .i64 a0_1]) rfl rfl) ?_
  refine f_op rfl rfl (s_alloc (zs := [.int .i64 0, .int .i64 0, .int .i64 0, .int .i64 0]) ty36 rfl rfl) ?_
  refine o_hp ?_; intro H1 hH1
  refine f_nil ?_
  refine f_seq ?_
  refine f_bind ?_; intro x2 hx2
  refine f_bind ?_; intro p3 hp3
  refine f_bind ?_; intro x4 hx4
  refine f_bind ?_; intro p5 hp5
  refine f_bind ?_; intro H6 hH6
  refine f_draw (Φ := fun _ => True) (lim := 1000000) [0, 1, 0, 0, 1, 0, 0, 2] (Trc.pure rfl rfl rfl (.inl fun _ => s_idxA Tryd.underlying23 ty3 rfl rfl (by decide)) (Trc.read rfl rfl rfl (s_load Tryd.underlying3 rfl rfl (ldI_eq hx2)) (Trc.pure rfl rfl rfl (.inl fun _ => s_callO rfl ok30 (sim30 hp3) rfl rfl) (Trc.pure rfl rfl rfl (.inl fun _ => s_idxA Tryd.underlying23 ty3 rfl rfl (by decide)) (Trc.read rfl rfl rfl (s_load Tryd.underlying3 rfl rfl (ldI_eq hx4)) (Trc.pure rfl rfl rfl (.inl fun _ => s_callO rfl ok30 (sim30 hp5) rfl rfl) (Trc.pure rfl rfl rfl (.inl fun _ => s_build (cs := [.int .i64 p3.1.1, .int .i64 p3.1.2, .int .i64 p5.1.1, .int .i64 p5.1.2]) Tryd.underlying36 ty36 rfl pl36 rfl) (Trc.eff rfl rfl rfl (fun _ => trivial) (s_stores ty36 rfl rfl rfl rfl hH6 (Nat.le_of_eq (sts_mono hH6).symm)) (Trc.nil (fun _ => trivial)))))))))) rfl (by decide +kernel) mixed ?_
  refine f_bind ?_; intro x7 hx7
  refine f_bind ?_; intro x8 hx8
  refine f_bind ?_; intro x9 hx9
  refine f_bind ?_; intro x10 hx10
  exact f_ret (.cells Tryd.underlying36 rfl sz36 rfl (lds_cons (ldI_eq hx7) (lds_cons (ldI_eq hx8) (lds_cons (ldI_eq hx9) (lds_cons (ldI_eq hx10) (lds_nil))))) (.nil)) rfl

/- 33 congou/congouref05.Frac -/
theorem ok33 : FnOk Tryd.prog 33 := ⟨⟨Tryd.f33, Tryd.func33, by kernel_rfl, rfl⟩⟩
theorem s33_l0 : ∀ (k_ : Nat) (v1 : Int) (v2 : Int) (v3 : Nat) (v4 : Int) (v5 : Int) (H : Hp), Fin Tryd.prog Tryd.f33 ret33 31 (todoAt (bodyOf Tryd.f33) [1, 1, 1, 0, 0, 0] []) [(0, .int .i64 v1), (1, .int .i64 v2), (4, .ptr v3 0), (5, .int .i64 v4), (6, .int .i64 v5)] H (r33_l0 k_ v1 v2 v3 v4 v5 H) := by
  intro k_
  induction k_ with
  | zero => intro _ _ _ _ _ _; exact f_none
  | succ k_ ih =>
    intro v1 v2 v3 v4 v5 H
    rw [r33_l0]
    refine f_seq ?_
    refine f_seq ?_
    refine f_region ?_
    refine f_op rfl rfl (s_mv (v := .int .i64 v5) rfl) ?_
    refine f_op rfl rfl (s_neq rfl rfl) ?_
    refine f_nil ?_
    refine f_if (fun h1 => ?_) (fun h1 => ?_)
    · skip
      refine f_know 19 rfl (dec_true h1) ?_
      refine f_condT rfl ?_
      refine f_skip ?_
      refine f_block ?_
      refine f_ck fun g2 => ?_
      refine f_draw (Φ := fun _ => True) (lim := 1000000) [0, 0, 0, 0, 0, 0] (Trc.pure rfl rfl rfl (.inl fun _ => s_mv (v := .int .i64 v5) rfl) (Trc.pure rfl rfl rfl (.inl fun _ => s_mv (v := .int .i64 v4) rfl) (Trc.pure rfl rfl rfl (.inl fun _ => s_mv (v := .int .i64 v5) rfl) (Trc.pure rfl rfl rfl (.inl fun _ => s_rem rfl rfl g2) (Trc.pure rfl rfl rfl (.inl fun _ => s_as (v := .int .i64 v5) rfl) (Trc.pure rfl rfl rfl (.inl fun _ => s_as (v := .int .i64 (Int.tmod v4 v5)) rfl) (Trc.nil (fun _ => trivial)))))))) rfl (by decide +kernel) mixed ?_
      refine f_inBlock ?_
      refine f_inLoop ?_
      refine f_keep [0, 1, 4, 5, 6] ?_
      exact ih v1 v2 v3 v5 (Int.tmod v4 v5) H
    · skip
      refine f_know 19 rfl (dec_false h1) ?_
      refine f_condF rfl ?_
      refine f_exit rfl ?_
      refine f_seq ?_
      refine f_ck fun g3 => ?_
      refine f_ck fun g4 => ?_
      refine f_bind ?_; intro H5 hH5
      refine f_draw (Φ := fun _ => True) (lim := 1000000) [0, 0, 0, 0, 0, 0, 0, 2] (Trc.pure rfl rfl rfl (.inl fun _ => s_mv (v := .int .i64 v1) rfl) (Trc.pure rfl rfl rfl (.inl fun _ => s_mv (v := .int .i64 v4) rfl) (Trc.pure rfl rfl rfl (.inl fun _ => s_quo rfl rfl g3) (Trc.pure rfl rfl rfl (.inl fun _ => s_mv (v := .int .i64 v2) rfl) (Trc.pure rfl rfl rfl (.inl fun _ => s_mv (v := .int .i64 v4) rfl) (Trc.pure rfl rfl rfl (.inl fun _ => s_quo rfl rfl g4) (Trc.pure rfl rfl rfl (.inl fun _ => s_build (cs := [.int .i64 (w64 (Int.tdiv v1 v4)), .int .i64 (w64 (Int.tdiv v2 v4))]) Tryd.underlying25 ty25 rfl pl25 rfl) (Trc.eff rfl rfl rfl (fun _ => trivial) (s_stores ty25 rfl rfl rfl rfl hH5 (Nat.le_of_eq (sts_mono hH5).symm)) (Trc.nil (fun _ => trivial)))))))))) rfl (by decide +kernel) mixed ?_
      refine f_bind ?_; intro x6 hx6
      refine f_bind ?_; intro x7 hx7
      exact f_ret (.cells Tryd.underlying25 rfl sz25 rfl (lds_cons (ldI_eq hx6) (lds_cons (ldI_eq hx7) (lds_nil))) (.nil)) rfl

theorem s33_j1 (v1 : Int) (v2 : Int) (v3 : Nat) (H : Hp) : Fin Tryd.prog Tryd.f33 ret33 31 (todoAt (bodyOf Tryd.f33) [1, 1] []) [(0, .int .i64 v1), (1, .int .i64 v2), (4, .ptr v3 0)] H (r33_j1 v1 v2 v3 H) := by
  unfold r33_j1
  refine f_seq ?_
  refine f_region ?_
  refine f_op rfl rfl (s_mv (v := .int .i64 v1) rfl) ?_
  refine f_op rfl rfl (s_mv (v := .int .i64 v1) rfl) ?_
  refine f_op rfl rfl (s_neg rfl) ?_
  refine f_op rfl rfl (s_max2 rfl rfl) ?_
  refine f_op rfl rfl (s_mv (v := .int .i64 v2) rfl) ?_
  refine f_op rfl rfl (s_as (v := .int .i64 (if v1 < (w64 (0 - v1)) then (w64 (0 - v1)) else v1)) rfl) ?_
  refine f_op rfl rfl (s_as (v := .int .i64 v2) rfl) ?_
  refine f_nil ?_
  refine f_seq ?_
  refine f_block ?_
  refine f_loop ?_
  refine f_keep [0, 1, 4, 5, 6] ?_
  exact s33_l0 FUEL v1 v2 v3 (if v1 < (w64 (0 - v1)) then (w64 (0 - v1)) else v1) v2 H

theorem sim33 {a0 : Int} {a1 : Int} {H : Hp} {p : (Int × Int) × Hp} (h : r33 a0 a1 H = some p) : CallSim Tryd.prog 33 [.int .i64 a0, .int .i64 a1] H (.agg [.int .i64 p.1.1, .int .i64 p.1.2]) p.2 := by
  refine callSim (fn := Tryd.f33) (ret := ret33) Tryd.func33 rfl Tryd.ntmps33 rfl ?_ h
  unfold r33
  refine f_seq ?_
  refine f_region ?_
  refine f_op rfl rfl (s_alloc (zs := [.int .i64 0, .int .i64 0]) ty25 rfl rfl) ?_
  refine o_hp ?_; intro H1 hH1
  refine f_nil ?_
  refine f_seq ?_
  refine f_seq ?_
  refine f_region ?_
  refine f_op rfl rfl (s_mv (v := .int .i64 a1) rfl) ?_
  refine f_op rfl rfl (s_lss rfl rfl) ?_
  refine f_nil ?_
  refine f_if (fun h2 => ?_) (fun h2 => ?_)
  · skip
    refine f_know 8 rfl (dec_true h2) ?_
    refine f_condT rfl ?_
    refine f_region ?_
    refine f_op rfl rfl (s_mv (v := .int .i64 a0) rfl) ?_
    refine f_op rfl rfl (s_neg rfl) ?_
    refine f_op rfl rfl (s_mv (v := .int .i64 a1) rfl) ?_
    refine f_op rfl rfl (s_neg rfl) ?_
    refine f_op rfl rfl (s_as (v := .int .i64 (w64 (0 - a0))) rfl) ?_
    refine f_op rfl rfl (s_as (v := .int .i64 (w64 (0 - a1))) rfl) ?_
    refine f_nil ?_
    refine f_keep [0, 1, 4] ?_
    exact s33_j1 (w64 (0 - a0)) (w64 (0 - a1)) H.n H1
  · skip
    refine f_know 8 rfl (dec_false h2) ?_
    refine f_condF rfl ?_
    refine f_skip ?_
    refine f_keep [0, 1, 4] ?_
    exact s33_j1 a0 a1 H.n H1

/- 32 congou/congouref05.plus -/
theorem ok32 : FnOk Tryd.prog 32 := ⟨⟨Tryd.f32, Tryd.func32, by kernel_rfl, rfl⟩⟩
theorem sim32 {a0_0 : Int} {a0_1 : Int} {a1_0 : Int} {a1_1 : Int} {H : Hp} {p : (Int × Int) × Hp} (h : r32 a0_0 a0_1 a1_0 a1_1 H = some p) : CallSim Tryd.prog 32 [.agg [.int .i64 a0_0, .int .i64 a0_1], .agg [.int .i64 a1_0, .int .i64 a1_1]] H (.agg [.int .i64 p.1.1, .int .i64 p.1.2]) p.2 := by
  refine callSim (fn := Tryd.f32) (ret := ret32) Tryd.func32 rfl Tryd.ntmps32 rfl ?_ h
  unfold r32
  refine f_seq ?_
  refine f_region ?_
  refine f_op rfl rfl (s_box (v := .agg [.int .i64 a0_0, .int .i64 a0_1]) rfl rfl) ?_
  refine f_op rfl rfl (s_box (v := .agg [.int .i64 a1_0, .int .i64 a1_1]) rfl rfl) ?_
  refine f_op rfl rfl (s_alloc (zs := [.int .i64 0, .int .i64 0]) ty25 rfl rfl) ?_
  refine o_hp ?_; intro H1 hH1
  refine f_nil ?_
  refine f_seq ?_
  refine f_region ?_
  refine f_op rfl rfl (s_fieldAddr Tryd.underlying25 rfl ty3 rfl) ?_
  refine o_bind ?_; intro x2 hx2
  refine f_op rfl rfl (s_load Tryd.underlying3 rfl rfl (ldI_eq hx2)) ?_
  refine f_op rfl rfl (s_fieldAddr Tryd.underlying25 rfl ty3 rfl) ?_
  refine o_bind ?_; intro x3 hx3
  refine f_op rfl rfl (s_load Tryd.underlying3 rfl rfl (ldI_eq hx3)) ?_
  refine f_op rfl rfl (s_mul rfl rfl) ?_
  refine f_op rfl rfl (s_fieldAddr Tryd.underlying25 rfl ty3 rfl) ?_
  refine o_bind ?_; intro x4 hx4
  refine f_op rfl rfl (s_load Tryd.underlying3 rfl rfl (ldI_eq hx4)) ?_
  refine f_op rfl rfl (s_fieldAddr Tryd.underlying25 rfl ty3 rfl) ?_
  refine o_bind ?_; intro x5 hx5
  refine f_op rfl rfl (s_load Tryd.underlying3 rfl rfl (ldI_eq hx5)) ?_
  refine f_op rfl rfl (s_mul rfl rfl) ?_
  refine f_op rfl rfl (s_add rfl rfl) ?_
  refine f_op rfl rfl (s_fieldAddr Tryd.underlying25 rfl ty3 rfl) ?_
  refine o_bind ?_; intro x6 hx6
  refine f_op rfl rfl (s_load Tryd.underlying3 rfl rfl (ldI_eq hx6)) ?_
  refine f_op rfl rfl (s_fieldAddr Tryd.underlying25 rfl ty3 rfl) ?_
  refine o_bind ?_; intro x7 hx7
  refine f_op rfl rfl (s_load Tryd.underlying3 rfl rfl (ldI_eq hx7)) ?_
  refine f_op rfl rfl (s_mul rfl rfl) ?_
  refine o_bind ?_; intro p8 hp8
  refine f_op rfl rfl (s_callO rfl ok33 (sim33 hp8) rfl rfl) ?_
  refine o_bind ?_; intro H9 hH9
  refine f_op rfl rfl (s_stores ty25 rfl rfl rfl rfl hH9 (Nat.le_of_eq (sts_mono hH9).symm)) ?_
  refine f_nil ?_
  refine f_bind ?_; intro x10 hx10
  refine f_bind ?_; intro x11 hx11
  exact f_ret (.cells Tryd.underlying25 rfl sz25 rfl (lds_cons (ldI_eq hx10) (lds_cons (ldI_eq hx11) (lds_nil))) (.nil)) rfl

/- 34 congou/congouref05.Less -/
theorem ok34 : FnOk Tryd.prog 34 := ⟨⟨Tryd.f34, Tryd.func34, by kernel_rfl, rfl⟩⟩
theorem sim34 {a0_0 : Int} {a0_1 : Int} {a1_0 : Int} {a1_1 : Int} {H : Hp} {p : Bool × Hp} (h : r34 a0_0 a0_1 a1_0 a1_1 H = some p) : CallSim Tryd.prog 34 [.agg [.int .i64 a0_0, .int .i64 a0_1], .agg [.int .i64 a1_0, .int .i64 a1_1]] H (.bool p.1) p.2 := by
  refine callSim (fn := Tryd.f34) (ret := ret34) Tryd.func34 rfl Tryd.ntmps34 rfl ?_ h
  unfold r34
  refine f_seq ?_
  refine f_region ?_
  refine f_op rfl rfl (s_box (v := .agg [.int .i64 a0_0, .int .i64 a0_1]) rfl rfl) ?_
  refine f_op rfl rfl (s_box (v := .agg [.int .i64 a1_0, .int .i64 a1_1]) rfl rfl) ?_
  refine f_op rfl rfl (s_as (v := .bool false) rfl) ?_
  refine o_hp ?_; intro H1 hH1
  refine f_nil ?_
  refine f_seq ?_
  refine f_region ?_
  refine f_op rfl rfl (s_fieldAddr Tryd.underlying25 rfl ty3 rfl) ?_
  refine o_bind ?_; intro x2 hx2
  refine f_op rfl rfl (s_load Tryd.underlying3 rfl rfl (ldI_eq hx2)) ?_
  refine f_op rfl rfl (s_fieldAddr Tryd.underlying25 rfl ty3 rfl) ?_
  refine o_bind ?_; intro x3 hx3
  refine f_op rfl rfl (s_load Tryd.underlying3 rfl rfl (ldI_eq hx3)) ?_
  refine f_op rfl rfl (s_mul rfl rfl) ?_
  refine f_op rfl rfl (s_fieldAddr Tryd.underlying25 rfl ty3 rfl) ?_
  refine o_bind ?_; intro x4 hx4
  refine f_op rfl rfl (s_load Tryd.underlying3 rfl rfl (ldI_eq hx4)) ?_
  refine f_op rfl rfl (s_fieldAddr Tryd.underlying25 rfl ty3 rfl) ?_
  refine o_bind ?_; intro x5 hx5
  refine f_op rfl rfl (s_load Tryd.underlying3 rfl rfl (ldI_eq hx5)) ?_
  refine f_op rfl rfl (s_mul rfl rfl) ?_
  refine f_op rfl rfl (s_lss rfl rfl) ?_
  refine f_op rfl rfl (s_as (v := .bool (decide ((w64 (x2 * x3)) < (w64 (x4 * x5))))) rfl) ?_
  refine f_nil ?_
  exact f_ret (.tmp rfl (.nil)) rfl

/- 35 congou/congouref05.minus -/
theorem ok35 : FnOk Tryd.prog 35 := ⟨⟨Tryd.f35, Tryd.func35, by kernel_rfl, rfl⟩⟩
theorem sim35 {a0_0 : Int} {a0_1 : Int} {a1_0 : Int} {a1_1 : Int} {H : Hp} {p : (Int × Int) × Hp} (h : r35 a0_0 a0_1 a1_0 a1_1 H = some p) : CallSim Tryd.prog 35 [.agg [.int .i64 a0_0, .int .i64 a0_1], .agg [.int .i64 a1_0, .int .i64 a1_1]] H (.agg [.int .i64 p.1.1, .int .i64 p.1.2]) p.2 := by
  refine callSim (fn := Tryd.f35) (ret := ret35) Tryd.func35 rfl Tryd.ntmps35 rfl ?_ h
  unfold r35
  refine f_seq ?_
  refine f_region ?_
  refine f_op rfl rfl (s_box (v := .agg [.int .i64 a0_0, .int .i64 a0_1]) rfl rfl) ?_
  refine f_op rfl rfl (s_box (v := .agg [.int .i64 a1_0, .int .i64 a1_1]) rfl rfl) ?_
  refine f_op rfl rfl (s_alloc (zs := [.int .i64 0, .int .i64 0]) ty25 rfl rfl) ?_
  refine o_hp ?_; intro H1 hH1
  refine f_nil ?_
  refine f_seq ?_
  refine f_region ?_
  refine f_op rfl rfl (s_fieldAddr Tryd.underlying25 rfl ty3 rfl) ?_
  refine o_bind ?_; intro x2 hx2
  refine f_op rfl rfl (s_load Tryd.underlying3 rfl rfl (ldI_eq hx2)) ?_
  refine f_op rfl rfl (s_fieldAddr Tryd.underlying25 rfl ty3 rfl) ?_
  refine o_bind ?_; intro x3 hx3
  refine f_op rfl rfl (s_load Tryd.underlying3 rfl rfl (ldI_eq hx3)) ?_
  refine f_op rfl rfl (s_mul rfl rfl) ?_
  refine f_op rfl rfl (s_fieldAddr Tryd.underlying25 rfl ty3 rfl) ?_
  refine o_bind ?_; intro x4 hx4
  refine f_op rfl rfl (s_load Tryd.underlying3 rfl rfl (ldI_eq hx4)) ?_
  refine f_op rfl rfl (s_fieldAddr Tryd.underlying25 rfl ty3 rfl) ?_
  refine o_bind ?_; intro x5 hx5
  refine f_op rfl rfl (s_load Tryd.underlying3 rfl rfl (ldI_eq hx5)) ?_
  refine f_op rfl rfl (s_mul rfl rfl) ?_
  refine f_op rfl rfl (s_sub rfl rfl) ?_
  refine f_op rfl rfl (s_fieldAddr Tryd.underlying25 rfl ty3 rfl) ?_
  refine o_bind ?_; intro x6 hx6
  refine f_op rfl rfl (s_load Tryd.underlying3 rfl rfl (ldI_eq hx6)) ?_
  refine f_op rfl rfl (s_fieldAddr Tryd.underlying25 rfl ty3 rfl) ?_
  refine o_bind ?_; intro x7 hx7
  refine f_op rfl rfl (s_load Tryd.underlying3 rfl rfl (ldI_eq hx7)) ?_
  refine f_op rfl rfl (s_mul rfl rfl) ?_
  refine o_bind ?_; intro p8 hp8
  refine f_op rfl rfl (s_callO rfl ok33 (sim33 hp8) rfl rfl) ?_
  refine o_bind ?_; intro H9 hH9
  refine f_op rfl rfl (s_stores ty25 rfl rfl rfl rfl hH9 (Nat.le_of_eq (sts_mono hH9).symm)) ?_
  refine f_nil ?_
  refine f_bind ?_; intro x10 hx10
  refine f_bind ?_; intro x11 hx11
  exact f_ret (.cells Tryd.underlying25 rfl sz25 rfl (lds_cons (ldI_eq hx10) (lds_cons (ldI_eq hx11) (lds_nil))) (.nil)) rfl

/- 36 congou/congouref05.times -/
theorem ok36 : FnOk Tryd.prog 36 := ⟨⟨Tryd.f36, Tryd.func36, by kernel_rfl, rfl⟩⟩
theorem sim36 {a0_0 : Int} {a0_1 : Int} {a1_0 : Int} {a1_1 : Int} {H : Hp} {p : (Int × Int) × Hp} (h : r36 a0_0 a0_1 a1_0 a1_1 H = some p) : CallSim Tryd.prog 36 [.agg [.int .i64 a0_0, .int .i64 a0_1], .agg [.int .i64 a1_0, .int .i64 a1_1]] H (.agg [.int .i64 p.1.1, .int .i64 p.1.2]) p.2 := by
  refine callSim (fn := Tryd.f36) (ret := ret36) Tryd.func36 rfl Tryd.ntmps36 rfl ?_ h
  unfold r36
  refine f_seq ?_
  refine f_region ?_
  refine f_op rfl rfl (s_box (v := .agg [.int .i64 a0_0, .int .i64 a0_1]) rfl rfl) ?_
  refine f_op rfl rfl (s_box (v := .agg [.int .i64 a1_0, .int .i64 a1_1]) rfl rfl) ?_
  refine f_op rfl rfl (s_alloc (zs := [.int .i64 0, .int .i64 0]) ty25 rfl rfl) ?_
  refine o_hp ?_; intro H1 hH1
  refine f_nil ?_
  refine f_seq ?_
  refine f_region ?_
  refine f_op rfl rfl (s_fieldAddr Tryd.underlying25 rfl ty3 rfl) ?_
  refine o_bind ?_; intro x2 hx2
  refine f_op rfl rfl (s_load Tryd.underlying3 rfl rfl (ldI_eq hx2)) ?_
  refine f_op rfl rfl (s_fieldAddr Tryd.underlying25 rfl ty3 rfl) ?_
  refine o_bind ?_; intro x3 hx3
  refine f_op rfl rfl (s_load Tryd.underlying3 rfl rfl (ldI_eq hx3)) ?_
  refine f_op rfl rfl (s_mul rfl rfl) ?_
  refine f_op rfl rfl (s_fieldAddr Tryd.underlying25 rfl ty3 rfl) ?_
  refine o_bind ?_; intro x4 hx4
  refine f_op rfl rfl (s_load Tryd.underlying3 rfl rfl (ldI_eq hx4)) ?_
  refine f_op rfl rfl (s_fieldAddr Tryd.underlying25 rfl ty3 rfl) ?_
  refine o_bind ?_; intro x5 hx5
  refine f_op rfl rfl (s_load Tryd.underlying3 rfl rfl (ldI_eq hx5)) ?_
  refine f_op rfl rfl (s_mul rfl rfl) ?_
  refine o_bind ?_; intro p6 hp6
  refine f_op rfl rfl (s_callO rfl ok33 (sim33 hp6) rfl rfl) ?_
  refine o_bind ?_; intro H7 hH7
  refine f_op rfl rfl (s_stores ty25 rfl rfl rfl rfl hH7 (Nat.le_of_eq (sts_mono hH7).symm)) ?_
  refine f_nil ?_
  refine f_bind ?_; intro x8 hx8
  refine f_bind ?_; intro x9 hx9
  exact f_ret (.cells Tryd.underlying25 rfl sz25 rfl (lds_cons (ldI_eq hx8) (lds_cons (ldI_eq hx9) (lds_nil))) (.nil)) rfl

end Go.Lt.P5
