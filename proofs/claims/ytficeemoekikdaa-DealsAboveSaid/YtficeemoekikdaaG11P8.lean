/- PRINTED BY A PROGRAM OF OURS: what each function that 'DealsAbove' reaches computes on the abstract heap, and that the translated code does just that. Nothing is asked of the input. -/
import Derived.Test.YtficeemoekikdaaG11P7
set_option linter.unusedVariables false
set_option linter.unusedSimpArgs false
set_option maxRecDepth 100000
set_option maxHeartbeats 4000000
namespace Go.Lt.P5
open Go Go.Lt Go.Proofs
/- 11 congou/congoulaw05.DealsAbove -/
theorem ok11 : FnOk Try.prog 11 := ⟨⟨Try.f11, Try.func11, by kernel_rfl, rfl⟩⟩
theorem s11_j6 {app : App} (happ : AppSim Try.prog app) (kt5 : Sl → Int → Nat → Int → Int → Int → Int → Int → Int → Int → Int → Int → Int → Int → Int → Int → Sl → Int → Int → Hp → Option (Bool × Hp)) (hkt5 : ∀ (v1 : Sl) (v2 : Int) (v3 : Nat) (v4 : Int) (v5 : Int) (v6 : Int) (v7 : Int) (v8 : Int) (v9 : Int) (v10 : Int) (v11 : Int) (v12 : Int) (v13 : Int) (v14 : Int) (v15 : Int) (v16 : Int) (v17 : Sl) (v18 : Int) (v19 : Int) (H : Hp), Fin Try.prog Try.f11 ret11 183 (todoAt (bodyOf Try.f11) [1, 1, 1, 1, 0, 1, 0, 0, 1, 1, 0, 0, 1, 1, 1, 1, 1, 1, 1, 1, 0, 0] []) [(0, .sl v1), (2, .int .i64 v2), (4, .ptr v3 0), (44, .agg [.int .i64 v4, .int .i64 v5, .int .i64 v6, .int .i64 v7, .int .i64 v8, .int .i64 v9, .int .i64 v10, .int .i64 v11, .int .i64 v12, .int .i64 v13, .int .i64 v14, .int .i64 v15]), (45, .int .i64 v16), (154, .sl v17), (155, .int .i64 v18), (156, .int .i64 v19)] H (kt5 v1 v2 v3 v4 v5 v6 v7 v8 v9 v10 v11 v12 v13 v14 v15 v16 v17 v18 v19 H)) (v1 : Sl) (v2 : Int) (v3 : Nat) (v4 : Int) (v5 : Int) (v6 : Int) (v7 : Int) (v8 : Int) (v9 : Int) (v10 : Int) (v11 : Int) (v12 : Int) (v13 : Int) (v14 : Int) (v15 : Int) (v16 : Int) (v17 : Sl) (v18 : Int) (v19 : Int) (v20 : Bool) (H : Hp) : Fin Try.prog Try.f11 ret11 183 (todoAt (bodyOf Try.f11) [1, 1, 1, 1, 0, 1, 0, 0, 1, 1, 0, 0, 1, 1, 1, 1, 1, 1, 1, 1, 0, 0, 1, 1, 0, 0, 1, 1, 1] []) [(0, .sl v1), (2, .int .i64 v2), (4, .ptr v3 0), (44, .agg [.int .i64 v4, .int .i64 v5, .int .i64 v6, .int .i64 v7, .int .i64 v8, .int .i64 v9, .int .i64 v10, .int .i64 v11, .int .i64 v12, .int .i64 v13, .int .i64 v14, .int .i64 v15]), (45, .int .i64 v16), (154, .sl v17), (155, .int .i64 v18), (156, .int .i64 v19), (179, .bool v20)] H (r11_j6 app kt5 v1 v2 v3 v4 v5 v6 v7 v8 v9 v10 v11 v12 v13 v14 v15 v16 v17 v18 v19 v20 H) := by
  unfold r11_j6
  refine f_if (fun h1 => ?_) (fun h1 => ?_)
  · skip
    refine f_know 179 rfl (bool_T h1) ?_
    refine f_condT rfl ?_
    refine f_seq ?_
    refine f_region ?_
    refine f_op rfl rfl (s_as (v := .bool false) rfl) ?_
    refine f_nil ?_
    exact f_ret (.tmp rfl (.nil)) rfl
  · skip
    refine f_know 179 rfl (bool_F h1) ?_
    refine f_condF rfl ?_
    refine f_skip ?_
    refine f_inBlock ?_
    refine f_region ?_
    refine f_op rfl rfl (s_add rfl rfl) ?_
    refine f_op rfl rfl (s_mv (v := .int .i64 (w64 (v19 + 1))) rfl) ?_
    refine f_nil ?_
    refine f_inLoop ?_
    refine f_keep [0, 2, 4, 44, 45, 154, 155, 156] ?_
    exact hkt5 v1 v2 v3 v4 v5 v6 v7 v8 v9 v10 v11 v12 v13 v14 v15 v16 v17 v18 (w64 (v19 + 1)) H

theorem s11_l5 {app : App} (happ : AppSim Try.prog app) (kt0 : Sl → Int → Nat → Int → Int → Int → Int → Int → Int → Int → Int → Int → Int → Int → Int → Int → Hp → Option (Bool × Hp)) (hkt0 : ∀ (v1 : Sl) (v2 : Int) (v3 : Nat) (v4 : Int) (v5 : Int) (v6 : Int) (v7 : Int) (v8 : Int) (v9 : Int) (v10 : Int) (v11 : Int) (v12 : Int) (v13 : Int) (v14 : Int) (v15 : Int) (v16 : Int) (H : Hp), Fin Try.prog Try.f11 ret11 183 (todoAt (bodyOf Try.f11) [1, 1, 1, 1, 0, 1, 0, 0] []) [(0, .sl v1), (2, .int .i64 v2), (4, .ptr v3 0), (44, .agg [.int .i64 v4, .int .i64 v5, .int .i64 v6, .int .i64 v7, .int .i64 v8, .int .i64 v9, .int .i64 v10, .int .i64 v11, .int .i64 v12, .int .i64 v13, .int .i64 v14, .int .i64 v15]), (45, .int .i64 v16)] H (kt0 v1 v2 v3 v4 v5 v6 v7 v8 v9 v10 v11 v12 v13 v14 v15 v16 H)) : ∀ (k_ : Nat) (v1 : Sl) (v2 : Int) (v3 : Nat) (v4 : Int) (v5 : Int) (v6 : Int) (v7 : Int) (v8 : Int) (v9 : Int) (v10 : Int) (v11 : Int) (v12 : Int) (v13 : Int) (v14 : Int) (v15 : Int) (v16 : Int) (v17 : Sl) (v18 : Int) (v19 : Int) (H : Hp), Fin Try.prog Try.f11 ret11 183 (todoAt (bodyOf Try.f11) [1, 1, 1, 1, 0, 1, 0, 0, 1, 1, 0, 0, 1, 1, 1, 1, 1, 1, 1, 1, 0, 0] []) [(0, .sl v1), (2, .int .i64 v2), (4, .ptr v3 0), (44, .agg [.int .i64 v4, .int .i64 v5, .int .i64 v6, .int .i64 v7, .int .i64 v8, .int .i64 v9, .int .i64 v10, .int .i64 v11, .int .i64 v12, .int .i64 v13, .int .i64 v14, .int .i64 v15]), (45, .int .i64 v16), (154, .sl v17), (155, .int .i64 v18), (156, .int .i64 v19)] H (r11_l5 app kt0 k_ v1 v2 v3 v4 v5 v6 v7 v8 v9 v10 v11 v12 v13 v14 v15 v16 v17 v18 v19 H) := by
  intro k_
  induction k_ with
  | zero => intro _ _ _ _ _ _ _ _ _ _ _ _ _ _ _ _ _ _ _ _; exact f_none
  | succ k_ ih =>
    intro v1 v2 v3 v4 v5 v6 v7 v8 v9 v10 v11 v12 v13 v14 v15 v16 v17 v18 v19 H
    rw [r11_l5]
    refine f_seq ?_
    refine f_region ?_
    refine f_op rfl rfl (s_lss rfl rfl) ?_
    refine f_nil ?_
    refine f_seq ?_
    refine f_if (fun h1 => ?_) (fun h1 => ?_)
    · skip
      refine f_know 157 rfl (dec_true h1) ?_
      refine f_condT rfl ?_
      refine f_skip ?_
      refine f_seq ?_
      refine f_block ?_
      refine f_seq ?_
      refine f_region ?_
      refine o_ck fun g2 => ?_
      refine f_op rfl rfl (s_idx Try.underlying65 ty64 rfl rfl g2) ?_
      refine o_bind ?_; intro x3 hx3
      refine o_bind ?_; intro x4 hx4
      refine o_bind ?_; intro x5 hx5
      refine o_bind ?_; intro x6 hx6
      refine f_op rfl rfl (s_loads Try.underlying64 rfl ty64 rfl (lds_cons (ldI_eq hx3) (lds_cons (ldI_eq hx4) (lds_cons (ldI_eq hx5) (lds_cons (ldI_eq hx6) (lds_nil)))))) ?_
      refine f_op rfl rfl (s_alloc (zs := [.int .i64 0, .int .i64 0, .int .i64 0, .int .i64 0]) ty64 rfl rfl) ?_
      refine o_bind ?_; intro H7 hH7
      refine f_op rfl rfl (s_stores ty64 rfl rfl rfl rfl hH7 (Nat.le_of_eq (sts_mono hH7).symm)) ?_
      refine f_nil ?_
      refine f_seq ?_
      refine f_bind ?_; intro p8 hp8
      refine f_bind ?_; intro x9 hx9
      refine f_bind ?_; intro x10 hx10
      refine f_bind ?_; intro x11 hx11
      refine f_bind ?_; intro x12 hx12
      refine f_bind ?_; intro p13 hp13
      refine f_ck fun g14 => ?_
      refine f_ck fun g15 => ?_
      refine f_ck fun g16 => ?_
      refine f_ck fun g17 => ?_
      refine f_draw (Φ := fun H_ => H_.ld H.n (0 + (0 : Int).toNat * 2) = some (.int .i64 x9) ∧ H_.ld H.n ((0 + (0 : Int).toNat * 2) + 1) = some (.int .i64 x10) ∧ H_.ld H.n (0 + (1 : Int).toNat * 2) = some (.int .i64 x11) ∧ H_.ld H.n ((0 + (1 : Int).toNat * 2) + 1) = some (.int .i64 x12)) (lim := 7) [0, 2, 0, 0, 0, 0, 0, 2, 0, 0, 0, 0, 0] (Trc.pure rfl rfl rfl (.inl fun _ => s_mv (v := .sl v1) rfl) (Trc.eff rfl rfl rfl (fun _ => ⟨ldI_eq g14, ldI_eq g15, ldI_eq g16, ldI_eq g17⟩) (s_callF rfl ok24 (sim24 hp8)) (Trc.pure rfl rfl rfl (.inl fun _ => s_idxA Try.underlying64 ty23 rfl rfl (by decide)) (Trc.pure rfl rfl rfl (.inr ⟨by decide +kernel, fun _ hp_ => s_loads Try.underlying23 rfl ty23 rfl (lds_cons hp_.1 (lds_cons hp_.2.1 (lds_nil)))⟩) (Trc.pure rfl rfl rfl (.inl fun _ => s_idxA Try.underlying64 ty23 rfl rfl (by decide)) (Trc.pure rfl rfl rfl (.inr ⟨by decide +kernel, fun _ hp_ => s_loads Try.underlying23 rfl ty23 rfl (lds_cons hp_.2.2.1 (lds_cons hp_.2.2.2 (lds_nil)))⟩) (Trc.pure rfl rfl rfl (.inl fun _ => s_build (cs := [.int .i64 x9, .int .i64 x10, .int .i64 x11, .int .i64 x12]) Try.underlying41 ty41 rfl pl41 rfl) (Trc.eff rfl rfl rfl (fun _ => ⟨ldI_eq hx9, ldI_eq hx10, ldI_eq hx11, ldI_eq hx12⟩) (s_callF rfl ok23 (sim23 happ hp13)) (Trc.pure rfl rfl rfl (.inl fun _ => s_mv (v := .tup [.bool p13.1.1, .int .i64 p13.1.2]) rfl) (Trc.pure rfl rfl rfl (.inl fun _ => s_extract (r := .bool p13.1.1) rfl rfl) (Trc.pure rfl rfl rfl (.inl fun _ => s_extract (r := .int .i64 p13.1.2) rfl rfl) (Trc.pure rfl rfl rfl (.inl fun _ => s_as (v := .bool p13.1.1) rfl) (Trc.pure rfl rfl rfl (.inl fun _ => s_as (v := .int .i64 p13.1.2) rfl) (Trc.nil (fun h_ => absurd h_ (by decide +kernel)))))))))))))))) rfl (by decide +kernel) mixed ?_
      refine f_seq ?_
      refine f_region ?_
      refine f_op rfl rfl (s_mv (v := .bool p13.1.1) rfl) ?_
      refine f_op rfl rfl (s_mv (v := .bool p13.1.1) rfl) ?_
      refine o_if (fun h18 => ?_) (fun h18 => ?_)
      · skip
        refine o_know 172 rfl (bool_T h18) ?_
        refine f_no rfl rfl ?_
        refine f_no rfl rfl ?_
        refine f_no rfl rfl ?_
        refine f_no rfl rfl ?_
        refine f_no rfl rfl ?_
        refine f_no rfl rfl ?_
        refine f_op rfl rfl (s_pickT (v := .bool true) rfl rfl) ?_
        refine f_nil ?_
        refine f_keep [0, 2, 4, 44, 45, 154, 155, 156, 179] ?_
        exact s11_j6 happ _ (fun v1_ v2_ v3_ v4_ v5_ v6_ v7_ v8_ v9_ v10_ v11_ v12_ v13_ v14_ v15_ v16_ v17_ v18_ v19_ H_ => ih v1_ v2_ v3_ v4_ v5_ v6_ v7_ v8_ v9_ v10_ v11_ v12_ v13_ v14_ v15_ v16_ v17_ v18_ v19_ H_) v1 v2 v3 v4 v5 v6 v7 v8 v9 v10 v11 v12 v13 v14 v15 v16 v17 v18 v19 true p13.2
      · skip
        refine o_know 172 rfl (bool_F h18) ?_
        refine f_op rfl rfl (s_mv (v := .int .i64 p13.1.2) rfl) ?_
        refine f_op rfl rfl (s_neq rfl rfl) ?_
        refine f_op rfl rfl (s_mv (v := .bool (decide (p13.1.2 ≠ 0))) rfl) ?_
        refine o_if (fun h19 => ?_) (fun h19 => ?_)
        · skip
          refine o_know 175 rfl (dec_true h19) ?_
          refine f_op rfl rfl (s_mv (v := .int .i64 p13.1.2) rfl) ?_
          refine f_op rfl rfl (s_neq rfl rfl) ?_
          refine f_op rfl rfl (s_pickT (v := .bool (decide (p13.1.2 ≠ 2))) rfl rfl) ?_
          refine f_op rfl rfl (s_pickF (v := .bool (decide (p13.1.2 ≠ 2))) rfl rfl) ?_
          refine f_nil ?_
          refine f_keep [0, 2, 4, 44, 45, 154, 155, 156, 179] ?_
          exact s11_j6 happ _ (fun v1_ v2_ v3_ v4_ v5_ v6_ v7_ v8_ v9_ v10_ v11_ v12_ v13_ v14_ v15_ v16_ v17_ v18_ v19_ H_ => ih v1_ v2_ v3_ v4_ v5_ v6_ v7_ v8_ v9_ v10_ v11_ v12_ v13_ v14_ v15_ v16_ v17_ v18_ v19_ H_) v1 v2 v3 v4 v5 v6 v7 v8 v9 v10 v11 v12 v13 v14 v15 v16 v17 v18 v19 (decide (p13.1.2 ≠ 2)) p13.2
        · skip
          refine o_know 175 rfl (dec_false h19) ?_
          refine f_no rfl rfl ?_
          refine f_no rfl rfl ?_
          refine f_op rfl rfl (s_pickF (v := .bool false) rfl rfl) ?_
          refine f_op rfl rfl (s_pickF (v := .bool false) rfl rfl) ?_
          refine f_nil ?_
          refine f_keep [0, 2, 4, 44, 45, 154, 155, 156, 179] ?_
          exact s11_j6 happ _ (fun v1_ v2_ v3_ v4_ v5_ v6_ v7_ v8_ v9_ v10_ v11_ v12_ v13_ v14_ v15_ v16_ v17_ v18_ v19_ H_ => ih v1_ v2_ v3_ v4_ v5_ v6_ v7_ v8_ v9_ v10_ v11_ v12_ v13_ v14_ v15_ v16_ v17_ v18_ v19_ H_) v1 v2 v3 v4 v5 v6 v7 v8 v9 v10 v11 v12 v13 v14 v15 v16 v17 v18 v19 false p13.2
    · skip
      refine f_know 157 rfl (dec_false h1) ?_
      refine f_condF rfl ?_
      refine f_exit rfl ?_
      refine f_inBlock ?_
      refine f_region ?_
      refine f_op rfl rfl (s_add rfl rfl) ?_
      refine f_op rfl rfl (s_mv (v := .int .i64 (w64 (v16 + 1))) rfl) ?_
      refine f_nil ?_
      refine f_inLoop ?_
      refine f_keep [0, 2, 4, 44, 45] ?_
      exact hkt0 v1 v2 v3 v4 v5 v6 v7 v8 v9 v10 v11 v12 v13 v14 v15 (w64 (v16 + 1)) H

theorem s11_j3 {app : App} (happ : AppSim Try.prog app) (kt0 : Sl → Int → Nat → Int → Int → Int → Int → Int → Int → Int → Int → Int → Int → Int → Int → Int → Hp → Option (Bool × Hp)) (hkt0 : ∀ (v1 : Sl) (v2 : Int) (v3 : Nat) (v4 : Int) (v5 : Int) (v6 : Int) (v7 : Int) (v8 : Int) (v9 : Int) (v10 : Int) (v11 : Int) (v12 : Int) (v13 : Int) (v14 : Int) (v15 : Int) (v16 : Int) (H : Hp), Fin Try.prog Try.f11 ret11 183 (todoAt (bodyOf Try.f11) [1, 1, 1, 1, 0, 1, 0, 0] []) [(0, .sl v1), (2, .int .i64 v2), (4, .ptr v3 0), (44, .agg [.int .i64 v4, .int .i64 v5, .int .i64 v6, .int .i64 v7, .int .i64 v8, .int .i64 v9, .int .i64 v10, .int .i64 v11, .int .i64 v12, .int .i64 v13, .int .i64 v14, .int .i64 v15]), (45, .int .i64 v16)] H (kt0 v1 v2 v3 v4 v5 v6 v7 v8 v9 v10 v11 v12 v13 v14 v15 v16 H)) (v1 : Sl) (v2 : Int) (v3 : Nat) (v4 : Int) (v5 : Nat) (v6 : Nat) (v7 : Nat) (v8 : Int) (v9 : Int) (v10 : Int) (v11 : Int) (v12 : Int) (v13 : Int) (v14 : Int) (v15 : Int) (v16 : Int) (v17 : Int) (v18 : Int) (v19 : Int) (v20 : Int) (v21 : Bool) (H : Hp) : Fin Try.prog Try.f11 ret11 183 (todoAt (bodyOf Try.f11) [1, 1, 1, 1, 0, 1, 0, 0, 1, 1, 0, 0, 1, 1, 1, 1, 1, 0, 1, 1] []) [(0, .sl v1), (2, .int .i64 v2), (4, .ptr v3 0), (10, .int .i64 v4), (11, .ptr v5 0), (14, .ptr v6 0), (15, .ptr v7 0), (44, .agg [.int .i64 v8, .int .i64 v9, .int .i64 v10, .int .i64 v11, .int .i64 v12, .int .i64 v13, .int .i64 v14, .int .i64 v15, .int .i64 v16, .int .i64 v17, .int .i64 v18, .int .i64 v19]), (45, .int .i64 v20), (143, .bool v21)] H (r11_j3 app kt0 v1 v2 v3 v4 v5 v6 v7 v8 v9 v10 v11 v12 v13 v14 v15 v16 v17 v18 v19 v20 v21 H) := by
  unfold r11_j3
  refine f_if (fun h1 => ?_) (fun h1 => ?_)
  · skip
    refine f_know 143 rfl (bool_T h1) ?_
    refine f_condT rfl ?_
    refine f_seq ?_
    refine f_region ?_
    refine f_op rfl rfl (s_as (v := .bool false) rfl) ?_
    refine f_nil ?_
    exact f_ret (.tmp rfl (.nil)) rfl
  · skip
    refine f_know 143 rfl (bool_F h1) ?_
    refine f_condF rfl ?_
    refine f_skip ?_
    refine f_seq ?_
    refine f_seq ?_
    refine f_region ?_
    refine f_op rfl rfl (s_mv (v := .int .i64 v4) rfl) ?_
    refine f_op rfl rfl (s_gtr rfl rfl) ?_
    refine f_nil ?_
    refine f_if (fun h2 => ?_) (fun h2 => ?_)
    · skip
      refine f_know 145 rfl (dec_true h2) ?_
      refine f_condT rfl ?_
      refine f_exit rfl ?_
      refine f_region ?_
      refine f_op rfl rfl (s_add rfl rfl) ?_
      refine f_op rfl rfl (s_mv (v := .int .i64 (w64 (v20 + 1))) rfl) ?_
      refine f_nil ?_
      refine f_inLoop ?_
      refine f_keep [0, 2, 4, 44, 45] ?_
      exact hkt0 v1 v2 v3 v8 v9 v10 v11 v12 v13 v14 v15 v16 v17 v18 v19 (w64 (v20 + 1)) H
    · skip
      refine f_know 145 rfl (dec_false h2) ?_
      refine f_condF rfl ?_
      refine f_skip ?_
      refine f_seq ?_
      refine f_region ?_
      refine o_bind ?_; intro x3 hx3
      refine o_bind ?_; intro x4 hx4
      refine f_op rfl rfl (s_loads Try.underlying23 rfl ty23 rfl (lds_cons (ldI_eq hx3) (lds_cons (ldI_eq hx4) (lds_nil)))) ?_
      refine f_op rfl rfl (s_fieldAddr Try.underlying41 rfl ty23 rfl) ?_
      refine o_bind ?_; intro x5 hx5
      refine o_bind ?_; intro x6 hx6
      refine f_op rfl rfl (s_loads Try.underlying23 rfl ty23 rfl (lds_cons (ldI_eq hx5) (lds_cons (ldI_eq hx6) (lds_nil)))) ?_
      refine f_op rfl rfl (s_buildA (cs := [.int .i64 x3, .int .i64 x4, .int .i64 x5, .int .i64 x6]) Try.underlying64 ty64 ty23 rfl rfl) ?_
      refine f_op rfl rfl (s_fieldAddr Try.underlying41 rfl ty23 rfl) ?_
      refine o_bind ?_; intro x7 hx7
      refine o_bind ?_; intro x8 hx8
      refine f_op rfl rfl (s_loads Try.underlying23 rfl ty23 rfl (lds_cons (ldI_eq hx7) (lds_cons (ldI_eq hx8) (lds_nil)))) ?_
      refine o_bind ?_; intro x9 hx9
      refine o_bind ?_; intro x10 hx10
      refine f_op rfl rfl (s_loads Try.underlying23 rfl ty23 rfl (lds_cons (ldI_eq hx9) (lds_cons (ldI_eq hx10) (lds_nil)))) ?_
      refine f_op rfl rfl (s_buildA (cs := [.int .i64 x7, .int .i64 x8, .int .i64 x9, .int .i64 x10]) Try.underlying64 ty64 ty23 rfl rfl) ?_
      refine f_op rfl rfl (s_buildSlice (cs := [.int .i64 x3, .int .i64 x4, .int .i64 x5, .int .i64 x6, .int .i64 x7, .int .i64 x8, .int .i64 x9, .int .i64 x10]) Try.underlying65 ty64 (by decide) (by decide) rfl (by decide) rfl) ?_
      refine f_op rfl rfl (s_lenS rfl Try.underlying65 rfl) ?_
      refine f_op rfl rfl (s_mv (v := .int .i64 0) rfl) ?_
      refine o_hp ?_; intro H11 hH11
      refine f_nil ?_
      refine f_block ?_
      refine f_loop ?_
      refine f_keep [0, 2, 4, 44, 45, 154, 155, 156] ?_
      exact s11_l5 happ _ hkt0 FUEL v1 v2 v3 v8 v9 v10 v11 v12 v13 v14 v15 v16 v17 v18 v19 v20 ⟨false, H.n, 0, 2, 2, 0⟩ ((⟨false, H.n, 0, 2, 2, 0⟩ : Sl).len : Int) 0 H11

theorem s11_j4 {app : App} (happ : AppSim Try.prog app) (kt0 : Sl → Int → Nat → Int → Int → Int → Int → Int → Int → Int → Int → Int → Int → Int → Int → Int → Hp → Option (Bool × Hp)) (hkt0 : ∀ (v1 : Sl) (v2 : Int) (v3 : Nat) (v4 : Int) (v5 : Int) (v6 : Int) (v7 : Int) (v8 : Int) (v9 : Int) (v10 : Int) (v11 : Int) (v12 : Int) (v13 : Int) (v14 : Int) (v15 : Int) (v16 : Int) (H : Hp), Fin Try.prog Try.f11 ret11 183 (todoAt (bodyOf Try.f11) [1, 1, 1, 1, 0, 1, 0, 0] []) [(0, .sl v1), (2, .int .i64 v2), (4, .ptr v3 0), (44, .agg [.int .i64 v4, .int .i64 v5, .int .i64 v6, .int .i64 v7, .int .i64 v8, .int .i64 v9, .int .i64 v10, .int .i64 v11, .int .i64 v12, .int .i64 v13, .int .i64 v14, .int .i64 v15]), (45, .int .i64 v16)] H (kt0 v1 v2 v3 v4 v5 v6 v7 v8 v9 v10 v11 v12 v13 v14 v15 v16 H)) (v1 : Sl) (v2 : Int) (v3 : Nat) (v4 : Int) (v5 : Nat) (v6 : Int) (v7 : Int) (v8 : Int) (v9 : Int) (v10 : Int) (v11 : Int) (v12 : Int) (v13 : Int) (v14 : Int) (v15 : Int) (v16 : Int) (v17 : Int) (v18 : Int) (v19 : Bool) (H : Hp) : Fin Try.prog Try.f11 ret11 183 (todoAt (bodyOf Try.f11) [1, 1, 1, 1, 0, 1, 0, 0, 1, 1, 0, 0, 1, 1, 1, 0, 1] []) [(0, .sl v1), (2, .int .i64 v2), (4, .ptr v3 0), (10, .int .i64 v4), (11, .ptr v5 0), (44, .agg [.int .i64 v6, .int .i64 v7, .int .i64 v8, .int .i64 v9, .int .i64 v10, .int .i64 v11, .int .i64 v12, .int .i64 v13, .int .i64 v14, .int .i64 v15, .int .i64 v16, .int .i64 v17]), (45, .int .i64 v18), (95, .bool v19)] H (r11_j4 app kt0 v1 v2 v3 v4 v5 v6 v7 v8 v9 v10 v11 v12 v13 v14 v15 v16 v17 v18 v19 H) := by
  unfold r11_j4
  refine f_if (fun h1 => ?_) (fun h1 => ?_)
  · skip
    refine f_know 95 rfl (bool_T h1) ?_
    refine f_condT rfl ?_
    refine f_seq ?_
    refine f_region ?_
    refine f_op rfl rfl (s_as (v := .bool false) rfl) ?_
    refine f_nil ?_
    exact f_ret (.tmp rfl (.nil)) rfl
  · skip
    refine f_know 95 rfl (bool_F h1) ?_
    refine f_condF rfl ?_
    refine f_skip ?_
    refine f_seq ?_
    refine f_bind ?_; intro x2 hx2
    refine f_bind ?_; intro x3 hx3
    refine f_bind ?_; intro x4 hx4
    refine f_bind ?_; intro p5 hp5
    refine f_bind ?_; intro x6 hx6
    refine f_bind ?_; intro x7 hx7
    refine f_bind ?_; intro x8 hx8
    refine f_bind ?_; intro p9 hp9
    refine f_bind ?_; intro H10 hH10
    refine f_bind ?_; intro H11 hH11
    refine f_drawF (Φ := fun _ => True) (lim := 1000000) [0, 0, 1, 0, 0, 0, 0, 1, 0, 0, 0, 1, 0, 0, 0, 0, 0, 1, 0, 0, 0, 0, 1, 0, 0, 0, 1, 0, 0, 0, 2, 2, 2, 2] [false, false, false, false, false, false, false, false, false, false, false, false, false, false, false, false, false, false, false, false, false, false, false, false, false, false, false, false, false, false, true, true, false, false] 30 32 (Trc.pure rfl rfl rfl (.inl fun _ => s_fieldAddr Try.underlying41 rfl ty23 rfl) (Trc.pure rfl rfl rfl (.inl fun _ => s_fieldAddr Try.underlying23 rfl ty3 rfl) (Trc.read rfl rfl rfl (s_load Try.underlying3 rfl rfl (ldI_eq hx2)) (Trc.pure rfl rfl rfl (.inl fun _ => s_mv (v := .int .i64 v2) rfl) (Trc.pure rfl rfl rfl (.inl fun _ => s_mul rfl rfl) (Trc.pure rfl rfl rfl (.inl fun _ => s_fieldAddr Try.underlying41 rfl ty23 rfl) (Trc.pure rfl rfl rfl (.inl fun _ => s_fieldAddr Try.underlying23 rfl ty3 rfl) (Trc.read rfl rfl rfl (s_load Try.underlying3 rfl rfl (ldI_eq hx3)) (Trc.pure rfl rfl rfl (.inl fun _ => s_add rfl rfl) (Trc.pure rfl rfl rfl (.inl fun _ => s_fieldAddr Try.underlying41 rfl ty23 rfl) (Trc.pure rfl rfl rfl (.inl fun _ => s_fieldAddr Try.underlying23 rfl ty3 rfl) (Trc.read rfl rfl rfl (s_load Try.underlying3 rfl rfl (ldI_eq hx4)) (Trc.pure rfl rfl rfl (.inl fun _ => s_mv (v := .int .i64 v2) rfl) (Trc.pure rfl rfl rfl (.inl fun _ => s_mul rfl rfl) (Trc.pure rfl rfl rfl (.inl fun _ => s_callO rfl ok43 (sim43 hp5) rfl rfl) (Trc.pure rfl rfl rfl (.inl fun _ => s_fieldAddr Try.underlying41 rfl ty23 rfl) (Trc.pure rfl rfl rfl (.inl fun _ => s_fieldAddr Try.underlying23 rfl ty3 rfl) (Trc.read rfl rfl rfl (s_load Try.underlying3 rfl rfl (ldI_eq hx6)) (Trc.pure rfl rfl rfl (.inl fun _ => s_mv (v := .int .i64 v2) rfl) (Trc.pure rfl rfl rfl (.inl fun _ => s_mul rfl rfl) (Trc.pure rfl rfl rfl (.inl fun _ => s_fieldAddr Try.underlying41 rfl ty23 rfl) (Trc.pure rfl rfl rfl (.inl fun _ => s_fieldAddr Try.underlying23 rfl ty3 rfl) (Trc.read rfl rfl rfl (s_load Try.underlying3 rfl rfl (ldI_eq hx7)) (Trc.pure rfl rfl rfl (.inl fun _ => s_add rfl rfl) (Trc.pure rfl rfl rfl (.inl fun _ => s_fieldAddr Try.underlying41 rfl ty23 rfl) (Trc.pure rfl rfl rfl (.inl fun _ => s_fieldAddr Try.underlying23 rfl ty3 rfl) (Trc.read rfl rfl rfl (s_load Try.underlying3 rfl rfl (ldI_eq hx8)) (Trc.pure rfl rfl rfl (.inl fun _ => s_mv (v := .int .i64 v2) rfl) (Trc.pure rfl rfl rfl (.inl fun _ => s_mul rfl rfl) (Trc.pure rfl rfl rfl (.inl fun _ => s_callO rfl ok43 (sim43 hp9) rfl rfl) (Trc.fl .p rfl rfl rfl (fun _ => trivial) rfl (by rfl) (fun _ => s_alloc (zs := [.int .i64 0, .int .i64 0]) ty23 rfl rfl) (Trc.fl .p rfl rfl rfl (fun _ => trivial) rfl (by rfl) (fun _ => s_alloc (zs := [.int .i64 0, .int .i64 0]) ty23 rfl rfl) (Trc.eff rfl rfl rfl (fun _ => trivial) (s_stores ty23 rfl rfl rfl rfl hH10 (Nat.le_of_eq (sts_mono hH10).symm)) (Trc.eff rfl rfl rfl (fun _ => trivial) (s_stores ty23 rfl rfl rfl rfl hH11 (Nat.le_of_eq (sts_mono hH11).symm)) (Trc.nil (fun _ => trivial)))))))))))))))))))))))))))))))))))) rfl rfl (by decide +kernel) mixed ?_
    refine f_seq ?_
    refine f_seq ?_
    refine f_bind ?_; intro p12 hp12
    refine f_bind ?_; intro x13 hx13
    refine f_bind ?_; intro x14 hx14
    refine f_bind ?_; intro x15 hx15
    refine f_bind ?_; intro x16 hx16
    refine f_bind ?_; intro p17 hp17
    refine f_ck fun g18 => ?_
    refine f_ck fun g19 => ?_
    refine f_ck fun g20 => ?_
    refine f_ck fun g21 => ?_
    refine f_draw (Φ := fun H_ => H_.ld H.n 0 = some (.int .i64 x13) ∧ H_.ld H.n (0 + 1) = some (.int .i64 x14) ∧ H_.ld ((H.push (.cells [.int .i64 0, .int .i64 0] false)).n) 0 = some (.int .i64 x15) ∧ H_.ld ((H.push (.cells [.int .i64 0, .int .i64 0] false)).n) (0 + 1) = some (.int .i64 x16)) (lim := 5) [0, 2, 0, 0, 0, 2, 0, 0, 0, 0, 0] (Trc.pure rfl rfl rfl (.inl fun _ => s_mv (v := .sl v1) rfl) (Trc.eff rfl rfl rfl (fun _ => ⟨ldI_eq g18, ldI_eq g19, ldI_eq g20, ldI_eq g21⟩) (s_callF rfl ok24 (sim24 hp12)) (Trc.pure rfl rfl rfl (.inr ⟨by decide +kernel, fun _ hp_ => s_loads Try.underlying23 rfl ty23 rfl (lds_cons hp_.1 (lds_cons hp_.2.1 (lds_nil)))⟩) (Trc.pure rfl rfl rfl (.inr ⟨by decide +kernel, fun _ hp_ => s_loads Try.underlying23 rfl ty23 rfl (lds_cons hp_.2.2.1 (lds_cons hp_.2.2.2 (lds_nil)))⟩) (Trc.pure rfl rfl rfl (.inl fun _ => s_build (cs := [.int .i64 x13, .int .i64 x14, .int .i64 x15, .int .i64 x16]) Try.underlying41 ty41 rfl pl41 rfl) (Trc.eff rfl rfl rfl (fun _ => ⟨ldI_eq hx13, ldI_eq hx14, ldI_eq hx15, ldI_eq hx16⟩) (s_callF rfl ok23 (sim23 happ hp17)) (Trc.pure rfl rfl rfl (.inl fun _ => s_mv (v := .tup [.bool p17.1.1, .int .i64 p17.1.2]) rfl) (Trc.pure rfl rfl rfl (.inl fun _ => s_extract (r := .bool p17.1.1) rfl rfl) (Trc.pure rfl rfl rfl (.inl fun _ => s_extract (r := .int .i64 p17.1.2) rfl rfl) (Trc.pure rfl rfl rfl (.inl fun _ => s_as (v := .bool p17.1.1) rfl) (Trc.pure rfl rfl rfl (.inl fun _ => s_as (v := .int .i64 p17.1.2) rfl) (Trc.nil (fun h_ => absurd h_ (by decide +kernel)))))))))))))) rfl (by decide +kernel) mixed ?_
    refine f_seq ?_
    refine f_region ?_
    refine f_op rfl rfl (s_mv (v := .bool p17.1.1) rfl) ?_
    refine f_op rfl rfl (s_mv (v := .bool p17.1.1) rfl) ?_
    refine o_if (fun h22 => ?_) (fun h22 => ?_)
    · skip
      refine o_know 136 rfl (bool_T h22) ?_
      refine f_no rfl rfl ?_
      refine f_no rfl rfl ?_
      refine f_no rfl rfl ?_
      refine f_no rfl rfl ?_
      refine f_no rfl rfl ?_
      refine f_no rfl rfl ?_
      refine f_op rfl rfl (s_pickT (v := .bool true) rfl rfl) ?_
      refine f_nil ?_
      refine f_keep [0, 2, 4, 10, 11, 14, 15, 44, 45, 143] ?_
      exact s11_j3 happ _ hkt0 v1 v2 v3 v4 v5 H.n ((H.push (.cells [.int .i64 0, .int .i64 0] false)).n) v6 v7 v8 v9 v10 v11 v12 v13 v14 v15 v16 v17 v18 true p17.2
    · skip
      refine o_know 136 rfl (bool_F h22) ?_
      refine f_op rfl rfl (s_mv (v := .int .i64 p17.1.2) rfl) ?_
      refine f_op rfl rfl (s_neq rfl rfl) ?_
      refine f_op rfl rfl (s_mv (v := .bool (decide (p17.1.2 ≠ 0))) rfl) ?_
      refine o_if (fun h23 => ?_) (fun h23 => ?_)
      · skip
        refine o_know 139 rfl (dec_true h23) ?_
        refine f_op rfl rfl (s_mv (v := .int .i64 p17.1.2) rfl) ?_
        refine f_op rfl rfl (s_neq rfl rfl) ?_
        refine f_op rfl rfl (s_pickT (v := .bool (decide (p17.1.2 ≠ 2))) rfl rfl) ?_
        refine f_op rfl rfl (s_pickF (v := .bool (decide (p17.1.2 ≠ 2))) rfl rfl) ?_
        refine f_nil ?_
        refine f_keep [0, 2, 4, 10, 11, 14, 15, 44, 45, 143] ?_
        exact s11_j3 happ _ hkt0 v1 v2 v3 v4 v5 H.n ((H.push (.cells [.int .i64 0, .int .i64 0] false)).n) v6 v7 v8 v9 v10 v11 v12 v13 v14 v15 v16 v17 v18 (decide (p17.1.2 ≠ 2)) p17.2
      · skip
        refine o_know 139 rfl (dec_false h23) ?_
        refine f_no rfl rfl ?_
        refine f_no rfl rfl ?_
        refine f_op rfl rfl (s_pickF (v := .bool false) rfl rfl) ?_
        refine f_op rfl rfl (s_pickF (v := .bool false) rfl rfl) ?_
        refine f_nil ?_
        refine f_keep [0, 2, 4, 10, 11, 14, 15, 44, 45, 143] ?_
        exact s11_j3 happ _ hkt0 v1 v2 v3 v4 v5 H.n ((H.push (.cells [.int .i64 0, .int .i64 0] false)).n) v6 v7 v8 v9 v10 v11 v12 v13 v14 v15 v16 v17 v18 false p17.2

theorem s11_j2 {app : App} (happ : AppSim Try.prog app) (kt0 : Sl → Int → Nat → Int → Int → Int → Int → Int → Int → Int → Int → Int → Int → Int → Int → Int → Hp → Option (Bool × Hp)) (hkt0 : ∀ (v1 : Sl) (v2 : Int) (v3 : Nat) (v4 : Int) (v5 : Int) (v6 : Int) (v7 : Int) (v8 : Int) (v9 : Int) (v10 : Int) (v11 : Int) (v12 : Int) (v13 : Int) (v14 : Int) (v15 : Int) (v16 : Int) (H : Hp), Fin Try.prog Try.f11 ret11 183 (todoAt (bodyOf Try.f11) [1, 1, 1, 1, 0, 1, 0, 0] []) [(0, .sl v1), (2, .int .i64 v2), (4, .ptr v3 0), (44, .agg [.int .i64 v4, .int .i64 v5, .int .i64 v6, .int .i64 v7, .int .i64 v8, .int .i64 v9, .int .i64 v10, .int .i64 v11, .int .i64 v12, .int .i64 v13, .int .i64 v14, .int .i64 v15]), (45, .int .i64 v16)] H (kt0 v1 v2 v3 v4 v5 v6 v7 v8 v9 v10 v11 v12 v13 v14 v15 v16 H)) (v1 : Sl) (v2 : Int) (v3 : Nat) (v4 : Int) (v5 : Nat) (v6 : Int) (v7 : Int) (v8 : Int) (v9 : Int) (v10 : Int) (v11 : Int) (v12 : Int) (v13 : Int) (v14 : Int) (v15 : Int) (v16 : Int) (v17 : Int) (v18 : Int) (v19 : Bool) (H : Hp) : Fin Try.prog Try.f11 ret11 183 (todoAt (bodyOf Try.f11) [1, 1, 1, 1, 0, 1, 0, 0, 1, 1, 0, 0, 1, 0, 1] []) [(0, .sl v1), (2, .int .i64 v2), (4, .ptr v3 0), (10, .int .i64 v4), (11, .ptr v5 0), (44, .agg [.int .i64 v6, .int .i64 v7, .int .i64 v8, .int .i64 v9, .int .i64 v10, .int .i64 v11, .int .i64 v12, .int .i64 v13, .int .i64 v14, .int .i64 v15, .int .i64 v16, .int .i64 v17]), (45, .int .i64 v18), (70, .bool v19)] H (r11_j2 app kt0 v1 v2 v3 v4 v5 v6 v7 v8 v9 v10 v11 v12 v13 v14 v15 v16 v17 v18 v19 H) := by
  unfold r11_j2
  refine f_if (fun h1 => ?_) (fun h1 => ?_)
  · skip
    refine f_know 70 rfl (bool_T h1) ?_
    refine f_condT rfl ?_
    refine f_seq ?_
    refine f_region ?_
    refine f_op rfl rfl (s_as (v := .bool false) rfl) ?_
    refine f_nil ?_
    exact f_ret (.tmp rfl (.nil)) rfl
  · skip
    refine f_know 70 rfl (bool_F h1) ?_
    refine f_condF rfl ?_
    refine f_skip ?_
    refine f_seq ?_
    refine f_bind ?_; intro p2 hp2
    refine f_bind ?_; intro x3 hx3
    refine f_bind ?_; intro x4 hx4
    refine f_bind ?_; intro x5 hx5
    refine f_bind ?_; intro x6 hx6
    refine f_bind ?_; intro p7 hp7
    refine f_ck fun g8 => ?_
    refine f_ck fun g9 => ?_
    refine f_ck fun g10 => ?_
    refine f_ck fun g11 => ?_
    refine f_draw (Φ := fun H_ => H_.ld v5 0 = some (.int .i64 x3) ∧ H_.ld v5 (0 + 1) = some (.int .i64 x4) ∧ H_.ld v5 (0 + 2) = some (.int .i64 x5) ∧ H_.ld v5 (0 + 3) = some (.int .i64 x6)) (lim := 3) [0, 2, 0, 2, 0, 0, 0, 0, 0] (Trc.pure rfl rfl rfl (.inl fun _ => s_mv (v := .sl v1) rfl) (Trc.eff rfl rfl rfl (fun _ => ⟨ldI_eq g8, ldI_eq g9, ldI_eq g10, ldI_eq g11⟩) (s_callF rfl ok24 (sim24 hp2)) (Trc.pure rfl rfl rfl (.inr ⟨by decide +kernel, fun _ hp_ => s_loads Try.underlying41 rfl ty41 rfl (lds_cons hp_.1 (lds_cons hp_.2.1 (lds_cons hp_.2.2.1 (lds_cons hp_.2.2.2 (lds_nil)))))⟩) (Trc.eff rfl rfl rfl (fun _ => ⟨ldI_eq hx3, ldI_eq hx4, ldI_eq hx5, ldI_eq hx6⟩) (s_callF rfl ok23 (sim23 happ hp7)) (Trc.pure rfl rfl rfl (.inl fun _ => s_mv (v := .tup [.bool p7.1.1, .int .i64 p7.1.2]) rfl) (Trc.pure rfl rfl rfl (.inl fun _ => s_extract (r := .bool p7.1.1) rfl rfl) (Trc.pure rfl rfl rfl (.inl fun _ => s_extract (r := .int .i64 p7.1.2) rfl rfl) (Trc.pure rfl rfl rfl (.inl fun _ => s_as (v := .bool p7.1.1) rfl) (Trc.pure rfl rfl rfl (.inl fun _ => s_as (v := .int .i64 p7.1.2) rfl) (Trc.nil (fun h_ => absurd h_ (by decide +kernel)))))))))))) rfl (by decide +kernel) mixed ?_
    refine f_seq ?_
    refine f_seq ?_
    refine f_region ?_
    refine f_op rfl rfl (s_fieldAddr Try.underlying41 rfl ty23 rfl) ?_
    refine f_op rfl rfl (s_fieldAddr Try.underlying23 rfl ty3 rfl) ?_
    refine o_bind ?_; intro x12 hx12
    refine f_op rfl rfl (s_load Try.underlying3 rfl rfl (ldI_eq hx12)) ?_
    refine f_op rfl rfl (s_leq rfl rfl) ?_
    refine f_op rfl rfl (s_mv (v := .bool (decide (x12 ≤ 1000000))) rfl) ?_
    refine o_if (fun h13 => ?_) (fun h13 => ?_)
    · skip
      refine o_know 82 rfl (dec_true h13) ?_
      refine f_op rfl rfl (s_fieldAddr Try.underlying41 rfl ty23 rfl) ?_
      refine f_op rfl rfl (s_fieldAddr Try.underlying23 rfl ty3 rfl) ?_
      refine o_bind ?_; intro x14 hx14
      refine f_op rfl rfl (s_load Try.underlying3 rfl rfl (ldI_eq hx14)) ?_
      refine f_op rfl rfl (s_leq rfl rfl) ?_
      refine f_op rfl rfl (s_pickT (v := .bool (decide (x14 ≤ 1000000))) rfl rfl) ?_
      refine f_op rfl rfl (s_mv (v := .bool (decide (x14 ≤ 1000000))) rfl) ?_
      refine o_if (fun h15 => ?_) (fun h15 => ?_)
      · skip
        refine o_know 88 rfl (dec_true h15) ?_
        refine f_op rfl rfl (s_mv (v := .bool p7.1.1) rfl) ?_
        refine f_op rfl rfl (s_not rfl) ?_
        refine f_op rfl rfl (s_mv (v := .bool (!p7.1.1)) rfl) ?_
        refine o_if (fun h16 => ?_) (fun h16 => ?_)
        · skip
          refine o_know 91 rfl (bool_notT h16) ?_
          refine f_op rfl rfl (s_mv (v := .int .i64 p7.1.2) rfl) ?_
          refine f_op rfl rfl (s_neq rfl rfl) ?_
          refine f_op rfl rfl (s_pickF (v := .bool (decide (p7.1.2 ≠ 0))) rfl rfl) ?_
          refine f_op rfl rfl (s_pickT (v := .bool (decide (p7.1.2 ≠ 0))) rfl rfl) ?_
          refine f_nil ?_
          refine f_keep [0, 2, 4, 10, 11, 44, 45, 95] ?_
          exact s11_j4 happ _ hkt0 v1 v2 v3 v4 v5 v6 v7 v8 v9 v10 v11 v12 v13 v14 v15 v16 v17 v18 (decide (p7.1.2 ≠ 0)) p7.2
        · skip
          refine o_know 91 rfl (bool_notF h16) ?_
          refine f_no rfl rfl ?_
          refine f_no rfl rfl ?_
          refine f_op rfl rfl (s_pickT (v := .bool true) rfl rfl) ?_
          refine f_op rfl rfl (s_pickT (v := .bool true) rfl rfl) ?_
          refine f_nil ?_
          refine f_keep [0, 2, 4, 10, 11, 44, 45, 95] ?_
          exact s11_j4 happ _ hkt0 v1 v2 v3 v4 v5 v6 v7 v8 v9 v10 v11 v12 v13 v14 v15 v16 v17 v18 true p7.2
      · skip
        refine o_know 88 rfl (dec_false h15) ?_
        refine f_no rfl rfl ?_
        refine f_no rfl rfl ?_
        refine f_no rfl rfl ?_
        refine f_no rfl rfl ?_
        refine f_no rfl rfl ?_
        refine f_no rfl rfl ?_
        refine f_op rfl rfl (s_pickF (v := .bool false) rfl rfl) ?_
        refine f_nil ?_
        refine f_keep [0, 2, 4, 10, 11, 44, 45, 95] ?_
        exact s11_j4 happ _ hkt0 v1 v2 v3 v4 v5 v6 v7 v8 v9 v10 v11 v12 v13 v14 v15 v16 v17 v18 false p7.2
    · skip
      refine o_know 82 rfl (dec_false h13) ?_
      refine f_no rfl rfl ?_
      refine f_no rfl rfl ?_
      refine f_no rfl rfl ?_
      refine f_no rfl rfl ?_
      refine f_op rfl rfl (s_pickF (v := .bool false) rfl rfl) ?_
      refine f_op rfl rfl (s_mv (v := .bool false) rfl) ?_
      refine f_no rfl rfl ?_
      refine f_no rfl rfl ?_
      refine f_no rfl rfl ?_
      refine f_no rfl rfl ?_
      refine f_no rfl rfl ?_
      refine f_no rfl rfl ?_
      refine f_op rfl rfl (s_pickF (v := .bool false) rfl rfl) ?_
      refine f_nil ?_
      refine f_keep [0, 2, 4, 10, 11, 44, 45, 95] ?_
      exact s11_j4 happ _ hkt0 v1 v2 v3 v4 v5 v6 v7 v8 v9 v10 v11 v12 v13 v14 v15 v16 v17 v18 false p7.2

theorem s11_l0 {app : App} (happ : AppSim Try.prog app) : ∀ (k_ : Nat) (v1 : Sl) (v2 : Int) (v3 : Nat) (v4 : Int) (v5 : Int) (v6 : Int) (v7 : Int) (v8 : Int) (v9 : Int) (v10 : Int) (v11 : Int) (v12 : Int) (v13 : Int) (v14 : Int) (v15 : Int) (v16 : Int) (H : Hp), Fin Try.prog Try.f11 ret11 183 (todoAt (bodyOf Try.f11) [1, 1, 1, 1, 0, 1, 0, 0] []) [(0, .sl v1), (2, .int .i64 v2), (4, .ptr v3 0), (44, .agg [.int .i64 v4, .int .i64 v5, .int .i64 v6, .int .i64 v7, .int .i64 v8, .int .i64 v9, .int .i64 v10, .int .i64 v11, .int .i64 v12, .int .i64 v13, .int .i64 v14, .int .i64 v15]), (45, .int .i64 v16)] H (r11_l0 app k_ v1 v2 v3 v4 v5 v6 v7 v8 v9 v10 v11 v12 v13 v14 v15 v16 H) := by
  intro k_
  induction k_ with
  | zero => intro _ _ _ _ _ _ _ _ _ _ _ _ _ _ _ _ _; exact f_none
  | succ k_ ih =>
    intro v1 v2 v3 v4 v5 v6 v7 v8 v9 v10 v11 v12 v13 v14 v15 v16 H
    rw [r11_l0]
    refine f_seq ?_
    refine f_region ?_
    refine f_op rfl rfl (s_lss rfl rfl) ?_
    refine f_nil ?_
    refine f_seq ?_
    refine f_if (fun h1 => ?_) (fun h1 => ?_)
    · skip
      refine f_know 46 rfl (dec_true h1) ?_
      refine f_condT rfl ?_
      refine f_skip ?_
      refine f_seq ?_
      refine f_block ?_
      refine f_seq ?_
      refine f_region ?_
      refine f_op rfl rfl (s_mv (v := .int .i64 v16) rfl) ?_
      refine o_ck fun g2 => ?_
      refine o_bind ?_; intro x3 hx3
      refine o_bind ?_; intro x4 hx4
      refine o_ck fun g5 => ?_
      refine o_bind ?_; intro x6 hx6
      refine o_bind ?_; intro x7 hx7
      refine o_bind ?_; intro x8 hx8
      refine o_bind ?_; intro x9 hx9
      refine o_bind ?_; intro x10 hx10
      refine o_bind ?_; intro x11 hx11
      refine o_bind ?_; intro x12 hx12
      refine o_bind ?_; intro x13 hx13
      refine f_op rfl rfl (s_index Try.underlying55 Try.underlying41 ty41 rfl rfl g2 hx3) ?_
      refine o_know 48 rfl (aggOf4 hx4 g5 (gete hx6 (asI_eq hx7)) (gete hx8 (asI_eq hx9)) (gete hx10 (asI_eq hx11)) (gete hx12 (asI_eq hx13))) ?_
      refine f_op rfl rfl (s_alloc (zs := [.int .i64 0, .int .i64 0, .int .i64 0, .int .i64 0]) ty41 rfl rfl) ?_
      refine f_op rfl rfl (s_as (v := .int .i64 v16) rfl) ?_
      refine o_bind ?_; intro H14 hH14
      refine f_op rfl rfl (s_stores ty41 rfl rfl rfl rfl hH14 (Nat.le_of_eq (sts_mono hH14).symm)) ?_
      refine f_nil ?_
      refine f_seq ?_
      refine f_seq ?_
      refine f_region ?_
      refine f_op rfl rfl (s_fieldAddr Try.underlying41 rfl ty23 rfl) ?_
      refine f_op rfl rfl (s_fieldAddr Try.underlying23 rfl ty3 rfl) ?_
      refine o_bind ?_; intro x15 hx15
      refine f_op rfl rfl (s_load Try.underlying3 rfl rfl (ldI_eq hx15)) ?_
      refine f_op rfl rfl (s_idxA Try.underlying49 ty3 rfl rfl (by decide)) ?_
      refine o_bind ?_; intro x16 hx16
      refine f_op rfl rfl (s_load Try.underlying3 rfl rfl (ldI_eq hx16)) ?_
      refine f_op rfl rfl (s_fieldAddr Try.underlying41 rfl ty23 rfl) ?_
      refine f_op rfl rfl (s_fieldAddr Try.underlying23 rfl ty3 rfl) ?_
      refine o_bind ?_; intro x17 hx17
      refine f_op rfl rfl (s_load Try.underlying3 rfl rfl (ldI_eq hx17)) ?_
      refine f_op rfl rfl (s_mul rfl rfl) ?_
      refine f_op rfl rfl (s_leq rfl rfl) ?_
      refine f_op rfl rfl (s_mv (v := .bool (decide (x15 ≤ (w64 (x16 * x17))))) rfl) ?_
      refine o_if (fun h18 => ?_) (fun h18 => ?_)
      · skip
        refine o_know 59 rfl (dec_true h18) ?_
        refine f_no rfl rfl ?_
        refine f_no rfl rfl ?_
        refine f_no rfl rfl ?_
        refine f_no rfl rfl ?_
        refine f_no rfl rfl ?_
        refine f_no rfl rfl ?_
        refine f_no rfl rfl ?_
        refine f_no rfl rfl ?_
        refine f_no rfl rfl ?_
        refine f_no rfl rfl ?_
        refine f_op rfl rfl (s_pickT (v := .bool true) rfl rfl) ?_
        refine f_nil ?_
        refine f_keep [0, 2, 4, 10, 11, 44, 45, 70] ?_
        exact s11_j2 happ _ (fun v1_ v2_ v3_ v4_ v5_ v6_ v7_ v8_ v9_ v10_ v11_ v12_ v13_ v14_ v15_ v16_ H_ => ih v1_ v2_ v3_ v4_ v5_ v6_ v7_ v8_ v9_ v10_ v11_ v12_ v13_ v14_ v15_ v16_ H_) v1 v2 v3 v16 H.n v4 v5 v6 v7 v8 v9 v10 v11 v12 v13 v14 v15 v16 true H14
      · skip
        refine o_know 59 rfl (dec_false h18) ?_
        refine f_op rfl rfl (s_fieldAddr Try.underlying41 rfl ty23 rfl) ?_
        refine f_op rfl rfl (s_fieldAddr Try.underlying23 rfl ty3 rfl) ?_
        refine o_bind ?_; intro x19 hx19
        refine f_op rfl rfl (s_load Try.underlying3 rfl rfl (ldI_eq hx19)) ?_
        refine f_op rfl rfl (s_idxA Try.underlying49 ty3 rfl rfl (by decide)) ?_
        refine o_bind ?_; intro x20 hx20
        refine f_op rfl rfl (s_load Try.underlying3 rfl rfl (ldI_eq hx20)) ?_
        refine f_op rfl rfl (s_fieldAddr Try.underlying41 rfl ty23 rfl) ?_
        refine f_op rfl rfl (s_fieldAddr Try.underlying23 rfl ty3 rfl) ?_
        refine o_bind ?_; intro x21 hx21
        refine f_op rfl rfl (s_load Try.underlying3 rfl rfl (ldI_eq hx21)) ?_
        refine f_op rfl rfl (s_mul rfl rfl) ?_
        refine f_op rfl rfl (s_leq rfl rfl) ?_
        refine f_op rfl rfl (s_pickF (v := .bool (decide (x19 ≤ (w64 (x20 * x21))))) rfl rfl) ?_
        refine f_nil ?_
        refine f_keep [0, 2, 4, 10, 11, 44, 45, 70] ?_
        exact s11_j2 happ _ (fun v1_ v2_ v3_ v4_ v5_ v6_ v7_ v8_ v9_ v10_ v11_ v12_ v13_ v14_ v15_ v16_ H_ => ih v1_ v2_ v3_ v4_ v5_ v6_ v7_ v8_ v9_ v10_ v11_ v12_ v13_ v14_ v15_ v16_ H_) v1 v2 v3 v16 H.n v4 v5 v6 v7 v8 v9 v10 v11 v12 v13 v14 v15 v16 (decide (x19 ≤ (w64 (x20 * x21)))) H14
    · skip
      refine f_know 46 rfl (dec_false h1) ?_
      refine f_condF rfl ?_
      refine f_exit rfl ?_
      refine f_seq ?_
      refine f_region ?_
      refine o_bind ?_; intro p22 hp22
      refine o_bind ?_; intro x23 hx23
      refine f_op rfl rfl (s_callA happ rfl hp22) ?_
      refine o_know 182 rfl (asB_eq hx23) ?_
      refine f_op rfl rfl (s_as (v := .bool x23) rfl) ?_
      refine f_nil ?_
      exact f_ret (.tmp rfl (.nil)) rfl

theorem s11_j1 {app : App} (happ : AppSim Try.prog app) (v1 : Sl) (v2 : Int) (v3 : Nat) (v4 : Nat) (v5 : Bool) (v6 : Bool) (H : Hp) : Fin Try.prog Try.f11 ret11 183 (todoAt (bodyOf Try.f11) [1, 1, 0, 1] []) [(0, .sl v1), (2, .int .i64 v2), (4, .ptr v3 0), (7, .ptr v4 0), (9, .bool v5), (34, .bool v6)] H (r11_j1 app v1 v2 v3 v4 v5 v6 H) := by
  unfold r11_j1
  refine f_if (fun h1 => ?_) (fun h1 => ?_)
  · skip
    refine f_know 34 rfl (bool_T h1) ?_
    refine f_condT rfl ?_
    refine f_seq ?_
    refine f_region ?_
    refine f_op rfl rfl (s_mv (v := .bool v5) rfl) ?_
    refine f_op rfl rfl (s_mv (v := .bool v5) rfl) ?_
    refine o_if (fun h2 => ?_) (fun h2 => ?_)
    · skip
      refine o_know 36 rfl (bool_T h2) ?_
      refine o_bind ?_; intro p3 hp3
      refine o_bind ?_; intro x4 hx4
      refine f_op rfl rfl (s_callA happ rfl hp3) ?_
      refine o_know 37 rfl (asB_eq hx4) ?_
      refine f_op rfl rfl (s_pickT (v := .bool x4) rfl rfl) ?_
      refine f_op rfl rfl (s_as (v := .bool x4) rfl) ?_
      refine f_nil ?_
      exact f_ret (.tmp rfl (.nil)) rfl
    · skip
      refine o_know 36 rfl (bool_F h2) ?_
      refine f_no rfl rfl ?_
      refine f_op rfl rfl (s_pickF (v := .bool false) rfl rfl) ?_
      refine f_op rfl rfl (s_as (v := .bool false) rfl) ?_
      refine f_nil ?_
      exact f_ret (.tmp rfl (.nil)) rfl
  · skip
    refine f_know 34 rfl (bool_F h1) ?_
    refine f_condF rfl ?_
    refine f_skip ?_
    refine f_seq ?_
    refine f_region ?_
    refine f_op rfl rfl (s_mv (v := .int .i64 v2) rfl) ?_
    refine f_op rfl rfl (s_convInt Try.underlying3 Try.underlying63 rfl) ?_
    refine f_op rfl rfl (s_rem rfl rfl (by decide)) ?_
    refine f_op rfl rfl (s_convInt Try.underlying63 Try.underlying3 rfl) ?_
    refine f_op rfl rfl (s_add rfl rfl) ?_
    refine f_op rfl rfl (s_as (v := .int .i64 (w64 (1 + (w64 (Int.tmod (IntKind.wrap .u64 (v2)) 1000))))) rfl) ?_
    refine f_nil ?_
    refine f_seq ?_
    refine f_seq ?_
    refine f_region ?_
    refine o_bind ?_; intro x5 hx5
    refine o_bind ?_; intro x6 hx6
    refine o_bind ?_; intro x7 hx7
    refine o_bind ?_; intro x8 hx8
    refine o_bind ?_; intro x9 hx9
    refine o_bind ?_; intro x10 hx10
    refine o_bind ?_; intro x11 hx11
    refine o_bind ?_; intro x12 hx12
    refine o_bind ?_; intro x13 hx13
    refine o_bind ?_; intro x14 hx14
    refine o_bind ?_; intro x15 hx15
    refine o_bind ?_; intro x16 hx16
    refine f_op rfl rfl (s_loads Try.underlying55 rfl ty55 rfl (lds_cons (ldI_eq hx5) (lds_cons (ldI_eq hx6) (lds_cons (ldI_eq hx7) (lds_cons (ldI_eq hx8) (lds_cons (ldI_eq hx9) (lds_cons (ldI_eq hx10) (lds_cons (ldI_eq hx11) (lds_cons (ldI_eq hx12) (lds_cons (ldI_eq hx13) (lds_cons (ldI_eq hx14) (lds_cons (ldI_eq hx15) (lds_cons (ldI_eq hx16) (lds_nil)))))))))))))) ?_
    refine f_op rfl rfl (s_mv (v := .int .i64 0) rfl) ?_
    refine f_nil ?_
    refine f_block ?_
    refine f_loop ?_
    refine f_keep [0, 2, 4, 44, 45] ?_
    exact s11_l0 happ FUEL v1 (w64 (1 + (w64 (Int.tmod (IntKind.wrap .u64 (v2)) 1000)))) v3 x5 x6 x7 x8 x9 x10 x11 x12 x13 x14 x15 x16 0 H

theorem sim11 {app : App} (happ : AppSim Try.prog app) {a0 : Sl} {a1_0 : Int} {a1_1 : Int} {a2 : Int} {H : Hp} {p : Bool × Hp} (h : r11 app a0 a1_0 a1_1 a2 H = some p) : CallSim Try.prog 11 [.sl a0, .agg [.int .i64 a1_0, .int .i64 a1_1], .int .i64 a2] H (.bool p.1) p.2 := by
  refine callSim (fn := Try.f11) (ret := ret11) Try.func11 rfl Try.ntmps11 rfl ?_ h
  unfold r11
  refine f_seq ?_
  refine f_region ?_
  refine f_op rfl rfl (s_box (v := .agg [.int .i64 a1_0, .int .i64 a1_1]) rfl rfl) ?_
  refine f_op rfl rfl (s_as (v := .bool false) rfl) ?_
  refine o_hp ?_; intro H1 hH1
  refine f_nil ?_
  refine f_seq ?_
  refine f_region ?_
  refine f_op rfl rfl (s_mv (v := .sl a0) rfl) ?_
  refine o_bind ?_; intro x2 hx2
  refine o_bind ?_; intro x3 hx3
  refine f_op rfl rfl (s_loads Try.underlying49 rfl ty49 rfl (lds_cons (ldI_eq hx2) (lds_cons (ldI_eq hx3) (lds_nil)))) ?_
  refine o_bind ?_; intro p4 hp4
  refine f_op rfl rfl (s_callF rfl ok39 (sim39 happ hp4)) ?_
  refine f_op rfl rfl (s_mv (v := .tup [.agg [.int .i64 p4.1.1, .int .i64 p4.1.2.1, .int .i64 p4.1.2.2.1, .int .i64 p4.1.2.2.2.1, .int .i64 p4.1.2.2.2.2.1, .int .i64 p4.1.2.2.2.2.2.1, .int .i64 p4.1.2.2.2.2.2.2.1, .int .i64 p4.1.2.2.2.2.2.2.2.1, .int .i64 p4.1.2.2.2.2.2.2.2.2.1, .int .i64 p4.1.2.2.2.2.2.2.2.2.2.1, .int .i64 p4.1.2.2.2.2.2.2.2.2.2.2.1, .int .i64 p4.1.2.2.2.2.2.2.2.2.2.2.2.1], .bool p4.1.2.2.2.2.2.2.2.2.2.2.2.2.1, .bool p4.1.2.2.2.2.2.2.2.2.2.2.2.2.2]) rfl) ?_
  refine f_op rfl rfl (s_extract (r := .agg [.int .i64 p4.1.1, .int .i64 p4.1.2.1, .int .i64 p4.1.2.2.1, .int .i64 p4.1.2.2.2.1, .int .i64 p4.1.2.2.2.2.1, .int .i64 p4.1.2.2.2.2.2.1, .int .i64 p4.1.2.2.2.2.2.2.1, .int .i64 p4.1.2.2.2.2.2.2.2.1, .int .i64 p4.1.2.2.2.2.2.2.2.2.1, .int .i64 p4.1.2.2.2.2.2.2.2.2.2.1, .int .i64 p4.1.2.2.2.2.2.2.2.2.2.2.1, .int .i64 p4.1.2.2.2.2.2.2.2.2.2.2.2.1]) rfl rfl) ?_
  refine f_op rfl rfl (s_extract (r := .bool p4.1.2.2.2.2.2.2.2.2.2.2.2.2.1) rfl rfl) ?_
  refine f_op rfl rfl (s_extract (r := .bool p4.1.2.2.2.2.2.2.2.2.2.2.2.2.2) rfl rfl) ?_
  refine f_op rfl rfl (s_alloc (zs := [.int .i64 0, .int .i64 0, .int .i64 0, .int .i64 0, .int .i64 0, .int .i64 0, .int .i64 0, .int .i64 0, .int .i64 0, .int .i64 0, .int .i64 0, .int .i64 0]) ty55 rfl rfl) ?_
  refine o_bind ?_; intro H5 hH5
  refine f_op rfl rfl (s_stores ty55 rfl rfl rfl rfl hH5 (Nat.le_of_eq (sts_mono hH5).symm)) ?_
  refine f_op rfl rfl (s_as (v := .bool p4.1.2.2.2.2.2.2.2.2.2.2.2.2.1) rfl) ?_
  refine f_op rfl rfl (s_as (v := .bool p4.1.2.2.2.2.2.2.2.2.2.2.2.2.2) rfl) ?_
  refine f_nil ?_
  refine f_seq ?_
  refine f_seq ?_
  refine f_region ?_
  refine f_op rfl rfl (s_mv (v := .bool p4.1.2.2.2.2.2.2.2.2.2.2.2.2.2) rfl) ?_
  refine f_op rfl rfl (s_not rfl) ?_
  refine f_op rfl rfl (s_mv (v := .bool (!p4.1.2.2.2.2.2.2.2.2.2.2.2.2.2)) rfl) ?_
  refine o_if (fun h6 => ?_) (fun h6 => ?_)
  · skip
    refine o_know 31 rfl (bool_notT h6) ?_
    refine f_op rfl rfl (s_mv (v := .bool p4.1.2.2.2.2.2.2.2.2.2.2.2.2.1) rfl) ?_
    refine f_op rfl rfl (s_not rfl) ?_
    refine f_op rfl rfl (s_pickF (v := .bool (!p4.1.2.2.2.2.2.2.2.2.2.2.2.2.1)) rfl rfl) ?_
    refine f_nil ?_
    refine f_know 9 rfl (bool_T h6) ?_
    refine f_keep [0, 2, 4, 7, 9, 34] ?_
    exact s11_j1 happ a0 a2 H.n p4.2.n true (!p4.1.2.2.2.2.2.2.2.2.2.2.2.2.1) H5
  · skip
    refine o_know 31 rfl (bool_notF h6) ?_
    refine f_no rfl rfl ?_
    refine f_no rfl rfl ?_
    refine f_op rfl rfl (s_pickT (v := .bool true) rfl rfl) ?_
    refine f_nil ?_
    refine f_know 9 rfl (bool_F h6) ?_
    refine f_keep [0, 2, 4, 7, 9, 34] ?_
    exact s11_j1 happ a0 a2 H.n p4.2.n false true H5

/- 67 congou/deals.gain -/
theorem ok67 : FnOk Try.prog 67 := ⟨⟨Try.f67, Try.func67, by kernel_rfl, rfl⟩⟩
theorem s67_j0 (v1 : Nat) (v2 : Nat) (v3 : Nat) (v4 : Bool) (H : Hp) : Fin Try.prog Try.f67 ret67 55 (todoAt (bodyOf Try.f67) [1, 1, 0, 1] []) [(4, .ptr v1 0), (5, .ptr v2 0), (6, .ptr v3 0), (42, .bool v4)] H (r67_j0 v1 v2 v3 v4 H) := by
  unfold r67_j0
  refine f_if (fun h1 => ?_) (fun h1 => ?_)
  · skip
    refine f_know 42 rfl (bool_T h1) ?_
    refine f_condT rfl ?_
    refine f_seq ?_
    refine f_region ?_
    refine o_bind ?_; intro p2 hp2
    refine f_op rfl rfl (s_callO rfl ok48 (sim48 hp2) rfl rfl) ?_
    refine o_bind ?_; intro H3 hH3
    refine f_op rfl rfl (s_stores ty23 rfl rfl rfl rfl hH3 (Nat.le_of_eq (sts_mono hH3).symm)) ?_
    refine f_nil ?_
    refine f_bind ?_; intro x4 hx4
    refine f_bind ?_; intro x5 hx5
    exact f_ret (.cells Try.underlying23 rfl sz23 rfl (lds_cons (ldI_eq hx4) (lds_cons (ldI_eq hx5) (lds_nil))) (.nil)) rfl
  · skip
    refine f_know 42 rfl (bool_F h1) ?_
    refine f_condF rfl ?_
    refine f_skip ?_
    refine f_seq ?_
    refine f_region ?_
    refine f_op rfl rfl (s_fieldAddr Try.underlying23 rfl ty3 rfl) ?_
    refine o_bind ?_; intro x6 hx6
    refine f_op rfl rfl (s_load Try.underlying3 rfl rfl (ldI_eq hx6)) ?_
    refine f_op rfl rfl (s_fieldAddr Try.underlying23 rfl ty3 rfl) ?_
    refine o_bind ?_; intro x7 hx7
    refine f_op rfl rfl (s_load Try.underlying3 rfl rfl (ldI_eq hx7)) ?_
    refine f_op rfl rfl (s_mul rfl rfl) ?_
    refine f_op rfl rfl (s_fieldAddr Try.underlying23 rfl ty3 rfl) ?_
    refine o_bind ?_; intro x8 hx8
    refine f_op rfl rfl (s_load Try.underlying3 rfl rfl (ldI_eq hx8)) ?_
    refine f_op rfl rfl (s_fieldAddr Try.underlying23 rfl ty3 rfl) ?_
    refine o_bind ?_; intro x9 hx9
    refine f_op rfl rfl (s_load Try.underlying3 rfl rfl (ldI_eq hx9)) ?_
    refine f_op rfl rfl (s_mul rfl rfl) ?_
    refine o_bind ?_; intro p10 hp10
    refine f_op rfl rfl (s_callO rfl ok48 (sim48 hp10) rfl rfl) ?_
    refine o_bind ?_; intro H11 hH11
    refine f_op rfl rfl (s_stores ty23 rfl rfl rfl rfl hH11 (Nat.le_of_eq (sts_mono hH11).symm)) ?_
    refine f_nil ?_
    refine f_bind ?_; intro x12 hx12
    refine f_bind ?_; intro x13 hx13
    exact f_ret (.cells Try.underlying23 rfl sz23 rfl (lds_cons (ldI_eq hx12) (lds_cons (ldI_eq hx13) (lds_nil))) (.nil)) rfl

theorem sim67 {a0_0 : Int} {a0_1 : Int} {a0_2 : Int} {a0_3 : Int} {a1_0 : Int} {a1_1 : Int} {H : Hp} {p : (Int × Int) × Hp} (h : r67 a0_0 a0_1 a0_2 a0_3 a1_0 a1_1 H = some p) : CallSim Try.prog 67 [.agg [.int .i64 a0_0, .int .i64 a0_1, .int .i64 a0_2, .int .i64 a0_3], .agg [.int .i64 a1_0, .int .i64 a1_1]] H (.agg [.int .i64 p.1.1, .int .i64 p.1.2]) p.2 := by
  refine callSim (fn := Try.f67) (ret := ret67) Try.func67 rfl Try.ntmps67 rfl ?_ h
  unfold r67
  refine f_seq ?_
  refine f_region ?_
  refine f_op rfl rfl (s_box (v := .agg [.int .i64 a0_0, .int .i64 a0_1, .int .i64 a0_2, .int .i64 a0_3]) rfl rfl) ?_
  refine f_op rfl rfl (s_box (v := .agg [.int .i64 a1_0, .int .i64 a1_1]) rfl rfl) ?_
  refine f_op rfl rfl (s_alloc (zs := [.int .i64 0, .int .i64 0]) ty23 rfl rfl) ?_
  refine o_hp ?_; intro H1 hH1
  refine f_nil ?_
  refine f_seq ?_
  refine f_bind ?_; intro x2 hx2
  refine f_bind ?_; intro x3 hx3
  refine f_bind ?_; intro x4 hx4
  refine f_bind ?_; intro x5 hx5
  refine f_bind ?_; intro p6 hp6
  refine f_bind ?_; intro x7 hx7
  refine f_bind ?_; intro x8 hx8
  refine f_bind ?_; intro x9 hx9
  refine f_bind ?_; intro x10 hx10
  refine f_bind ?_; intro p11 hp11
  refine f_bind ?_; intro H12 hH12
  refine f_bind ?_; intro H13 hH13
  refine f_drawF (Φ := fun _ => True) (lim := 1000000) [0, 0, 1, 0, 1, 0, 0, 1, 0, 0, 0, 0, 1, 0, 0, 0, 1, 0, 1, 0, 0, 1, 0, 0, 0, 0, 1, 0, 2, 2, 2, 2] [false, false, false, false, false, false, false, false, false, false, false, false, false, false, false, false, false, false, false, false, false, false, false, false, false, false, false, false, true, true, false, false] 28 30 (Trc.pure rfl rfl rfl (.inl fun _ => s_fieldAddr Try.underlying41 rfl ty23 rfl) (Trc.pure rfl rfl rfl (.inl fun _ => s_fieldAddr Try.underlying23 rfl ty3 rfl) (Trc.read rfl rfl rfl (s_load Try.underlying3 rfl rfl (ldI_eq hx2)) (Trc.pure rfl rfl rfl (.inl fun _ => s_idxA Try.underlying49 ty3 rfl rfl (by decide)) (Trc.read rfl rfl rfl (s_load Try.underlying3 rfl rfl (ldI_eq hx3)) (Trc.pure rfl rfl rfl (.inl fun _ => s_fieldAddr Try.underlying41 rfl ty23 rfl) (Trc.pure rfl rfl rfl (.inl fun _ => s_fieldAddr Try.underlying23 rfl ty3 rfl) (Trc.read rfl rfl rfl (s_load Try.underlying3 rfl rfl (ldI_eq hx4)) (Trc.pure rfl rfl rfl (.inl fun _ => s_mul rfl rfl) (Trc.pure rfl rfl rfl (.inl fun _ => s_sub rfl rfl) (Trc.pure rfl rfl rfl (.inl fun _ => s_fieldAddr Try.underlying41 rfl ty23 rfl) (Trc.pure rfl rfl rfl (.inl fun _ => s_fieldAddr Try.underlying23 rfl ty3 rfl) (Trc.read rfl rfl rfl (s_load Try.underlying3 rfl rfl (ldI_eq hx5)) (Trc.pure rfl rfl rfl (.inl fun _ => s_callO rfl ok48 (sim48 hp6) rfl rfl) (Trc.pure rfl rfl rfl (.inl fun _ => s_fieldAddr Try.underlying41 rfl ty23 rfl) (Trc.pure rfl rfl rfl (.inl fun _ => s_fieldAddr Try.underlying23 rfl ty3 rfl) (Trc.read rfl rfl rfl (s_load Try.underlying3 rfl rfl (ldI_eq hx7)) (Trc.pure rfl rfl rfl (.inl fun _ => s_idxA Try.underlying49 ty3 rfl rfl (by decide)) (Trc.read rfl rfl rfl (s_load Try.underlying3 rfl rfl (ldI_eq hx8)) (Trc.pure rfl rfl rfl (.inl fun _ => s_fieldAddr Try.underlying41 rfl ty23 rfl) (Trc.pure rfl rfl rfl (.inl fun _ => s_fieldAddr Try.underlying23 rfl ty3 rfl) (Trc.read rfl rfl rfl (s_load Try.underlying3 rfl rfl (ldI_eq hx9)) (Trc.pure rfl rfl rfl (.inl fun _ => s_mul rfl rfl) (Trc.pure rfl rfl rfl (.inl fun _ => s_sub rfl rfl) (Trc.pure rfl rfl rfl (.inl fun _ => s_fieldAddr Try.underlying41 rfl ty23 rfl) (Trc.pure rfl rfl rfl (.inl fun _ => s_fieldAddr Try.underlying23 rfl ty3 rfl) (Trc.read rfl rfl rfl (s_load Try.underlying3 rfl rfl (ldI_eq hx10)) (Trc.pure rfl rfl rfl (.inl fun _ => s_callO rfl ok48 (sim48 hp11) rfl rfl) (Trc.fl .p rfl rfl rfl (fun _ => trivial) rfl (by rfl) (fun _ => s_alloc (zs := [.int .i64 0, .int .i64 0]) ty23 rfl rfl) (Trc.fl .p rfl rfl rfl (fun _ => trivial) rfl (by rfl) (fun _ => s_alloc (zs := [.int .i64 0, .int .i64 0]) ty23 rfl rfl) (Trc.eff rfl rfl rfl (fun _ => trivial) (s_stores ty23 rfl rfl rfl rfl hH12 (Nat.le_of_eq (sts_mono hH12).symm)) (Trc.eff rfl rfl rfl (fun _ => trivial) (s_stores ty23 rfl rfl rfl rfl hH13 (Nat.le_of_eq (sts_mono hH13).symm)) (Trc.nil (fun _ => trivial)))))))))))))))))))))))))))))))))) rfl rfl (by decide +kernel) mixed ?_
  refine f_seq ?_
  refine f_seq ?_
  refine f_region ?_
  refine f_op rfl rfl (s_fieldAddr Try.underlying23 rfl ty3 rfl) ?_
  refine o_bind ?_; intro x14 hx14
  refine f_op rfl rfl (s_load Try.underlying3 rfl rfl (ldI_eq hx14)) ?_
  refine f_op rfl rfl (s_lss rfl rfl) ?_
  refine f_op rfl rfl (s_mv (v := .bool (decide (x14 < 0))) rfl) ?_
  refine o_if (fun h15 => ?_) (fun h15 => ?_)
  · skip
    refine o_know 38 rfl (dec_true h15) ?_
    refine f_no rfl rfl ?_
    refine f_no rfl rfl ?_
    refine f_no rfl rfl ?_
    refine f_op rfl rfl (s_pickT (v := .bool true) rfl rfl) ?_
    refine f_nil ?_
    refine f_keep [4, 5, 6, 42] ?_
    exact s67_j0 (((H.push (.cells [.int .i64 a0_0, .int .i64 a0_1, .int .i64 a0_2, .int .i64 a0_3] false)).push (.cells [.int .i64 a1_0, .int .i64 a1_1] false)).n) H1.n ((H1.push (.cells [.int .i64 0, .int .i64 0] false)).n) true H13
  · skip
    refine o_know 38 rfl (dec_false h15) ?_
    refine f_op rfl rfl (s_fieldAddr Try.underlying23 rfl ty3 rfl) ?_
    refine o_bind ?_; intro x16 hx16
    refine f_op rfl rfl (s_load Try.underlying3 rfl rfl (ldI_eq hx16)) ?_
    refine f_op rfl rfl (s_lss rfl rfl) ?_
    refine f_op rfl rfl (s_pickF (v := .bool (decide (x16 < 0))) rfl rfl) ?_
    refine f_nil ?_
    refine f_keep [4, 5, 6, 42] ?_
    exact s67_j0 (((H.push (.cells [.int .i64 a0_0, .int .i64 a0_1, .int .i64 a0_2, .int .i64 a0_3] false)).push (.cells [.int .i64 a1_0, .int .i64 a1_1] false)).n) H1.n ((H1.push (.cells [.int .i64 0, .int .i64 0] false)).n) (decide (x16 < 0)) H13

/- 66 congou/deals.Product$1 -/
theorem ok66 : FnOk Try.prog 66 := ⟨⟨Try.f66, Try.func66, by kernel_rfl, rfl⟩⟩
theorem sim66 {a0_0 : Int} {a0_1 : Int} {a0_2 : Int} {a0_3 : Int} {c0 : Nat} {c1 : Nat} {c2 : Nat} {H : Hp} {p : Unit × Hp} (h : r66 a0_0 a0_1 a0_2 a0_3 c0 c1 c2 H = some p) : CallSim Try.prog 66 [.agg [.int .i64 a0_0, .int .i64 a0_1, .int .i64 a0_2, .int .i64 a0_3], .ptr c0 0, .ptr c1 0, .ptr c2 0] H (.tup []) p.2 := by
  refine callSim (fn := Try.f66) (ret := ret66) Try.func66 rfl Try.ntmps66 rfl ?_ h
  unfold r66
  refine f_seq ?_
  refine f_region ?_
  refine f_op rfl rfl (s_box (v := .agg [.int .i64 a0_0, .int .i64 a0_1, .int .i64 a0_2, .int .i64 a0_3]) rfl rfl) ?_
  refine o_hp ?_; intro H1 hH1
  refine f_nil ?_
  refine f_seq ?_
  refine f_region ?_
  refine o_bind ?_; intro x2 hx2
  refine o_bind ?_; intro x3 hx3
  refine o_bind ?_; intro x4 hx4
  refine o_bind ?_; intro x5 hx5
  refine f_op rfl rfl (s_loads Try.underlying41 rfl ty41 rfl (lds_cons (ldI_eq hx2) (lds_cons (ldI_eq hx3) (lds_cons (ldI_eq hx4) (lds_cons (ldI_eq hx5) (lds_nil)))))) ?_
  refine o_bind ?_; intro x6 hx6
  refine o_bind ?_; intro x7 hx7
  refine f_op rfl rfl (s_loads Try.underlying49 rfl ty49 rfl (lds_cons (ldI_eq hx6) (lds_cons (ldI_eq hx7) (lds_nil)))) ?_
  refine o_bind ?_; intro p8 hp8
  refine f_op rfl rfl (s_callO rfl ok67 (sim67 hp8) rfl rfl) ?_
  refine f_op rfl rfl (s_alloc (zs := [.int .i64 0, .int .i64 0]) ty23 rfl rfl) ?_
  refine o_bind ?_; intro H9 hH9
  refine f_op rfl rfl (s_stores ty23 rfl rfl rfl rfl hH9 (Nat.le_of_eq (sts_mono hH9).symm)) ?_
  refine f_nil ?_
  refine f_seq ?_
  refine f_region ?_
  refine o_bind ?_; intro x10 hx10
  refine o_bind ?_; intro x11 hx11
  refine f_op rfl rfl (s_loads Try.underlying23 rfl ty23 rfl (lds_cons (ldI_eq hx10) (lds_cons (ldI_eq hx11) (lds_nil)))) ?_
  refine o_bind ?_; intro x12 hx12
  refine o_bind ?_; intro x13 hx13
  refine f_op rfl rfl (s_loads Try.underlying23 rfl ty23 rfl (lds_cons (ldI_eq hx12) (lds_cons (ldI_eq hx13) (lds_nil)))) ?_
  refine o_bind ?_; intro p14 hp14
  refine f_op rfl rfl (s_callO rfl ok68 (sim68 hp14) rfl rfl) ?_
  refine f_op rfl rfl (s_gtr rfl rfl) ?_
  refine f_nil ?_
  refine f_if (fun h15 => ?_) (fun h15 => ?_)
  · skip
    refine f_know 12 rfl (dec_true h15) ?_
    refine f_condT rfl ?_
    refine f_bind ?_; intro x16 hx16
    refine f_bind ?_; intro x17 hx17
    refine f_bind ?_; intro x18 hx18
    refine f_bind ?_; intro x19 hx19
    refine f_bind ?_; intro x20 hx20
    refine f_bind ?_; intro x21 hx21
    refine f_bind ?_; intro H22 hH22
    refine f_bind ?_; intro H23 hH23
    refine f_ck fun g24 => ?_
    refine f_ck fun g25 => ?_
    refine f_draw (Φ := fun H_ => H_.ld H1.n 0 = some (.int .i64 x20) ∧ H_.ld H1.n (0 + 1) = some (.int .i64 x21)) (lim := 3) [1, 0, 2, 2] (Trc.read rfl rfl rfl (s_loads Try.underlying41 rfl ty41 rfl (lds_cons (ldI_eq hx16) (lds_cons (ldI_eq hx17) (lds_cons (ldI_eq hx18) (lds_cons (ldI_eq hx19) (lds_nil)))))) (Trc.pure rfl rfl rfl (.inr ⟨by decide +kernel, fun _ hp_ => s_loads Try.underlying23 rfl ty23 rfl (lds_cons hp_.1 (lds_cons hp_.2 (lds_nil)))⟩) (Trc.eff rfl rfl rfl (fun _ => ⟨ldI_eq hx20, ldI_eq hx21⟩) (s_stores ty41 rfl rfl rfl rfl hH22 (Nat.le_of_eq (sts_mono hH22).symm)) (Trc.eff rfl rfl rfl (fun _ => ⟨ldI_eq g24, ldI_eq g25⟩) (s_stores ty23 rfl rfl rfl rfl hH23 (Nat.le_of_eq (sts_mono hH23).symm)) (Trc.nil (fun h_ => absurd h_ (by decide +kernel))))))) rfl (by decide +kernel) mixed ?_
    exact f_end (.nil) rfl
  · skip
    refine f_know 12 rfl (dec_false h15) ?_
    refine f_condF rfl ?_
    refine f_skip ?_
    exact f_end (.nil) rfl

end Go.Lt.P5
