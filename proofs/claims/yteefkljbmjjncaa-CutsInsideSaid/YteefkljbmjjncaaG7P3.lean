/- PRINTED BY A PROGRAM OF OURS: what each function that 'CutsInside' reaches computes on the abstract heap, and that the translated code does just that. Nothing is asked of the input. -/
import Derived.Test.YteefkljbmjjncaaG7P2
set_option linter.unusedVariables false
set_option linter.unusedSimpArgs false
set_option maxRecDepth 100000
set_option maxHeartbeats 4000000
namespace Go.Lt.P2
open Go Go.Lt Go.Proofs
/- 77 (congou/cuts.plate).cut -/
theorem ok77 : FnOk Try.prog 77 := ⟨⟨Try.f77, Try.func77, by kernel_rfl, rfl⟩⟩
theorem s77_l1 (kt0 : Sl → Nat → Nat → Sl → Int → Int → Hp → Option ((Int × Int × Int × Bool) × Hp)) (hkt0 : ∀ (v1 : Sl) (v2 : Nat) (v3 : Nat) (v4 : Sl) (v5 : Int) (v6 : Int) (H : Hp), Fin Try.prog Try.f77 ret77 80 (todoAt (bodyOf Try.f77) [1, 1, 0, 1, 0, 0] []) [(1, .sl v1), (4, .ptr v2 0), (6, .ptr v3 0), (15, .sl v4), (16, .int .i64 v5), (17, .int .i64 v6)] H (kt0 v1 v2 v3 v4 v5 v6 H)) : ∀ (k_ : Nat) (v1 : Sl) (v2 : Nat) (v3 : Nat) (v4 : Int) (v5 : Sl) (v6 : Int) (v7 : Int) (v8 : Int) (v9 : Int) (v10 : Int) (v11 : Int) (H : Hp), Fin Try.prog Try.f77 ret77 80 (todoAt (bodyOf Try.f77) [1, 1, 0, 1, 0, 0, 1, 1, 0, 0, 1, 1, 0, 0] []) [(1, .sl v1), (4, .ptr v2 0), (6, .ptr v3 0), (7, .int .i64 v4), (15, .sl v5), (16, .int .i64 v6), (17, .int .i64 v7), (28, .agg [.int .i64 v8, .int .i64 v9, .int .i64 v10]), (29, .int .i64 v11)] H (r77_l1 kt0 k_ v1 v2 v3 v4 v5 v6 v7 v8 v9 v10 v11 H) := by
  intro k_
  induction k_ with
  | zero => intro _ _ _ _ _ _ _ _ _ _ _ _; exact f_none
  | succ k_ ih =>
    intro v1 v2 v3 v4 v5 v6 v7 v8 v9 v10 v11 H
    rw [r77_l1]
    refine f_seq ?_
    refine f_region ?_
    refine f_op rfl rfl (s_lss rfl rfl) ?_
    refine f_nil ?_
    refine f_seq ?_
    refine f_if (fun h1 => ?_) (fun h1 => ?_)
    · skip
      refine f_know 30 rfl (dec_true h1) ?_
      refine f_condT rfl ?_
      refine f_skip ?_
      refine f_seq ?_
      refine f_block ?_
      refine f_seq ?_
      refine f_region ?_
      refine f_op rfl rfl (s_mv (v := .int .i64 v11) rfl) ?_
      refine o_ck fun g2 => ?_
      refine o_bind ?_; intro x3 hx3
      refine o_bind ?_; intro x4 hx4
      refine f_op rfl rfl (s_index Try.underlying140 Try.underlying3 ty3 rfl rfl g2 hx3) ?_
      refine o_know 32 rfl (asI_eq hx4) ?_
      refine f_op rfl rfl (s_as (v := .int .i64 v11) rfl) ?_
      refine f_op rfl rfl (s_as (v := .int .i64 x4) rfl) ?_
      refine f_nil ?_
      refine f_ck fun g5 => ?_
      refine f_bind ?_; intro x6 hx6
      refine f_bind ?_; intro x7 hx7
      refine f_ck fun g8 => ?_
      refine f_bind ?_; intro x9 hx9
      refine f_bind ?_; intro x10 hx10
      refine f_bind ?_; intro p11 hp11
      refine f_bind ?_; intro p12 hp12
      refine f_ck fun g13 => ?_
      refine f_bind ?_; intro H14 hH14
      refine f_draw (Φ := fun _ => True) (lim := 1000000) [0, 0, 0, 1, 0, 0, 0, 0, 1, 0, 0, 0, 2] (Trc.pure rfl rfl rfl (.inl fun _ => s_mv (v := .int .i64 v11) rfl) (Trc.pure rfl rfl rfl (.inl fun _ => s_mv (v := .int .i64 v11) rfl) (Trc.pure rfl rfl rfl (.inl fun _ => s_idxA Try.underlying139 ty24 rfl rfl g5) (Trc.read rfl rfl rfl (s_loads Try.underlying24 rfl ty24 rfl (lds_cons (ldI_eq hx6) (lds_cons (ldI_eq hx7) (lds_nil)))) (Trc.pure rfl rfl rfl (.inl fun _ => s_mv (v := .int .i64 x4) rfl) (Trc.pure rfl rfl rfl (.inl fun _ => s_mv (v := .sl v1) rfl) (Trc.pure rfl rfl rfl (.inl fun _ => s_mv (v := .int .i64 v4) rfl) (Trc.pure rfl rfl rfl (.inl fun _ => s_idx Try.underlying44 ty24 rfl rfl g8) (Trc.read rfl rfl rfl (s_loads Try.underlying24 rfl ty24 rfl (lds_cons (ldI_eq hx9) (lds_cons (ldI_eq hx10) (lds_nil)))) (Trc.pure rfl rfl rfl (.inl fun _ => s_callO rfl ok99 (sim99 hp11) rfl rfl) (Trc.pure rfl rfl rfl (.inl fun _ => s_callO rfl ok98 (sim98 hp12) rfl rfl) (Trc.pure rfl rfl rfl (.inl fun _ => s_idxA Try.underlying139 ty24 rfl rfl g13) (Trc.eff rfl rfl rfl (fun _ => trivial) (s_stores ty24 rfl rfl rfl rfl hH14 (Nat.le_of_eq (sts_mono hH14).symm)) (Trc.nil (fun _ => trivial))))))))))))))) rfl (by decide +kernel) mixed ?_
      refine f_inBlock ?_
      refine f_region ?_
      refine f_op rfl rfl (s_add rfl rfl) ?_
      refine f_op rfl rfl (s_mv (v := .int .i64 (w64 (v11 + 1))) rfl) ?_
      refine f_nil ?_
      refine f_inLoop ?_
      refine f_keep [1, 4, 6, 7, 15, 16, 17, 28, 29] ?_
      exact ih v1 v2 v3 v4 v5 v6 v7 v8 v9 v10 (w64 (v11 + 1)) H14
    · skip
      refine f_know 30 rfl (dec_false h1) ?_
      refine f_condF rfl ?_
      refine f_exit rfl ?_
      refine f_inBlock ?_
      refine f_region ?_
      refine f_op rfl rfl (s_add rfl rfl) ?_
      refine f_op rfl rfl (s_mv (v := .int .i64 (w64 (v7 + 1))) rfl) ?_
      refine f_nil ?_
      refine f_inLoop ?_
      refine f_keep [1, 4, 6, 15, 16, 17] ?_
      exact hkt0 v1 v2 v3 v5 v6 (w64 (v7 + 1)) H

theorem s77_j2 (v1 : Nat) (v2 : Nat) (v3 : Bool) (H : Hp) : Fin Try.prog Try.f77 ret77 80 (todoAt (bodyOf Try.f77) [1, 1, 1, 0, 1] []) [(4, .ptr v1 0), (6, .ptr v2 0), (68, .bool v3)] H (r77_j2 v1 v2 v3 H) := by
  unfold r77_j2
  refine f_if (fun h1 => ?_) (fun h1 => ?_)
  · skip
    refine f_know 68 rfl (bool_T h1) ?_
    refine f_condT rfl ?_
    refine f_seq ?_
    refine f_region ?_
    refine f_op rfl rfl (s_build (cs := [.int .i64 0, .int .i64 0, .int .i64 0]) Try.underlying47 ty47 rfl pl47 rfl) ?_
    refine o_bind ?_; intro H2 hH2
    refine f_op rfl rfl (s_stores ty47 rfl rfl rfl rfl hH2 (Nat.le_of_eq (sts_mono hH2).symm)) ?_
    refine f_op rfl rfl (s_as (v := .bool false) rfl) ?_
    refine f_nil ?_
    refine f_bind ?_; intro x3 hx3
    refine f_bind ?_; intro x4 hx4
    refine f_bind ?_; intro x5 hx5
    exact f_ret (.cells Try.underlying47 rfl sz47 rfl (lds_cons (ldI_eq hx3) (lds_cons (ldI_eq hx4) (lds_cons (ldI_eq hx5) (lds_nil)))) (.tmp rfl (.nil))) rfl
  · skip
    refine f_know 68 rfl (bool_F h1) ?_
    refine f_condF rfl ?_
    refine f_skip ?_
    refine f_seq ?_
    refine f_bind ?_; intro x6 hx6
    refine f_bind ?_; intro x7 hx7
    refine f_bind ?_; intro x8 hx8
    refine f_bind ?_; intro x9 hx9
    refine f_bind ?_; intro p10 hp10
    refine f_bind ?_; intro H11 hH11
    refine f_draw (Φ := fun _ => True) (lim := 1000000) [0, 0, 1, 0, 0, 1, 0, 1, 0, 0, 2, 0] (Trc.pure rfl rfl rfl (.inl fun _ => s_idxA Try.underlying139 ty24 rfl rfl (by decide)) (Trc.pure rfl rfl rfl (.inl fun _ => s_fieldAddr Try.underlying24 rfl ty3 rfl) (Trc.read rfl rfl rfl (s_load Try.underlying3 rfl rfl (ldI_eq hx6)) (Trc.pure rfl rfl rfl (.inl fun _ => s_idxA Try.underlying139 ty24 rfl rfl (by decide)) (Trc.pure rfl rfl rfl (.inl fun _ => s_fieldAddr Try.underlying24 rfl ty3 rfl) (Trc.read rfl rfl rfl (s_load Try.underlying3 rfl rfl (ldI_eq hx7)) (Trc.pure rfl rfl rfl (.inl fun _ => s_idxA Try.underlying139 ty24 rfl rfl (by decide)) (Trc.read rfl rfl rfl (s_loads Try.underlying24 rfl ty24 rfl (lds_cons (ldI_eq hx8) (lds_cons (ldI_eq hx9) (lds_nil)))) (Trc.pure rfl rfl rfl (.inl fun _ => s_callO rfl ok68 (sim68 hp10) rfl rfl) (Trc.pure rfl rfl rfl (.inl fun _ => s_build (cs := [.int .i64 x6, .int .i64 x7, .int .i64 p10.1]) Try.underlying47 ty47 rfl pl47 rfl) (Trc.eff rfl rfl rfl (fun _ => trivial) (s_stores ty47 rfl rfl rfl rfl hH11 (Nat.le_of_eq (sts_mono hH11).symm)) (Trc.pure rfl rfl rfl (.inl fun _ => s_as (v := .bool true) rfl) (Trc.nil (fun _ => trivial)))))))))))))) rfl (by decide +kernel) mixed ?_
    refine f_bind ?_; intro x12 hx12
    refine f_bind ?_; intro x13 hx13
    refine f_bind ?_; intro x14 hx14
    exact f_ret (.cells Try.underlying47 rfl sz47 rfl (lds_cons (ldI_eq hx12) (lds_cons (ldI_eq hx13) (lds_cons (ldI_eq hx14) (lds_nil)))) (.tmp rfl (.nil))) rfl

theorem s77_l0 : ∀ (k_ : Nat) (v1 : Sl) (v2 : Nat) (v3 : Nat) (v4 : Sl) (v5 : Int) (v6 : Int) (H : Hp), Fin Try.prog Try.f77 ret77 80 (todoAt (bodyOf Try.f77) [1, 1, 0, 1, 0, 0] []) [(1, .sl v1), (4, .ptr v2 0), (6, .ptr v3 0), (15, .sl v4), (16, .int .i64 v5), (17, .int .i64 v6)] H (r77_l0 k_ v1 v2 v3 v4 v5 v6 H) := by
  intro k_
  induction k_ with
  | zero => intro _ _ _ _ _ _ _; exact f_none
  | succ k_ ih =>
    intro v1 v2 v3 v4 v5 v6 H
    rw [r77_l0]
    refine f_seq ?_
    refine f_region ?_
    refine f_op rfl rfl (s_lss rfl rfl) ?_
    refine f_nil ?_
    refine f_seq ?_
    refine f_if (fun h1 => ?_) (fun h1 => ?_)
    · skip
      refine f_know 18 rfl (dec_true h1) ?_
      refine f_condT rfl ?_
      refine f_skip ?_
      refine f_seq ?_
      refine f_block ?_
      refine f_seq ?_
      refine f_region ?_
      refine f_op rfl rfl (s_mv (v := .int .i64 v6) rfl) ?_
      refine o_ck fun g2 => ?_
      refine f_op rfl rfl (s_idx Try.underlying100 ty47 rfl rfl g2) ?_
      refine o_bind ?_; intro x3 hx3
      refine o_bind ?_; intro x4 hx4
      refine o_bind ?_; intro x5 hx5
      refine f_op rfl rfl (s_loads Try.underlying47 rfl ty47 rfl (lds_cons (ldI_eq hx3) (lds_cons (ldI_eq hx4) (lds_cons (ldI_eq hx5) (lds_nil))))) ?_
      refine f_op rfl rfl (s_alloc (zs := [.int .i64 0, .int .i64 0, .int .i64 0]) ty47 rfl rfl) ?_
      refine f_op rfl rfl (s_as (v := .int .i64 v6) rfl) ?_
      refine o_bind ?_; intro H6 hH6
      refine f_op rfl rfl (s_stores ty47 rfl rfl rfl rfl hH6 (Nat.le_of_eq (sts_mono hH6).symm)) ?_
      refine f_nil ?_
      refine f_seq ?_
      refine f_region ?_
      refine f_op rfl rfl (s_fieldAddr Try.underlying47 rfl ty3 rfl) ?_
      refine o_bind ?_; intro x7 hx7
      refine f_op rfl rfl (s_load Try.underlying3 rfl rfl (ldI_eq hx7)) ?_
      refine f_op rfl rfl (s_fieldAddr Try.underlying47 rfl ty3 rfl) ?_
      refine o_bind ?_; intro x8 hx8
      refine f_op rfl rfl (s_load Try.underlying3 rfl rfl (ldI_eq hx8)) ?_
      refine f_op rfl rfl (s_fieldAddr Try.underlying47 rfl ty3 rfl) ?_
      refine o_bind ?_; intro x9 hx9
      refine f_op rfl rfl (s_load Try.underlying3 rfl rfl (ldI_eq hx9)) ?_
      refine f_op rfl rfl (s_buildA (cs := [.int .i64 x7, .int .i64 x8, .int .i64 x9]) Try.underlying140 ty140 ty3 rfl rfl) ?_
      refine f_op rfl rfl (s_mv (v := .int .i64 0) rfl) ?_
      refine f_nil ?_
      refine f_block ?_
      refine f_loop ?_
      refine f_keep [1, 4, 6, 7, 15, 16, 17, 28, 29] ?_
      exact s77_l1 _ (fun v1_ v2_ v3_ v4_ v5_ v6_ H_ => ih v1_ v2_ v3_ v4_ v5_ v6_ H_) FUEL v1 v2 v3 v6 v4 v5 v6 x7 x8 x9 0 H6
    · skip
      refine f_know 18 rfl (dec_false h1) ?_
      refine f_condF rfl ?_
      refine f_exit rfl ?_
      refine f_seq ?_
      refine f_seq ?_
      refine f_region ?_
      refine f_op rfl rfl (s_idxA Try.underlying139 ty24 rfl rfl (by decide)) ?_
      refine f_op rfl rfl (s_fieldAddr Try.underlying24 rfl ty3 rfl) ?_
      refine o_bind ?_; intro x10 hx10
      refine f_op rfl rfl (s_load Try.underlying3 rfl rfl (ldI_eq hx10)) ?_
      refine f_op rfl rfl (s_neq rfl rfl) ?_
      refine f_op rfl rfl (s_mv (v := .bool (decide (x10 ≠ 1))) rfl) ?_
      refine o_if (fun h11 => ?_) (fun h11 => ?_)
      · skip
        refine o_know 51 rfl (dec_true h11) ?_
        refine f_no rfl rfl ?_
        refine f_no rfl rfl ?_
        refine f_no rfl rfl ?_
        refine f_no rfl rfl ?_
        refine f_op rfl rfl (s_pickT (v := .bool true) rfl rfl) ?_
        refine f_op rfl rfl (s_mv (v := .bool true) rfl) ?_
        refine f_no rfl rfl ?_
        refine f_no rfl rfl ?_
        refine f_no rfl rfl ?_
        refine f_no rfl rfl ?_
        refine f_no rfl rfl ?_
        refine f_no rfl rfl ?_
        refine f_no rfl rfl ?_
        refine f_no rfl rfl ?_
        refine f_no rfl rfl ?_
        refine f_no rfl rfl ?_
        refine f_op rfl rfl (s_pickT (v := .bool true) rfl rfl) ?_
        refine f_nil ?_
        refine f_keep [4, 6, 68] ?_
        exact s77_j2 v2 v3 true H
      · skip
        refine o_know 51 rfl (dec_false h11) ?_
        refine f_op rfl rfl (s_idxA Try.underlying139 ty24 rfl rfl (by decide)) ?_
        refine f_op rfl rfl (s_fieldAddr Try.underlying24 rfl ty3 rfl) ?_
        refine o_bind ?_; intro x12 hx12
        refine f_op rfl rfl (s_load Try.underlying3 rfl rfl (ldI_eq hx12)) ?_
        refine f_op rfl rfl (s_neq rfl rfl) ?_
        refine f_op rfl rfl (s_pickF (v := .bool (decide (x12 ≠ 1))) rfl rfl) ?_
        refine f_op rfl rfl (s_mv (v := .bool (decide (x12 ≠ 1))) rfl) ?_
        refine o_if (fun h13 => ?_) (fun h13 => ?_)
        · skip
          refine o_know 57 rfl (dec_true h13) ?_
          refine f_no rfl rfl ?_
          refine f_no rfl rfl ?_
          refine f_no rfl rfl ?_
          refine f_no rfl rfl ?_
          refine f_no rfl rfl ?_
          refine f_no rfl rfl ?_
          refine f_no rfl rfl ?_
          refine f_no rfl rfl ?_
          refine f_no rfl rfl ?_
          refine f_no rfl rfl ?_
          refine f_op rfl rfl (s_pickT (v := .bool true) rfl rfl) ?_
          refine f_nil ?_
          refine f_keep [4, 6, 68] ?_
          exact s77_j2 v2 v3 true H
        · skip
          refine o_know 57 rfl (dec_false h13) ?_
          refine f_op rfl rfl (s_idxA Try.underlying139 ty24 rfl rfl (by decide)) ?_
          refine f_op rfl rfl (s_fieldAddr Try.underlying24 rfl ty3 rfl) ?_
          refine o_bind ?_; intro x14 hx14
          refine f_op rfl rfl (s_load Try.underlying3 rfl rfl (ldI_eq hx14)) ?_
          refine f_op rfl rfl (s_eql rfl rfl) ?_
          refine f_op rfl rfl (s_mv (v := .bool (decide (x14 = 0))) rfl) ?_
          refine o_if (fun h15 => ?_) (fun h15 => ?_)
          · skip
            refine o_know 62 rfl (dec_true h15) ?_
            refine f_op rfl rfl (s_idxA Try.underlying139 ty24 rfl rfl (by decide)) ?_
            refine f_op rfl rfl (s_fieldAddr Try.underlying24 rfl ty3 rfl) ?_
            refine o_bind ?_; intro x16 hx16
            refine f_op rfl rfl (s_load Try.underlying3 rfl rfl (ldI_eq hx16)) ?_
            refine f_op rfl rfl (s_eql rfl rfl) ?_
            refine f_op rfl rfl (s_pickT (v := .bool (decide (x16 = 0))) rfl rfl) ?_
            refine f_op rfl rfl (s_pickF (v := .bool (decide (x16 = 0))) rfl rfl) ?_
            refine f_nil ?_
            refine f_keep [4, 6, 68] ?_
            exact s77_j2 v2 v3 (decide (x16 = 0)) H
          · skip
            refine o_know 62 rfl (dec_false h15) ?_
            refine f_no rfl rfl ?_
            refine f_no rfl rfl ?_
            refine f_no rfl rfl ?_
            refine f_no rfl rfl ?_
            refine f_op rfl rfl (s_pickF (v := .bool false) rfl rfl) ?_
            refine f_op rfl rfl (s_pickF (v := .bool false) rfl rfl) ?_
            refine f_nil ?_
            refine f_keep [4, 6, 68] ?_
            exact s77_j2 v2 v3 false H

theorem sim77 {a0 : Sl} {a1 : Sl} {H : Hp} {p : (Int × Int × Int × Bool) × Hp} (h : r77 a0 a1 H = some p) : CallSim Try.prog 77 [.sl a0, .sl a1] H (.tup [.agg [.int .i64 p.1.1, .int .i64 p.1.2.1, .int .i64 p.1.2.2.1], .bool p.1.2.2.2]) p.2 := by
  refine callSim (fn := Try.f77) (ret := ret77) Try.func77 rfl Try.ntmps77 rfl ?_ h
  unfold r77
  refine f_seq ?_
  refine f_region ?_
  refine f_op rfl rfl (s_alloc (zs := [.int .i64 0, .int .i64 0, .int .i64 0]) ty47 rfl rfl) ?_
  refine f_op rfl rfl (s_as (v := .bool false) rfl) ?_
  refine o_hp ?_; intro H1 hH1
  refine f_nil ?_
  refine f_seq ?_
  refine f_region ?_
  refine o_bind ?_; intro p2 hp2
  refine f_op rfl rfl (s_callO rfl ok100 (sim100 hp2) rfl rfl) ?_
  refine o_bind ?_; intro p3 hp3
  refine f_op rfl rfl (s_callO rfl ok100 (sim100 hp3) rfl rfl) ?_
  refine o_bind ?_; intro p4 hp4
  refine f_op rfl rfl (s_callO rfl ok100 (sim100 hp4) rfl rfl) ?_
  refine f_op rfl rfl (s_buildA (cs := [.int .i64 p2.1.1, .int .i64 p2.1.2, .int .i64 p3.1.1, .int .i64 p3.1.2, .int .i64 p4.1.1, .int .i64 p4.1.2]) Try.underlying139 ty139 ty24 rfl rfl) ?_
  refine f_op rfl rfl (s_alloc (zs := [.int .i64 0, .int .i64 0, .int .i64 0, .int .i64 0, .int .i64 0, .int .i64 0]) ty139 rfl rfl) ?_
  refine o_bind ?_; intro H5 hH5
  refine f_op rfl rfl (s_stores ty139 rfl rfl rfl rfl hH5 (Nat.le_of_eq (sts_mono hH5).symm)) ?_
  refine f_nil ?_
  refine f_seq ?_
  refine f_seq ?_
  refine f_region ?_
  refine f_op rfl rfl (s_mv (v := .sl a0) rfl) ?_
  refine f_op rfl rfl (s_lenS rfl Try.underlying100 rfl) ?_
  refine f_op rfl rfl (s_mv (v := .int .i64 0) rfl) ?_
  refine f_nil ?_
  refine f_block ?_
  refine f_loop ?_
  refine f_keep [1, 4, 6, 15, 16, 17] ?_
  exact s77_l0 FUEL a1 H.n H1.n a0 (a0.len : Int) 0 H5

/- 27 congou/cuts.Cut -/
theorem ok27 : FnOk Try.prog 27 := ⟨⟨Try.f27, Try.func27, by kernel_rfl, rfl⟩⟩
theorem sim27 {app : App} (happ : AppSim Try.prog app) {a0 : Sl} {a1 : Sl} {H : Hp} {p : (Int × Int × Int × Int) × Hp} (h : r27 app a0 a1 H = some p) : CallSim Try.prog 27 [.sl a0, .sl a1] H (.tup [.agg [.int .i64 p.1.1, .int .i64 p.1.2.1, .int .i64 p.1.2.2.1], .int .i64 p.1.2.2.2]) p.2 := by
  refine callSim (fn := Try.f27) (ret := ret27) Try.func27 rfl Try.ntmps27 rfl ?_ h
  unfold r27
  refine f_seq ?_
  refine f_region ?_
  refine f_op rfl rfl (s_alloc (zs := [.int .i64 0, .int .i64 0, .int .i64 0]) ty47 rfl rfl) ?_
  refine f_op rfl rfl (s_as (v := .int .i64 0) rfl) ?_
  refine o_hp ?_; intro H1 hH1
  refine f_nil ?_
  refine f_seq ?_
  refine f_seq ?_
  refine f_region ?_
  refine f_op rfl rfl (s_mv (v := .sl a0) rfl) ?_
  refine f_op rfl rfl (s_mv (v := .sl a1) rfl) ?_
  refine o_bind ?_; intro p2 hp2
  refine f_op rfl rfl (s_callF rfl ok76 (sim76 happ hp2)) ?_
  refine f_op rfl rfl (s_not rfl) ?_
  refine f_nil ?_
  refine f_if (fun h3 => ?_) (fun h3 => ?_)
  · skip
    refine f_know 11 rfl (bool_notT h3) ?_
    refine f_condF rfl ?_
    refine f_skip ?_
    refine f_seq ?_
    refine f_region ?_
    refine f_op rfl rfl (s_mv (v := .sl a0) rfl) ?_
    refine f_op rfl rfl (s_mv (v := .sl a1) rfl) ?_
    refine o_bind ?_; intro p4 hp4
    refine f_op rfl rfl (s_callF rfl ok77 (sim77 hp4)) ?_
    refine f_op rfl rfl (s_mv (v := .tup [.agg [.int .i64 p4.1.1, .int .i64 p4.1.2.1, .int .i64 p4.1.2.2.1], .bool p4.1.2.2.2]) rfl) ?_
    refine f_op rfl rfl (s_extract (r := .agg [.int .i64 p4.1.1, .int .i64 p4.1.2.1, .int .i64 p4.1.2.2.1]) rfl rfl) ?_
    refine f_op rfl rfl (s_extract (r := .bool p4.1.2.2.2) rfl rfl) ?_
    refine f_op rfl rfl (s_alloc (zs := [.int .i64 0, .int .i64 0, .int .i64 0]) ty47 rfl rfl) ?_
    refine o_bind ?_; intro H5 hH5
    refine f_op rfl rfl (s_stores ty47 rfl rfl rfl rfl hH5 (Nat.le_of_eq (sts_mono hH5).symm)) ?_
    refine f_op rfl rfl (s_as (v := .bool p4.1.2.2.2) rfl) ?_
    refine f_nil ?_
    refine f_seq ?_
    refine f_seq ?_
    refine f_region ?_
    refine f_op rfl rfl (s_mv (v := .bool p4.1.2.2.2) rfl) ?_
    refine f_op rfl rfl (s_not rfl) ?_
    refine f_nil ?_
    refine f_if (fun h6 => ?_) (fun h6 => ?_)
    · skip
      refine f_know 20 rfl (bool_notT h6) ?_
      refine f_condF rfl ?_
      refine f_skip ?_
      refine f_seq ?_
      refine f_region ?_
      refine o_bind ?_; intro x7 hx7
      refine o_bind ?_; intro x8 hx8
      refine o_bind ?_; intro x9 hx9
      refine f_op rfl rfl (s_loads Try.underlying47 rfl ty47 rfl (lds_cons (ldI_eq hx7) (lds_cons (ldI_eq hx8) (lds_cons (ldI_eq hx9) (lds_nil))))) ?_
      refine o_bind ?_; intro H10 hH10
      refine f_op rfl rfl (s_stores ty47 rfl rfl rfl rfl hH10 (Nat.le_of_eq (sts_mono hH10).symm)) ?_
      refine f_op rfl rfl (s_as (v := .int .i64 0) rfl) ?_
      refine f_nil ?_
      refine f_bind ?_; intro x11 hx11
      refine f_bind ?_; intro x12 hx12
      refine f_bind ?_; intro x13 hx13
      exact f_ret (.cells Try.underlying47 rfl sz47 rfl (lds_cons (ldI_eq hx11) (lds_cons (ldI_eq hx12) (lds_cons (ldI_eq hx13) (lds_nil)))) (.tmp rfl (.nil))) rfl
    · skip
      refine f_know 20 rfl (bool_notF h6) ?_
      refine f_condT rfl ?_
      refine f_seq ?_
      refine f_region ?_
      refine f_op rfl rfl (s_build (cs := [.int .i64 0, .int .i64 0, .int .i64 0]) Try.underlying47 ty47 rfl pl47 rfl) ?_
      refine o_bind ?_; intro H14 hH14
      refine f_op rfl rfl (s_stores ty47 rfl rfl rfl rfl hH14 (Nat.le_of_eq (sts_mono hH14).symm)) ?_
      refine f_op rfl rfl (s_as (v := .int .i64 4) rfl) ?_
      refine f_nil ?_
      refine f_bind ?_; intro x15 hx15
      refine f_bind ?_; intro x16 hx16
      refine f_bind ?_; intro x17 hx17
      exact f_ret (.cells Try.underlying47 rfl sz47 rfl (lds_cons (ldI_eq hx15) (lds_cons (ldI_eq hx16) (lds_cons (ldI_eq hx17) (lds_nil)))) (.tmp rfl (.nil))) rfl
  · skip
    refine f_know 11 rfl (bool_notF h3) ?_
    refine f_condT rfl ?_
    refine f_seq ?_
    refine f_region ?_
    refine f_op rfl rfl (s_build (cs := [.int .i64 0, .int .i64 0, .int .i64 0]) Try.underlying47 ty47 rfl pl47 rfl) ?_
    refine o_bind ?_; intro H18 hH18
    refine f_op rfl rfl (s_stores ty47 rfl rfl rfl rfl hH18 (Nat.le_of_eq (sts_mono hH18).symm)) ?_
    refine f_op rfl rfl (s_as (v := .int .i64 2) rfl) ?_
    refine f_nil ?_
    refine f_bind ?_; intro x19 hx19
    refine f_bind ?_; intro x20 hx20
    refine f_bind ?_; intro x21 hx21
    exact f_ret (.cells Try.underlying47 rfl sz47 rfl (lds_cons (ldI_eq hx19) (lds_cons (ldI_eq hx20) (lds_cons (ldI_eq hx21) (lds_nil)))) (.tmp rfl (.nil))) rfl

/- 78 slices.Clone[[]congou/api.Frac,congou/api.Frac] -/
theorem ok78 : FnOk Try.prog 78 := ⟨⟨Try.f78, Try.func78, by kernel_rfl, rfl⟩⟩
theorem sim78 {a0 : Sl} {H : Hp} {p : Sl × Hp} (h : r78 a0 H = some p) : CallSim Try.prog 78 [.sl a0] H (.sl p.1) p.2 := by
  refine callSim (fn := Try.f78) (ret := ret78) Try.func78 rfl Try.ntmps78 rfl ?_ h
  unfold r78
  refine f_seq ?_
  refine f_region ?_
  refine f_op rfl rfl (s_as (v := .sl ⟨true, 0, 0, 0, 0, 0⟩) rfl) ?_
  refine f_nil ?_
  refine f_seq ?_
  refine f_seq ?_
  refine f_region ?_
  refine f_op rfl rfl (s_mv (v := .sl a0) rfl) ?_
  refine f_op rfl rfl (s_eqNil Try.underlying44 rfl rfl) ?_
  refine f_nil ?_
  refine f_if (fun h1 => ?_) (fun h1 => ?_)
  · skip
    refine f_know 4 rfl (bool_T h1) ?_
    refine f_condT rfl ?_
    refine f_seq ?_
    refine f_region ?_
    refine f_op rfl rfl (s_as (v := .sl ⟨true, 0, 0, 0, 0, 0⟩) rfl) ?_
    refine f_nil ?_
    exact f_ret (.tmp rfl (.nil)) rfl
  · skip
    refine f_know 4 rfl (bool_F h1) ?_
    refine f_condF rfl ?_
    refine f_skip ?_
    refine f_seq ?_
    refine f_region ?_
    refine f_op rfl rfl (s_buildSlice0 Try.underlying44 ty24) ?_
    refine f_op rfl rfl (s_mv (v := .sl a0) rfl) ?_
    refine o_bind ?_; intro x2 hx2
    refine o_ck fun g3 => ?_
    refine o_bind ?_; intro x4 hx4
    refine f_op rfl rfl (s_append rfl rfl Try.underlying44 Try.underlying44 ty24 (by decide) rfl (by decide) rfl rfl hx2 g3 hx4) ?_
    refine f_op rfl rfl (s_as (v := .sl x4.1) rfl) ?_
    refine f_nil ?_
    exact f_ret (.tmp rfl (.nil)) rfl

/- 28 congou/congoulaw02.fracs -/
theorem ok28 : FnOk Try.prog 28 := ⟨⟨Try.f28, Try.func28, by kernel_rfl, rfl⟩⟩
theorem sim28 {a0 : Sl} {H : Hp} {p : Sl × Hp} (h : r28 a0 H = some p) : CallSim Try.prog 28 [.sl a0] H (.sl p.1) p.2 := by
  refine callSim (fn := Try.f28) (ret := ret28) Try.func28 rfl Try.ntmps28 rfl ?_ h
  unfold r28
  refine f_seq ?_
  refine f_region ?_
  refine f_op rfl rfl (s_as (v := .sl ⟨true, 0, 0, 0, 0, 0⟩) rfl) ?_
  refine f_nil ?_
  refine f_seq ?_
  refine f_region ?_
  refine f_op rfl rfl (s_mv (v := .sl a0) rfl) ?_
  refine f_op rfl rfl (s_mv (v := .sl a0) rfl) ?_
  refine f_op rfl rfl (s_lenS rfl Try.underlying44 rfl) ?_
  refine f_op rfl rfl (s_min2 rfl rfl) ?_
  refine o_ck fun g1 => ?_
  refine f_op rfl rfl (s_slice Try.underlying44 ty24 rfl rfl rfl g1.1 g1.2) ?_
  refine o_bind ?_; intro p2 hp2
  refine f_op rfl rfl (s_callF rfl ok78 (sim78 hp2)) ?_
  refine f_op rfl rfl (s_as (v := .sl p2.1) rfl) ?_
  refine f_nil ?_
  exact f_ret (.tmp rfl (.nil)) rfl

/- 29 congou/cuts.CheckCut -/
theorem ok29 : FnOk Try.prog 29 := ⟨⟨Try.f29, Try.func29, by kernel_rfl, rfl⟩⟩
theorem sim29 {app : App} (happ : AppSim Try.prog app) {a0 : Sl} {a1 : Sl} {a2_0 : Int} {a2_1 : Int} {a2_2 : Int} {H : Hp} {p : (Bool × Int) × Hp} (h : r29 app a0 a1 a2_0 a2_1 a2_2 H = some p) : CallSim Try.prog 29 [.sl a0, .sl a1, .agg [.int .i64 a2_0, .int .i64 a2_1, .int .i64 a2_2]] H (.tup [.bool p.1.1, .int .i64 p.1.2]) p.2 := by
  refine callSim (fn := Try.f29) (ret := ret29) Try.func29 rfl Try.ntmps29 rfl ?_ h
  unfold r29
  refine f_seq ?_
  refine f_region ?_
  refine f_op rfl rfl (s_box (v := .agg [.int .i64 a2_0, .int .i64 a2_1, .int .i64 a2_2]) rfl rfl) ?_
  refine f_op rfl rfl (s_as (v := .bool false) rfl) ?_
  refine f_op rfl rfl (s_as (v := .int .i64 0) rfl) ?_
  refine o_hp ?_; intro H1 hH1
  refine f_nil ?_
  refine f_seq ?_
  refine f_seq ?_
  refine f_region ?_
  refine f_op rfl rfl (s_mv (v := .sl a0) rfl) ?_
  refine f_op rfl rfl (s_mv (v := .sl a1) rfl) ?_
  refine o_bind ?_; intro p2 hp2
  refine f_op rfl rfl (s_callF rfl ok76 (sim76 happ hp2)) ?_
  refine f_op rfl rfl (s_not rfl) ?_
  refine f_nil ?_
  refine f_if (fun h3 => ?_) (fun h3 => ?_)
  · skip
    refine f_know 13 rfl (bool_notT h3) ?_
    refine f_condF rfl ?_
    refine f_skip ?_
    refine f_seq ?_
    refine f_region ?_
    refine f_op rfl rfl (s_mv (v := .sl a0) rfl) ?_
    refine f_op rfl rfl (s_mv (v := .sl a1) rfl) ?_
    refine o_bind ?_; intro p4 hp4
    refine f_op rfl rfl (s_callF rfl ok77 (sim77 hp4)) ?_
    refine f_op rfl rfl (s_mv (v := .tup [.agg [.int .i64 p4.1.1, .int .i64 p4.1.2.1, .int .i64 p4.1.2.2.1], .bool p4.1.2.2.2]) rfl) ?_
    refine f_op rfl rfl (s_extract (r := .agg [.int .i64 p4.1.1, .int .i64 p4.1.2.1, .int .i64 p4.1.2.2.1]) rfl rfl) ?_
    refine f_op rfl rfl (s_extract (r := .bool p4.1.2.2.2) rfl rfl) ?_
    refine f_op rfl rfl (s_alloc (zs := [.int .i64 0, .int .i64 0, .int .i64 0]) ty47 rfl rfl) ?_
    refine o_bind ?_; intro H5 hH5
    refine f_op rfl rfl (s_stores ty47 rfl rfl rfl rfl hH5 (Nat.le_of_eq (sts_mono hH5).symm)) ?_
    refine f_op rfl rfl (s_as (v := .bool p4.1.2.2.2) rfl) ?_
    refine f_nil ?_
    refine f_seq ?_
    refine f_region ?_
    refine f_op rfl rfl (s_mv (v := .bool p4.1.2.2.2) rfl) ?_
    refine f_op rfl rfl (s_mv (v := .bool p4.1.2.2.2) rfl) ?_
    refine o_if (fun h6 => ?_) (fun h6 => ?_)
    · skip
      refine o_know 21 rfl (bool_T h6) ?_
      refine f_op rfl rfl (s_fieldAddr Try.underlying47 rfl ty3 rfl) ?_
      refine o_bind ?_; intro x7 hx7
      refine f_op rfl rfl (s_load Try.underlying3 rfl rfl (ldI_eq hx7)) ?_
      refine f_op rfl rfl (s_fieldAddr Try.underlying47 rfl ty3 rfl) ?_
      refine o_bind ?_; intro x8 hx8
      refine f_op rfl rfl (s_load Try.underlying3 rfl rfl (ldI_eq hx8)) ?_
      refine f_op rfl rfl (s_eql rfl rfl) ?_
      refine f_op rfl rfl (s_pickT (v := .bool (decide (x7 = x8))) rfl rfl) ?_
      refine f_op rfl rfl (s_mv (v := .bool (decide (x7 = x8))) rfl) ?_
      refine o_if (fun h9 => ?_) (fun h9 => ?_)
      · skip
        refine o_know 28 rfl (dec_true h9) ?_
        refine f_op rfl rfl (s_fieldAddr Try.underlying47 rfl ty3 rfl) ?_
        refine o_bind ?_; intro x10 hx10
        refine f_op rfl rfl (s_load Try.underlying3 rfl rfl (ldI_eq hx10)) ?_
        refine f_op rfl rfl (s_fieldAddr Try.underlying47 rfl ty3 rfl) ?_
        refine o_bind ?_; intro x11 hx11
        refine f_op rfl rfl (s_load Try.underlying3 rfl rfl (ldI_eq hx11)) ?_
        refine f_op rfl rfl (s_eql rfl rfl) ?_
        refine f_op rfl rfl (s_pickT (v := .bool (decide (x10 = x11))) rfl rfl) ?_
        refine f_op rfl rfl (s_mv (v := .bool (decide (x10 = x11))) rfl) ?_
        refine o_if (fun h12 => ?_) (fun h12 => ?_)
        · skip
          refine o_know 35 rfl (dec_true h12) ?_
          refine f_op rfl rfl (s_fieldAddr Try.underlying47 rfl ty3 rfl) ?_
          refine o_bind ?_; intro x13 hx13
          refine f_op rfl rfl (s_load Try.underlying3 rfl rfl (ldI_eq hx13)) ?_
          refine f_op rfl rfl (s_fieldAddr Try.underlying47 rfl ty3 rfl) ?_
          refine o_bind ?_; intro x14 hx14
          refine f_op rfl rfl (s_load Try.underlying3 rfl rfl (ldI_eq hx14)) ?_
          refine f_op rfl rfl (s_leq rfl rfl) ?_
          refine f_op rfl rfl (s_pickT (v := .bool (decide (x13 ≤ x14))) rfl rfl) ?_
          refine f_op rfl rfl (s_as (v := .bool (decide (x13 ≤ x14))) rfl) ?_
          refine f_op rfl rfl (s_as (v := .int .i64 0) rfl) ?_
          refine f_nil ?_
          exact f_ret (.tmp rfl (.tmp rfl (.nil))) rfl
        · skip
          refine o_know 35 rfl (dec_false h12) ?_
          refine f_no rfl rfl ?_
          refine f_no rfl rfl ?_
          refine f_no rfl rfl ?_
          refine f_no rfl rfl ?_
          refine f_no rfl rfl ?_
          refine f_op rfl rfl (s_pickF (v := .bool false) rfl rfl) ?_
          refine f_op rfl rfl (s_as (v := .bool false) rfl) ?_
          refine f_op rfl rfl (s_as (v := .int .i64 0) rfl) ?_
          refine f_nil ?_
          exact f_ret (.tmp rfl (.tmp rfl (.nil))) rfl
      · skip
        refine o_know 28 rfl (dec_false h9) ?_
        refine f_no rfl rfl ?_
        refine f_no rfl rfl ?_
        refine f_no rfl rfl ?_
        refine f_no rfl rfl ?_
        refine f_no rfl rfl ?_
        refine f_op rfl rfl (s_pickF (v := .bool false) rfl rfl) ?_
        refine f_op rfl rfl (s_mv (v := .bool false) rfl) ?_
        refine f_no rfl rfl ?_
        refine f_no rfl rfl ?_
        refine f_no rfl rfl ?_
        refine f_no rfl rfl ?_
        refine f_no rfl rfl ?_
        refine f_op rfl rfl (s_pickF (v := .bool false) rfl rfl) ?_
        refine f_op rfl rfl (s_as (v := .bool false) rfl) ?_
        refine f_op rfl rfl (s_as (v := .int .i64 0) rfl) ?_
        refine f_nil ?_
        exact f_ret (.tmp rfl (.tmp rfl (.nil))) rfl
    · skip
      refine o_know 21 rfl (bool_F h6) ?_
      refine f_no rfl rfl ?_
      refine f_no rfl rfl ?_
      refine f_no rfl rfl ?_
      refine f_no rfl rfl ?_
      refine f_no rfl rfl ?_
      refine f_op rfl rfl (s_pickF (v := .bool false) rfl rfl) ?_
      refine f_op rfl rfl (s_mv (v := .bool false) rfl) ?_
      refine f_no rfl rfl ?_
      refine f_no rfl rfl ?_
      refine f_no rfl rfl ?_
      refine f_no rfl rfl ?_
      refine f_no rfl rfl ?_
      refine f_op rfl rfl (s_pickF (v := .bool false) rfl rfl) ?_
      refine f_op rfl rfl (s_mv (v := .bool false) rfl) ?_
      refine f_no rfl rfl ?_
      refine f_no rfl rfl ?_
      refine f_no rfl rfl ?_
      refine f_no rfl rfl ?_
      refine f_no rfl rfl ?_
      refine f_op rfl rfl (s_pickF (v := .bool false) rfl rfl) ?_
      refine f_op rfl rfl (s_as (v := .bool false) rfl) ?_
      refine f_op rfl rfl (s_as (v := .int .i64 0) rfl) ?_
      refine f_nil ?_
      exact f_ret (.tmp rfl (.tmp rfl (.nil))) rfl
  · skip
    refine f_know 13 rfl (bool_notF h3) ?_
    refine f_condT rfl ?_
    refine f_seq ?_
    refine f_region ?_
    refine f_op rfl rfl (s_as (v := .bool false) rfl) ?_
    refine f_op rfl rfl (s_as (v := .int .i64 2) rfl) ?_
    refine f_nil ?_
    exact f_ret (.tmp rfl (.tmp rfl (.nil))) rfl

end Go.Lt.P2
