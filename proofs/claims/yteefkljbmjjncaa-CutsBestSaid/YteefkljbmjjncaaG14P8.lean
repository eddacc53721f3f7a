/- PRINTED BY A PROGRAM OF OURS: what each function that 'CutsBest' reaches computes on the abstract heap, and that the translated code does just that. Nothing is asked of the input. -/
import Derived.Test.YteefkljbmjjncaaG14P7
set_option linter.unusedVariables false
set_option linter.unusedSimpArgs false
set_option maxRecDepth 100000
set_option maxHeartbeats 4000000
namespace Go.Lt.P2
open Go Go.Lt Go.Proofs
/- 69 (congou/cuts.Side).at -/
theorem ok69 : FnOk Try.prog 69 := ⟨⟨Try.f69, Try.func69, by kernel_rfl, rfl⟩⟩
theorem sim69 {a0_0 : Int} {a0_1 : Int} {a0_2 : Int} {a1_0 : Int} {a1_1 : Int} {a1_2 : Int} {a1_3 : Int} {H : Hp} {p : (Int × Int) × Hp} (h : r69 a0_0 a0_1 a0_2 a1_0 a1_1 a1_2 a1_3 H = some p) : CallSim Try.prog 69 [.agg [.int .i64 a0_0, .int .i64 a0_1, .int .i64 a0_2], .agg [.int .i64 a1_0, .int .i64 a1_1, .int .i64 a1_2, .int .i64 a1_3]] H (.agg [.int .i64 p.1.1, .int .i64 p.1.2]) p.2 := by
  refine callSim (fn := Try.f69) (ret := ret69) Try.func69 rfl Try.ntmps69 rfl ?_ h
  unfold r69
  refine f_seq ?_
  refine f_region ?_
  refine f_op rfl rfl (s_box (v := .agg [.int .i64 a0_0, .int .i64 a0_1, .int .i64 a0_2]) rfl rfl) ?_
  refine f_op rfl rfl (s_box (v := .agg [.int .i64 a1_0, .int .i64 a1_1, .int .i64 a1_2, .int .i64 a1_3]) rfl rfl) ?_
  refine f_op rfl rfl (s_alloc (zs := [.int .i64 0, .int .i64 0]) ty24 rfl rfl) ?_
  refine o_hp ?_; intro H1 hH1
  refine f_nil ?_
  refine f_seq ?_
  refine f_bind ?_; intro x2 hx2
  refine f_bind ?_; intro x3 hx3
  refine f_bind ?_; intro x4 hx4
  refine f_bind ?_; intro p5 hp5
  refine f_bind ?_; intro x6 hx6
  refine f_bind ?_; intro x7 hx7
  refine f_bind ?_; intro x8 hx8
  refine f_bind ?_; intro p9 hp9
  refine f_bind ?_; intro p10 hp10
  refine f_bind ?_; intro H11 hH11
  refine f_draw (Φ := fun _ => True) (lim := 1000000) [0, 1, 0, 1, 0, 0, 1, 0, 1, 0, 0, 2] (Trc.pure rfl rfl rfl (.inl fun _ => s_fieldAddr Try.underlying47 rfl ty3 rfl) (Trc.read rfl rfl rfl (s_load Try.underlying3 rfl rfl (ldI_eq hx2)) (Trc.pure rfl rfl rfl (.inl fun _ => s_fieldAddr Try.underlying32 rfl ty24 rfl) (Trc.read rfl rfl rfl (s_loads Try.underlying24 rfl ty24 rfl (lds_cons (ldI_eq hx3) (lds_cons (ldI_eq hx4) (lds_nil)))) (Trc.pure rfl rfl rfl (.inl fun _ => s_callO rfl ok99 (sim99 hp5) rfl rfl) (Trc.pure rfl rfl rfl (.inl fun _ => s_fieldAddr Try.underlying47 rfl ty3 rfl) (Trc.read rfl rfl rfl (s_load Try.underlying3 rfl rfl (ldI_eq hx6)) (Trc.pure rfl rfl rfl (.inl fun _ => s_fieldAddr Try.underlying32 rfl ty24 rfl) (Trc.read rfl rfl rfl (s_loads Try.underlying24 rfl ty24 rfl (lds_cons (ldI_eq hx7) (lds_cons (ldI_eq hx8) (lds_nil)))) (Trc.pure rfl rfl rfl (.inl fun _ => s_callO rfl ok99 (sim99 hp9) rfl rfl) (Trc.pure rfl rfl rfl (.inl fun _ => s_callO rfl ok98 (sim98 hp10) rfl rfl) (Trc.eff rfl rfl rfl (fun _ => trivial) (s_stores ty24 rfl rfl rfl rfl hH11 (Nat.le_of_eq (sts_mono hH11).symm)) (Trc.nil (fun _ => trivial)))))))))))))) rfl (by decide +kernel) mixed ?_
  refine f_bind ?_; intro x12 hx12
  refine f_bind ?_; intro x13 hx13
  exact f_ret (.cells Try.underlying24 rfl sz24 rfl (lds_cons (ldI_eq hx12) (lds_cons (ldI_eq hx13) (lds_nil))) (.nil)) rfl

/- 55 congou/cuts.Bound -/
theorem ok55 : FnOk Try.prog 55 := ⟨⟨Try.f55, Try.func55, by kernel_rfl, rfl⟩⟩
theorem s55_l0 {app : App} (happ : AppSim Try.prog app) : ∀ (k_ : Nat) (v1 : Int) (v2 : Int) (v3 : Nat) (v4 : Nat) (v5 : Sl) (v6 : Int) (v7 : Int) (H : Hp), Fin Try.prog Try.f55 ret55 60 (todoAt (bodyOf Try.f55) [1, 1, 1, 1, 1, 0, 1, 0, 0] []) [(1, .int .i64 v1), (2, .int .i64 v2), (6, .ptr v3 0), (10, .ptr v4 0), (42, .sl v5), (43, .int .i64 v6), (44, .int .i64 v7)] H (r55_l0 app k_ v1 v2 v3 v4 v5 v6 v7 H) := by
  intro k_
  induction k_ with
  | zero => intro _ _ _ _ _ _ _ _; exact f_none
  | succ k_ ih =>
    intro v1 v2 v3 v4 v5 v6 v7 H
    rw [r55_l0]
    refine f_seq ?_
    refine f_region ?_
    refine f_op rfl rfl (s_lss rfl rfl) ?_
    refine f_nil ?_
    refine f_seq ?_
    refine f_if (fun h1 => ?_) (fun h1 => ?_)
    · skip
      refine f_know 45 rfl (dec_true h1) ?_
      refine f_condT rfl ?_
      refine f_skip ?_
      refine f_seq ?_
      refine f_block ?_
      refine f_seq ?_
      refine f_region ?_
      refine o_ck fun g2 => ?_
      refine f_op rfl rfl (s_idx Try.underlying83 ty32 rfl rfl g2) ?_
      refine o_bind ?_; intro x3 hx3
      refine o_bind ?_; intro x4 hx4
      refine o_bind ?_; intro x5 hx5
      refine o_bind ?_; intro x6 hx6
      refine f_op rfl rfl (s_loads Try.underlying32 rfl ty32 rfl (lds_cons (ldI_eq hx3) (lds_cons (ldI_eq hx4) (lds_cons (ldI_eq hx5) (lds_cons (ldI_eq hx6) (lds_nil)))))) ?_
      refine f_op rfl rfl (s_alloc (zs := [.int .i64 0, .int .i64 0, .int .i64 0, .int .i64 0]) ty32 rfl rfl) ?_
      refine o_bind ?_; intro H7 hH7
      refine f_op rfl rfl (s_stores ty32 rfl rfl rfl rfl hH7 (Nat.le_of_eq (sts_mono hH7).symm)) ?_
      refine f_nil ?_
      refine f_seq ?_
      refine f_region ?_
      refine f_op rfl rfl (s_mv (v := .int .i64 v1) rfl) ?_
      refine f_op rfl rfl (s_mv (v := .int .i64 v2) rfl) ?_
      refine f_op rfl rfl (s_build (cs := [.int .i64 v1, .int .i64 v2, .int .i64 0]) Try.underlying47 ty47 rfl pl47 rfl) ?_
      refine o_bind ?_; intro x8 hx8
      refine o_bind ?_; intro x9 hx9
      refine o_bind ?_; intro x10 hx10
      refine o_bind ?_; intro x11 hx11
      refine f_op rfl rfl (s_loads Try.underlying32 rfl ty32 rfl (lds_cons (ldI_eq hx8) (lds_cons (ldI_eq hx9) (lds_cons (ldI_eq hx10) (lds_cons (ldI_eq hx11) (lds_nil)))))) ?_
      refine o_bind ?_; intro p12 hp12
      refine f_op rfl rfl (s_callO rfl ok69 (sim69 hp12) rfl rfl) ?_
      refine f_op rfl rfl (s_alloc (zs := [.int .i64 0, .int .i64 0]) ty24 rfl rfl) ?_
      refine o_bind ?_; intro H13 hH13
      refine f_op rfl rfl (s_stores ty24 rfl rfl rfl rfl hH13 (Nat.le_of_eq (sts_mono hH13).symm)) ?_
      refine f_nil ?_
      refine f_seq ?_
      refine f_region ?_
      refine o_bind ?_; intro x14 hx14
      refine o_bind ?_; intro x15 hx15
      refine f_op rfl rfl (s_loads Try.underlying24 rfl ty24 rfl (lds_cons (ldI_eq hx14) (lds_cons (ldI_eq hx15) (lds_nil)))) ?_
      refine o_bind ?_; intro x16 hx16
      refine o_bind ?_; intro x17 hx17
      refine f_op rfl rfl (s_loads Try.underlying24 rfl ty24 rfl (lds_cons (ldI_eq hx16) (lds_cons (ldI_eq hx17) (lds_nil)))) ?_
      refine o_bind ?_; intro p18 hp18
      refine f_op rfl rfl (s_callO rfl ok89 (sim89 hp18) rfl rfl) ?_
      refine f_op rfl rfl (s_gtr rfl rfl) ?_
      refine f_nil ?_
      refine f_if (fun h19 => ?_) (fun h19 => ?_)
      · skip
        refine f_know 56 rfl (dec_true h19) ?_
        refine f_condT rfl ?_
        refine f_region ?_
        refine o_bind ?_; intro x20 hx20
        refine o_bind ?_; intro x21 hx21
        refine f_op rfl rfl (s_loads Try.underlying24 rfl ty24 rfl (lds_cons (ldI_eq hx20) (lds_cons (ldI_eq hx21) (lds_nil)))) ?_
        refine o_bind ?_; intro H22 hH22
        refine f_op rfl rfl (s_stores ty24 rfl rfl rfl rfl hH22 (Nat.le_of_eq (sts_mono hH22).symm)) ?_
        refine f_nil ?_
        refine f_inBlock ?_
        refine f_region ?_
        refine f_op rfl rfl (s_add rfl rfl) ?_
        refine f_op rfl rfl (s_mv (v := .int .i64 (w64 (v7 + 1))) rfl) ?_
        refine f_nil ?_
        refine f_inLoop ?_
        refine f_keep [1, 2, 6, 10, 42, 43, 44] ?_
        exact ih v1 v2 v3 v4 v5 v6 (w64 (v7 + 1)) H22
      · skip
        refine f_know 56 rfl (dec_false h19) ?_
        refine f_condF rfl ?_
        refine f_skip ?_
        refine f_inBlock ?_
        refine f_region ?_
        refine f_op rfl rfl (s_add rfl rfl) ?_
        refine f_op rfl rfl (s_mv (v := .int .i64 (w64 (v7 + 1))) rfl) ?_
        refine f_nil ?_
        refine f_inLoop ?_
        refine f_keep [1, 2, 6, 10, 42, 43, 44] ?_
        exact ih v1 v2 v3 v4 v5 v6 (w64 (v7 + 1)) H13
    · skip
      refine f_know 45 rfl (dec_false h1) ?_
      refine f_condF rfl ?_
      refine f_exit rfl ?_
      refine f_seq ?_
      refine f_region ?_
      refine o_bind ?_; intro x23 hx23
      refine o_bind ?_; intro x24 hx24
      refine f_op rfl rfl (s_loads Try.underlying24 rfl ty24 rfl (lds_cons (ldI_eq hx23) (lds_cons (ldI_eq hx24) (lds_nil)))) ?_
      refine o_bind ?_; intro H25 hH25
      refine f_op rfl rfl (s_stores ty24 rfl rfl rfl rfl hH25 (Nat.le_of_eq (sts_mono hH25).symm)) ?_
      refine f_op rfl rfl (s_as (v := .int .i64 0) rfl) ?_
      refine f_nil ?_
      refine f_bind ?_; intro x26 hx26
      refine f_bind ?_; intro x27 hx27
      exact f_ret (.cells Try.underlying24 rfl sz24 rfl (lds_cons (ldI_eq hx26) (lds_cons (ldI_eq hx27) (lds_nil))) (.tmp rfl (.nil))) rfl

theorem s55_j1 {app : App} (happ : AppSim Try.prog app) (v1 : Sl) (v2 : Int) (v3 : Int) (v4 : Nat) (v5 : Bool) (H : Hp) : Fin Try.prog Try.f55 ret55 60 (todoAt (bodyOf Try.f55) [1, 0, 1] []) [(0, .sl v1), (1, .int .i64 v2), (2, .int .i64 v3), (6, .ptr v4 0), (23, .bool v5)] H (r55_j1 app v1 v2 v3 v4 v5 H) := by
  unfold r55_j1
  refine f_if (fun h1 => ?_) (fun h1 => ?_)
  · skip
    refine f_know 23 rfl (bool_T h1) ?_
    refine f_condT rfl ?_
    refine f_seq ?_
    refine f_region ?_
    refine f_op rfl rfl (s_build (cs := [.int .i64 0, .int .i64 0]) Try.underlying24 ty24 rfl pl24 rfl) ?_
    refine o_bind ?_; intro H2 hH2
    refine f_op rfl rfl (s_stores ty24 rfl rfl rfl rfl hH2 (Nat.le_of_eq (sts_mono hH2).symm)) ?_
    refine f_op rfl rfl (s_as (v := .int .i64 2) rfl) ?_
    refine f_nil ?_
    refine f_bind ?_; intro x3 hx3
    refine f_bind ?_; intro x4 hx4
    exact f_ret (.cells Try.underlying24 rfl sz24 rfl (lds_cons (ldI_eq hx3) (lds_cons (ldI_eq hx4) (lds_nil))) (.tmp rfl (.nil))) rfl
  · skip
    refine f_know 23 rfl (bool_F h1) ?_
    refine f_condF rfl ?_
    refine f_skip ?_
    refine f_seq ?_
    refine f_region ?_
    refine f_op rfl rfl (s_mv (v := .sl v1) rfl) ?_
    refine o_bind ?_; intro p5 hp5
    refine f_op rfl rfl (s_callF rfl ok51 (sim51 happ hp5)) ?_
    refine f_op rfl rfl (s_mv (v := .tup [.sl p5.1.1, .int .i64 p5.1.2]) rfl) ?_
    refine f_op rfl rfl (s_extract (r := .sl p5.1.1) rfl rfl) ?_
    refine f_op rfl rfl (s_extract (r := .int .i64 p5.1.2) rfl rfl) ?_
    refine f_op rfl rfl (s_as (v := .sl p5.1.1) rfl) ?_
    refine f_op rfl rfl (s_as (v := .int .i64 p5.1.2) rfl) ?_
    refine f_nil ?_
    refine f_seq ?_
    refine f_seq ?_
    refine f_region ?_
    refine f_op rfl rfl (s_mv (v := .sl p5.1.1) rfl) ?_
    refine f_op rfl rfl (s_lenS rfl Try.underlying83 rfl) ?_
    refine f_op rfl rfl (s_eql rfl rfl) ?_
    refine f_nil ?_
    refine f_if (fun h6 => ?_) (fun h6 => ?_)
    · skip
      refine f_know 32 rfl (dec_true h6) ?_
      refine f_condT rfl ?_
      refine f_seq ?_
      refine f_region ?_
      refine f_op rfl rfl (s_build (cs := [.int .i64 0, .int .i64 0]) Try.underlying24 ty24 rfl pl24 rfl) ?_
      refine o_bind ?_; intro H7 hH7
      refine f_op rfl rfl (s_stores ty24 rfl rfl rfl rfl hH7 (Nat.le_of_eq (sts_mono hH7).symm)) ?_
      refine f_op rfl rfl (s_as (v := .int .i64 4) rfl) ?_
      refine f_nil ?_
      refine f_bind ?_; intro x8 hx8
      refine f_bind ?_; intro x9 hx9
      exact f_ret (.cells Try.underlying24 rfl sz24 rfl (lds_cons (ldI_eq hx8) (lds_cons (ldI_eq hx9) (lds_nil))) (.tmp rfl (.nil))) rfl
    · skip
      refine f_know 32 rfl (dec_false h6) ?_
      refine f_condF rfl ?_
      refine f_skip ?_
      refine f_seq ?_
      refine f_region ?_
      refine f_op rfl rfl (s_mv (v := .int .i64 v2) rfl) ?_
      refine f_op rfl rfl (s_mv (v := .int .i64 v3) rfl) ?_
      refine f_op rfl rfl (s_build (cs := [.int .i64 v2, .int .i64 v3, .int .i64 0]) Try.underlying47 ty47 rfl pl47 rfl) ?_
      refine f_op rfl rfl (s_mv (v := .sl p5.1.1) rfl) ?_
      refine o_ck fun g10 => ?_
      refine f_op rfl rfl (s_idx Try.underlying83 ty32 rfl rfl g10) ?_
      refine o_bind ?_; intro x11 hx11
      refine o_bind ?_; intro x12 hx12
      refine o_bind ?_; intro x13 hx13
      refine o_bind ?_; intro x14 hx14
      refine f_op rfl rfl (s_loads Try.underlying32 rfl ty32 rfl (lds_cons (ldI_eq hx11) (lds_cons (ldI_eq hx12) (lds_cons (ldI_eq hx13) (lds_cons (ldI_eq hx14) (lds_nil)))))) ?_
      refine o_bind ?_; intro p15 hp15
      refine f_op rfl rfl (s_callO rfl ok69 (sim69 hp15) rfl rfl) ?_
      refine f_op rfl rfl (s_alloc (zs := [.int .i64 0, .int .i64 0]) ty24 rfl rfl) ?_
      refine o_bind ?_; intro H16 hH16
      refine f_op rfl rfl (s_stores ty24 rfl rfl rfl rfl hH16 (Nat.le_of_eq (sts_mono hH16).symm)) ?_
      refine f_nil ?_
      refine f_seq ?_
      refine f_seq ?_
      refine f_region ?_
      refine f_op rfl rfl (s_mv (v := .sl p5.1.1) rfl) ?_
      refine o_ck fun g17 => ?_
      refine f_op rfl rfl (s_slice Try.underlying83 ty32 rfl rfl rfl g17.1 g17.2) ?_
      refine f_op rfl rfl (s_lenS rfl Try.underlying83 rfl) ?_
      refine f_op rfl rfl (s_mv (v := .int .i64 0) rfl) ?_
      refine f_nil ?_
      refine f_block ?_
      refine f_loop ?_
      refine f_keep [1, 2, 6, 10, 42, 43, 44] ?_
      exact s55_l0 happ FUEL v2 v3 v4 p5.2.n (p5.1.1.cut 4 (1 : Int).toNat ((p5.1.1.len : Int) : Int).toNat) ((p5.1.1.cut 4 (1 : Int).toNat ((p5.1.1.len : Int) : Int).toNat).len : Int) 0 H16

theorem sim55 {app : App} (happ : AppSim Try.prog app) {a0 : Sl} {a1 : Int} {a2 : Int} {H : Hp} {p : (Int × Int × Int) × Hp} (h : r55 app a0 a1 a2 H = some p) : CallSim Try.prog 55 [.sl a0, .int .i64 a1, .int .i64 a2] H (.tup [.agg [.int .i64 p.1.1, .int .i64 p.1.2.1], .int .i64 p.1.2.2]) p.2 := by
  refine callSim (fn := Try.f55) (ret := ret55) Try.func55 rfl Try.ntmps55 rfl ?_ h
  unfold r55
  refine f_seq ?_
  refine f_region ?_
  refine f_op rfl rfl (s_alloc (zs := [.int .i64 0, .int .i64 0]) ty24 rfl rfl) ?_
  refine f_op rfl rfl (s_as (v := .int .i64 0) rfl) ?_
  refine o_hp ?_; intro H1 hH1
  refine f_nil ?_
  refine f_seq ?_
  refine f_seq ?_
  refine f_region ?_
  refine f_op rfl rfl (s_mv (v := .sl a0) rfl) ?_
  refine o_bind ?_; intro p2 hp2
  refine f_op rfl rfl (s_callF rfl ok63 (sim63 happ hp2)) ?_
  refine f_op rfl rfl (s_not rfl) ?_
  refine f_op rfl rfl (s_mv (v := .bool (!p2.1)) rfl) ?_
  refine o_if (fun h3 => ?_) (fun h3 => ?_)
  · skip
    refine o_know 17 rfl (bool_notT h3) ?_
    refine f_op rfl rfl (s_mv (v := .int .i64 a1) rfl) ?_
    refine f_op rfl rfl (s_mv (v := .int .i64 a2) rfl) ?_
    refine f_op rfl rfl (s_buildSlice (cs := [.int .i64 a1, .int .i64 a2]) Try.underlying76 ty3 (by decide) (by decide) rfl (by decide) rfl) ?_
    refine o_bind ?_; intro p4 hp4
    refine f_op rfl rfl (s_callF rfl ok79 (sim79 happ hp4)) ?_
    refine f_op rfl rfl (s_not rfl) ?_
    refine f_op rfl rfl (s_pickF (v := .bool (!p4.1)) rfl rfl) ?_
    refine f_nil ?_
    refine f_keep [0, 1, 2, 6, 23] ?_
    exact s55_j1 happ a0 a1 a2 H.n (!p4.1) p4.2
  · skip
    refine o_know 17 rfl (bool_notF h3) ?_
    refine f_no rfl rfl ?_
    refine f_no rfl rfl ?_
    refine f_no rfl rfl ?_
    refine f_no rfl rfl ?_
    refine f_no rfl rfl ?_
    refine f_op rfl rfl (s_pickT (v := .bool true) rfl rfl) ?_
    refine f_nil ?_
    refine f_keep [0, 1, 2, 6, 23] ?_
    exact s55_j1 happ a0 a1 a2 H.n true p2.2

/- 58 congou/congoulaw02.none -/
theorem ok58 : FnOk Try.prog 58 := ⟨⟨Try.f58, Try.func58, by kernel_rfl, rfl⟩⟩
theorem sim58 {a0_0 : Int} {a0_1 : Int} {H : Hp} {p : Bool × Hp} (h : r58 a0_0 a0_1 H = some p) : CallSim Try.prog 58 [.agg [.int .i64 a0_0, .int .i64 a0_1]] H (.bool p.1) p.2 := by
  refine callSim (fn := Try.f58) (ret := ret58) Try.func58 rfl Try.ntmps58 rfl ?_ h
  unfold r58
  refine f_seq ?_
  refine f_region ?_
  refine f_op rfl rfl (s_box (v := .agg [.int .i64 a0_0, .int .i64 a0_1]) rfl rfl) ?_
  refine f_op rfl rfl (s_as (v := .bool false) rfl) ?_
  refine o_hp ?_; intro H1 hH1
  refine f_nil ?_
  refine f_seq ?_
  refine f_region ?_
  refine o_bind ?_; intro x2 hx2
  refine o_bind ?_; intro x3 hx3
  refine f_op rfl rfl (s_loads Try.underlying24 rfl ty24 rfl (lds_cons (ldI_eq hx2) (lds_cons (ldI_eq hx3) (lds_nil)))) ?_
  refine f_op rfl rfl (s_build (cs := [.int .i64 0, .int .i64 0]) Try.underlying24 ty24 rfl pl24 rfl) ?_
  refine f_op rfl rfl (s_eqAgg eg24 rfl rfl (eq2 Try.underlying24 Try.underlying3 Try.underlying3 (by decide) (by decide) rfl rfl sih24 x2 x3 0 0)) ?_
  refine f_op rfl rfl (s_as (v := .bool ((x2 == 0) && (x3 == 0))) rfl) ?_
  refine f_nil ?_
  exact f_ret (.tmp rfl (.nil)) rfl

/- 59 congou/congouref02.Best -/
theorem ok59 : FnOk Try.prog 59 := ⟨⟨Try.f59, Try.func59, by kernel_rfl, rfl⟩⟩
theorem s59_l0 : ∀ (k_ : Nat) (v1 : Int) (v2 : Int) (v3 : Int) (v4 : Sl) (v5 : Int) (v6 : Int) (H : Hp), Fin Try.prog Try.f59 ret59 46 (todoAt (bodyOf Try.f59) [1, 1, 1, 0, 1, 0, 0] []) [(1, .int .i64 v1), (2, .int .i64 v2), (8, .int .i64 v3), (27, .sl v4), (28, .int .i64 v5), (29, .int .i64 v6)] H (r59_l0 k_ v1 v2 v3 v4 v5 v6 H) := by
  intro k_
  induction k_ with
  | zero => intro _ _ _ _ _ _ _; exact f_none
  | succ k_ ih =>
    intro v1 v2 v3 v4 v5 v6 H
    rw [r59_l0]
    refine f_seq ?_
    refine f_region ?_
    refine f_op rfl rfl (s_lss rfl rfl) ?_
    refine f_nil ?_
    refine f_seq ?_
    refine f_if (fun h1 => ?_) (fun h1 => ?_)
    · skip
      refine f_know 30 rfl (dec_true h1) ?_
      refine f_condT rfl ?_
      refine f_skip ?_
      refine f_seq ?_
      refine f_block ?_
      refine f_seq ?_
      refine f_region ?_
      refine o_ck fun g2 => ?_
      refine f_op rfl rfl (s_idx Try.underlying37 ty43 rfl rfl g2) ?_
      refine o_bind ?_; intro x3 hx3
      refine o_bind ?_; intro x4 hx4
      refine f_op rfl rfl (s_loads Try.underlying43 rfl ty43 rfl (lds_cons (ldI_eq hx3) (lds_cons (ldI_eq hx4) (lds_nil)))) ?_
      refine f_op rfl rfl (s_alloc (zs := [.int .i64 0, .int .i64 0]) ty43 rfl rfl) ?_
      refine o_bind ?_; intro H5 hH5
      refine f_op rfl rfl (s_stores ty43 rfl rfl rfl rfl hH5 (Nat.le_of_eq (sts_mono hH5).symm)) ?_
      refine f_nil ?_
      refine f_region ?_
      refine f_op rfl rfl (s_mv (v := .int .i64 v3) rfl) ?_
      refine f_op rfl rfl (s_mv (v := .int .i64 v1) rfl) ?_
      refine f_op rfl rfl (s_idxA Try.underlying43 ty3 rfl rfl (by decide)) ?_
      refine o_bind ?_; intro x6 hx6
      refine f_op rfl rfl (s_load Try.underlying3 rfl rfl (ldI_eq hx6)) ?_
      refine f_op rfl rfl (s_mul rfl rfl) ?_
      refine f_op rfl rfl (s_mv (v := .int .i64 v2) rfl) ?_
      refine f_op rfl rfl (s_idxA Try.underlying43 ty3 rfl rfl (by decide)) ?_
      refine o_bind ?_; intro x7 hx7
      refine f_op rfl rfl (s_load Try.underlying3 rfl rfl (ldI_eq hx7)) ?_
      refine f_op rfl rfl (s_mul rfl rfl) ?_
      refine f_op rfl rfl (s_add rfl rfl) ?_
      refine f_op rfl rfl (s_max2 rfl rfl) ?_
      refine f_op rfl rfl (s_as (v := .int .i64 (if v3 < (w64 ((w64 (v1 * x6)) + (w64 (v2 * x7)))) then (w64 ((w64 (v1 * x6)) + (w64 (v2 * x7)))) else v3)) rfl) ?_
      refine f_nil ?_
      refine f_inBlock ?_
      refine f_region ?_
      refine f_op rfl rfl (s_add rfl rfl) ?_
      refine f_op rfl rfl (s_mv (v := .int .i64 (w64 (v6 + 1))) rfl) ?_
      refine f_nil ?_
      refine f_inLoop ?_
      refine f_keep [1, 2, 8, 27, 28, 29] ?_
      exact ih v1 v2 (if v3 < (w64 ((w64 (v1 * x6)) + (w64 (v2 * x7)))) then (w64 ((w64 (v1 * x6)) + (w64 (v2 * x7)))) else v3) v4 v5 (w64 (v6 + 1)) H5
    · skip
      refine f_know 30 rfl (dec_false h1) ?_
      refine f_condF rfl ?_
      refine f_exit rfl ?_
      refine f_seq ?_
      refine f_region ?_
      refine f_op rfl rfl (s_mv (v := .int .i64 v3) rfl) ?_
      refine f_op rfl rfl (s_as (v := .int .i64 v3) rfl) ?_
      refine f_op rfl rfl (s_as (v := .int .i64 0) rfl) ?_
      refine f_nil ?_
      exact f_ret (.tmp rfl (.tmp rfl (.nil))) rfl

theorem sim59 {a0 : Sl} {a1 : Int} {a2 : Int} {H : Hp} {p : (Int × Int) × Hp} (h : r59 a0 a1 a2 H = some p) : CallSim Try.prog 59 [.sl a0, .int .i64 a1, .int .i64 a2] H (.tup [.int .i64 p.1.1, .int .i64 p.1.2]) p.2 := by
  refine callSim (fn := Try.f59) (ret := ret59) Try.func59 rfl Try.ntmps59 rfl ?_ h
  unfold r59
  refine f_seq ?_
  refine f_region ?_
  refine f_op rfl rfl (s_as (v := .int .i64 0) rfl) ?_
  refine f_op rfl rfl (s_as (v := .int .i64 0) rfl) ?_
  refine f_nil ?_
  refine f_seq ?_
  refine f_seq ?_
  refine f_region ?_
  refine f_op rfl rfl (s_mv (v := .sl a0) rfl) ?_
  refine f_op rfl rfl (s_lenS rfl Try.underlying37 rfl) ?_
  refine f_op rfl rfl (s_eql rfl rfl) ?_
  refine f_nil ?_
  refine f_if (fun h1 => ?_) (fun h1 => ?_)
  · skip
    refine f_know 13 rfl (dec_true h1) ?_
    refine f_condT rfl ?_
    refine f_seq ?_
    refine f_region ?_
    refine f_op rfl rfl (s_as (v := .int .i64 0) rfl) ?_
    refine f_op rfl rfl (s_as (v := .int .i64 4) rfl) ?_
    refine f_nil ?_
    exact f_ret (.tmp rfl (.tmp rfl (.nil))) rfl
  · skip
    refine f_know 13 rfl (dec_false h1) ?_
    refine f_condF rfl ?_
    refine f_skip ?_
    refine f_seq ?_
    refine f_ck fun g2 => ?_
    refine f_bind ?_; intro x3 hx3
    refine f_ck fun g4 => ?_
    refine f_bind ?_; intro x5 hx5
    refine f_draw (Φ := fun _ => True) (lim := 1000000) [0, 0, 0, 0, 1, 0, 0, 0, 0, 0, 1, 0, 0, 0] (Trc.pure rfl rfl rfl (.inl fun _ => s_mv (v := .int .i64 a1) rfl) (Trc.pure rfl rfl rfl (.inl fun _ => s_mv (v := .sl a0) rfl) (Trc.pure rfl rfl rfl (.inl fun _ => s_idx Try.underlying37 ty43 rfl rfl g2) (Trc.pure rfl rfl rfl (.inl fun _ => s_idxA Try.underlying43 ty3 rfl rfl (by decide)) (Trc.read rfl rfl rfl (s_load Try.underlying3 rfl rfl (ldI_eq hx3)) (Trc.pure rfl rfl rfl (.inl fun _ => s_mul rfl rfl) (Trc.pure rfl rfl rfl (.inl fun _ => s_mv (v := .int .i64 a2) rfl) (Trc.pure rfl rfl rfl (.inl fun _ => s_mv (v := .sl a0) rfl) (Trc.pure rfl rfl rfl (.inl fun _ => s_idx Try.underlying37 ty43 rfl rfl g4) (Trc.pure rfl rfl rfl (.inl fun _ => s_idxA Try.underlying43 ty3 rfl rfl (by decide)) (Trc.read rfl rfl rfl (s_load Try.underlying3 rfl rfl (ldI_eq hx5)) (Trc.pure rfl rfl rfl (.inl fun _ => s_mul rfl rfl) (Trc.pure rfl rfl rfl (.inl fun _ => s_add rfl rfl) (Trc.pure rfl rfl rfl (.inl fun _ => s_as (v := .int .i64 (w64 ((w64 (a1 * x3)) + (w64 (a2 * x5))))) rfl) (Trc.nil (fun _ => trivial)))))))))))))))) rfl (by decide +kernel) mixed ?_
    refine f_seq ?_
    refine f_seq ?_
    refine f_region ?_
    refine f_op rfl rfl (s_mv (v := .sl a0) rfl) ?_
    refine f_op rfl rfl (s_lenS rfl Try.underlying37 rfl) ?_
    refine f_op rfl rfl (s_mv (v := .int .i64 0) rfl) ?_
    refine f_nil ?_
    refine f_block ?_
    refine f_loop ?_
    refine f_keep [1, 2, 8, 27, 28, 29] ?_
    exact s59_l0 FUEL a1 a2 (w64 ((w64 (a1 * x3)) + (w64 (a2 * x5)))) a0 (a0.len : Int) 0 H

/- 60 congou/congouref02.Bound -/
theorem ok60 : FnOk Try.prog 60 := ⟨⟨Try.f60, Try.func60, by kernel_rfl, rfl⟩⟩
theorem s60_j1 (kt0 : Int → Int → Nat → Nat → Sl → Int → Int → Hp → Option ((Int × Int × Int) × Hp)) (hkt0 : ∀ (v1 : Int) (v2 : Int) (v3 : Nat) (v4 : Nat) (v5 : Sl) (v6 : Int) (v7 : Int) (H : Hp), Fin Try.prog Try.f60 ret60 60 (todoAt (bodyOf Try.f60) [1, 1, 1, 0, 1, 0, 0] []) [(1, .int .i64 v1), (2, .int .i64 v2), (6, .ptr v3 0), (8, .ptr v4 0), (16, .sl v5), (17, .int .i64 v6), (18, .int .i64 v7)] H (kt0 v1 v2 v3 v4 v5 v6 v7 H)) (v1 : Int) (v2 : Int) (v3 : Nat) (v4 : Nat) (v5 : Nat) (v6 : Sl) (v7 : Int) (v8 : Int) (v9 : Bool) (H : Hp) : Fin Try.prog Try.f60 ret60 60 (todoAt (bodyOf Try.f60) [1, 1, 1, 0, 1, 0, 0, 1, 1, 0, 0, 1, 1, 1] []) [(1, .int .i64 v1), (2, .int .i64 v2), (6, .ptr v3 0), (8, .ptr v4 0), (11, .ptr v5 0), (16, .sl v6), (17, .int .i64 v7), (18, .int .i64 v8), (56, .bool v9)] H (r60_j1 kt0 v1 v2 v3 v4 v5 v6 v7 v8 v9 H) := by
  unfold r60_j1
  refine f_if (fun h1 => ?_) (fun h1 => ?_)
  · skip
    refine f_know 56 rfl (bool_T h1) ?_
    refine f_condT rfl ?_
    refine f_region ?_
    refine o_bind ?_; intro x2 hx2
    refine o_bind ?_; intro x3 hx3
    refine f_op rfl rfl (s_loads Try.underlying24 rfl ty24 rfl (lds_cons (ldI_eq hx2) (lds_cons (ldI_eq hx3) (lds_nil)))) ?_
    refine o_bind ?_; intro H4 hH4
    refine f_op rfl rfl (s_stores ty24 rfl rfl rfl rfl hH4 (Nat.le_of_eq (sts_mono hH4).symm)) ?_
    refine f_nil ?_
    refine f_inBlock ?_
    refine f_region ?_
    refine f_op rfl rfl (s_add rfl rfl) ?_
    refine f_op rfl rfl (s_mv (v := .int .i64 (w64 (v8 + 1))) rfl) ?_
    refine f_nil ?_
    refine f_inLoop ?_
    refine f_keep [1, 2, 6, 8, 16, 17, 18] ?_
    exact hkt0 v1 v2 v3 v4 v6 v7 (w64 (v8 + 1)) H4
  · skip
    refine f_know 56 rfl (bool_F h1) ?_
    refine f_condF rfl ?_
    refine f_skip ?_
    refine f_inBlock ?_
    refine f_region ?_
    refine f_op rfl rfl (s_add rfl rfl) ?_
    refine f_op rfl rfl (s_mv (v := .int .i64 (w64 (v8 + 1))) rfl) ?_
    refine f_nil ?_
    refine f_inLoop ?_
    refine f_keep [1, 2, 6, 8, 16, 17, 18] ?_
    exact hkt0 v1 v2 v3 v4 v6 v7 (w64 (v8 + 1)) H

theorem s60_l0 : ∀ (k_ : Nat) (v1 : Int) (v2 : Int) (v3 : Nat) (v4 : Nat) (v5 : Sl) (v6 : Int) (v7 : Int) (H : Hp), Fin Try.prog Try.f60 ret60 60 (todoAt (bodyOf Try.f60) [1, 1, 1, 0, 1, 0, 0] []) [(1, .int .i64 v1), (2, .int .i64 v2), (6, .ptr v3 0), (8, .ptr v4 0), (16, .sl v5), (17, .int .i64 v6), (18, .int .i64 v7)] H (r60_l0 k_ v1 v2 v3 v4 v5 v6 v7 H) := by
  intro k_
  induction k_ with
  | zero => intro _ _ _ _ _ _ _ _; exact f_none
  | succ k_ ih =>
    intro v1 v2 v3 v4 v5 v6 v7 H
    rw [r60_l0]
    refine f_seq ?_
    refine f_region ?_
    refine f_op rfl rfl (s_lss rfl rfl) ?_
    refine f_nil ?_
    refine f_seq ?_
    refine f_if (fun h1 => ?_) (fun h1 => ?_)
    · skip
      refine f_know 19 rfl (dec_true h1) ?_
      refine f_condT rfl ?_
      refine f_skip ?_
      refine f_seq ?_
      refine f_block ?_
      refine f_seq ?_
      refine f_region ?_
      refine f_op rfl rfl (s_mv (v := .int .i64 v7) rfl) ?_
      refine o_ck fun g2 => ?_
      refine f_op rfl rfl (s_idx Try.underlying87 ty26 rfl rfl g2) ?_
      refine o_bind ?_; intro x3 hx3
      refine o_bind ?_; intro x4 hx4
      refine o_bind ?_; intro x5 hx5
      refine o_bind ?_; intro x6 hx6
      refine f_op rfl rfl (s_loads Try.underlying26 rfl ty26 rfl (lds_cons (ldI_eq hx3) (lds_cons (ldI_eq hx4) (lds_cons (ldI_eq hx5) (lds_cons (ldI_eq hx6) (lds_nil)))))) ?_
      refine f_op rfl rfl (s_alloc (zs := [.int .i64 0, .int .i64 0, .int .i64 0, .int .i64 0]) ty26 rfl rfl) ?_
      refine f_op rfl rfl (s_as (v := .int .i64 v7) rfl) ?_
      refine o_bind ?_; intro H7 hH7
      refine f_op rfl rfl (s_stores ty26 rfl rfl rfl rfl hH7 (Nat.le_of_eq (sts_mono hH7).symm)) ?_
      refine f_nil ?_
      refine f_seq ?_
      refine f_region ?_
      refine f_op rfl rfl (s_mv (v := .int .i64 v1) rfl) ?_
      refine f_op rfl rfl (s_fieldAddr Try.underlying26 rfl ty24 rfl) ?_
      refine f_op rfl rfl (s_fieldAddr Try.underlying24 rfl ty3 rfl) ?_
      refine o_bind ?_; intro x8 hx8
      refine f_op rfl rfl (s_load Try.underlying3 rfl rfl (ldI_eq hx8)) ?_
      refine f_op rfl rfl (s_mul rfl rfl) ?_
      refine f_op rfl rfl (s_fieldAddr Try.underlying26 rfl ty24 rfl) ?_
      refine f_op rfl rfl (s_fieldAddr Try.underlying24 rfl ty3 rfl) ?_
      refine o_bind ?_; intro x9 hx9
      refine f_op rfl rfl (s_load Try.underlying3 rfl rfl (ldI_eq hx9)) ?_
      refine f_op rfl rfl (s_mul rfl rfl) ?_
      refine f_op rfl rfl (s_mv (v := .int .i64 v2) rfl) ?_
      refine f_op rfl rfl (s_fieldAddr Try.underlying26 rfl ty24 rfl) ?_
      refine f_op rfl rfl (s_fieldAddr Try.underlying24 rfl ty3 rfl) ?_
      refine o_bind ?_; intro x10 hx10
      refine f_op rfl rfl (s_load Try.underlying3 rfl rfl (ldI_eq hx10)) ?_
      refine f_op rfl rfl (s_mul rfl rfl) ?_
      refine f_op rfl rfl (s_fieldAddr Try.underlying26 rfl ty24 rfl) ?_
      refine f_op rfl rfl (s_fieldAddr Try.underlying24 rfl ty3 rfl) ?_
      refine o_bind ?_; intro x11 hx11
      refine f_op rfl rfl (s_load Try.underlying3 rfl rfl (ldI_eq hx11)) ?_
      refine f_op rfl rfl (s_mul rfl rfl) ?_
      refine f_op rfl rfl (s_add rfl rfl) ?_
      refine f_op rfl rfl (s_fieldAddr Try.underlying26 rfl ty24 rfl) ?_
      refine f_op rfl rfl (s_fieldAddr Try.underlying24 rfl ty3 rfl) ?_
      refine o_bind ?_; intro x12 hx12
      refine f_op rfl rfl (s_load Try.underlying3 rfl rfl (ldI_eq hx12)) ?_
      refine f_op rfl rfl (s_fieldAddr Try.underlying26 rfl ty24 rfl) ?_
      refine f_op rfl rfl (s_fieldAddr Try.underlying24 rfl ty3 rfl) ?_
      refine o_bind ?_; intro x13 hx13
      refine f_op rfl rfl (s_load Try.underlying3 rfl rfl (ldI_eq hx13)) ?_
      refine f_op rfl rfl (s_mul rfl rfl) ?_
      refine o_bind ?_; intro p14 hp14
      refine f_op rfl rfl (s_callO rfl ok56 (sim56 hp14) rfl rfl) ?_
      refine f_op rfl rfl (s_alloc (zs := [.int .i64 0, .int .i64 0]) ty24 rfl rfl) ?_
      refine o_bind ?_; intro H15 hH15
      refine f_op rfl rfl (s_stores ty24 rfl rfl rfl rfl hH15 (Nat.le_of_eq (sts_mono hH15).symm)) ?_
      refine f_nil ?_
      refine f_seq ?_
      refine f_region ?_
      refine f_op rfl rfl (s_mv (v := .int .i64 v7) rfl) ?_
      refine f_op rfl rfl (s_eql rfl rfl) ?_
      refine f_op rfl rfl (s_mv (v := .bool (decide (v7 = 0))) rfl) ?_
      refine o_if (fun h16 => ?_) (fun h16 => ?_)
      · skip
        refine o_know 52 rfl (dec_true h16) ?_
        refine f_no rfl rfl ?_
        refine f_no rfl rfl ?_
        refine f_no rfl rfl ?_
        refine f_op rfl rfl (s_pickT (v := .bool true) rfl rfl) ?_
        refine f_nil ?_
        refine f_keep [1, 2, 6, 8, 11, 16, 17, 18, 56] ?_
        exact s60_j1 _ (fun v1_ v2_ v3_ v4_ v5_ v6_ v7_ H_ => ih v1_ v2_ v3_ v4_ v5_ v6_ v7_ H_) v1 v2 v3 v4 H7.n v5 v6 v7 true H15
      · skip
        refine o_know 52 rfl (dec_false h16) ?_
        refine o_bind ?_; intro x17 hx17
        refine o_bind ?_; intro x18 hx18
        refine f_op rfl rfl (s_loads Try.underlying24 rfl ty24 rfl (lds_cons (ldI_eq hx17) (lds_cons (ldI_eq hx18) (lds_nil)))) ?_
        refine o_bind ?_; intro x19 hx19
        refine o_bind ?_; intro x20 hx20
        refine f_op rfl rfl (s_loads Try.underlying24 rfl ty24 rfl (lds_cons (ldI_eq hx19) (lds_cons (ldI_eq hx20) (lds_nil)))) ?_
        refine o_bind ?_; intro p21 hp21
        refine f_op rfl rfl (s_callO rfl ok57 (sim57 hp21) rfl rfl) ?_
        refine f_op rfl rfl (s_pickF (v := .bool p21.1) rfl rfl) ?_
        refine f_nil ?_
        refine f_keep [1, 2, 6, 8, 11, 16, 17, 18, 56] ?_
        exact s60_j1 _ (fun v1_ v2_ v3_ v4_ v5_ v6_ v7_ H_ => ih v1_ v2_ v3_ v4_ v5_ v6_ v7_ H_) v1 v2 v3 v4 H7.n v5 v6 v7 p21.1 H15
    · skip
      refine f_know 19 rfl (dec_false h1) ?_
      refine f_condF rfl ?_
      refine f_exit rfl ?_
      refine f_seq ?_
      refine f_region ?_
      refine o_bind ?_; intro x22 hx22
      refine o_bind ?_; intro x23 hx23
      refine f_op rfl rfl (s_loads Try.underlying24 rfl ty24 rfl (lds_cons (ldI_eq hx22) (lds_cons (ldI_eq hx23) (lds_nil)))) ?_
      refine o_bind ?_; intro H24 hH24
      refine f_op rfl rfl (s_stores ty24 rfl rfl rfl rfl hH24 (Nat.le_of_eq (sts_mono hH24).symm)) ?_
      refine f_op rfl rfl (s_as (v := .int .i64 0) rfl) ?_
      refine f_nil ?_
      refine f_bind ?_; intro x25 hx25
      refine f_bind ?_; intro x26 hx26
      exact f_ret (.cells Try.underlying24 rfl sz24 rfl (lds_cons (ldI_eq hx25) (lds_cons (ldI_eq hx26) (lds_nil))) (.tmp rfl (.nil))) rfl

theorem sim60 {a0 : Sl} {a1 : Int} {a2 : Int} {H : Hp} {p : (Int × Int × Int) × Hp} (h : r60 a0 a1 a2 H = some p) : CallSim Try.prog 60 [.sl a0, .int .i64 a1, .int .i64 a2] H (.tup [.agg [.int .i64 p.1.1, .int .i64 p.1.2.1], .int .i64 p.1.2.2]) p.2 := by
  refine callSim (fn := Try.f60) (ret := ret60) Try.func60 rfl Try.ntmps60 rfl ?_ h
  unfold r60
  refine f_seq ?_
  refine f_region ?_
  refine f_op rfl rfl (s_alloc (zs := [.int .i64 0, .int .i64 0]) ty24 rfl rfl) ?_
  refine f_op rfl rfl (s_as (v := .int .i64 0) rfl) ?_
  refine o_hp ?_; intro H1 hH1
  refine f_nil ?_
  refine f_seq ?_
  refine f_seq ?_
  refine f_region ?_
  refine f_op rfl rfl (s_mv (v := .sl a0) rfl) ?_
  refine f_op rfl rfl (s_lenS rfl Try.underlying87 rfl) ?_
  refine f_op rfl rfl (s_eql rfl rfl) ?_
  refine f_nil ?_
  refine f_if (fun h2 => ?_) (fun h2 => ?_)
  · skip
    refine f_know 14 rfl (dec_true h2) ?_
    refine f_condT rfl ?_
    refine f_seq ?_
    refine f_region ?_
    refine f_op rfl rfl (s_build (cs := [.int .i64 0, .int .i64 0]) Try.underlying24 ty24 rfl pl24 rfl) ?_
    refine o_bind ?_; intro H3 hH3
    refine f_op rfl rfl (s_stores ty24 rfl rfl rfl rfl hH3 (Nat.le_of_eq (sts_mono hH3).symm)) ?_
    refine f_op rfl rfl (s_as (v := .int .i64 4) rfl) ?_
    refine f_nil ?_
    refine f_bind ?_; intro x4 hx4
    refine f_bind ?_; intro x5 hx5
    exact f_ret (.cells Try.underlying24 rfl sz24 rfl (lds_cons (ldI_eq hx4) (lds_cons (ldI_eq hx5) (lds_nil))) (.tmp rfl (.nil))) rfl
  · skip
    refine f_know 14 rfl (dec_false h2) ?_
    refine f_condF rfl ?_
    refine f_skip ?_
    refine f_seq ?_
    refine f_region ?_
    refine f_op rfl rfl (s_alloc (zs := [.int .i64 0, .int .i64 0]) ty24 rfl rfl) ?_
    refine o_hp ?_; intro H6 hH6
    refine f_nil ?_
    refine f_seq ?_
    refine f_seq ?_
    refine f_region ?_
    refine f_op rfl rfl (s_mv (v := .sl a0) rfl) ?_
    refine f_op rfl rfl (s_lenS rfl Try.underlying87 rfl) ?_
    refine f_op rfl rfl (s_mv (v := .int .i64 0) rfl) ?_
    refine f_nil ?_
    refine f_block ?_
    refine f_loop ?_
    refine f_keep [1, 2, 6, 8, 16, 17, 18] ?_
    exact s60_l0 FUEL a1 a2 H.n H1.n a0 (a0.len : Int) 0 H6

/- 14 congou/congoulaw02.CutsBest -/
theorem ok14 : FnOk Try.prog 14 := ⟨⟨Try.f14, Try.func14, by kernel_rfl, rfl⟩⟩
theorem s14_j0 {app : App} (happ : AppSim Try.prog app) (v1 : Sl) (v2 : Int) (v3 : Int) (v4 : Int) (v5 : Int) (v6 : Nat) (v7 : Int) (v8 : Bool) (H : Hp) : Fin Try.prog Try.f14 ret14 94 (todoAt (bodyOf Try.f14) [1, 1, 1, 0, 1] []) [(0, .sl v1), (1, .int .i64 v2), (2, .int .i64 v3), (7, .int .i64 v4), (8, .int .i64 v5), (9, .ptr v6 0), (10, .int .i64 v7), (39, .bool v8)] H (r14_j0 app v1 v2 v3 v4 v5 v6 v7 v8 H) := by
  unfold r14_j0
  refine f_if (fun h1 => ?_) (fun h1 => ?_)
  · skip
    refine f_know 39 rfl (bool_T h1) ?_
    refine f_condT rfl ?_
    refine f_seq ?_
    refine f_region ?_
    refine f_op rfl rfl (s_mv (v := .int .i64 v4) rfl) ?_
    refine f_op rfl rfl (s_eql rfl rfl) ?_
    refine f_op rfl rfl (s_mv (v := .bool (decide (v4 = 0))) rfl) ?_
    refine o_if (fun h2 => ?_) (fun h2 => ?_)
    · skip
      refine o_know 42 rfl (dec_true h2) ?_
      refine o_bind ?_; intro x3 hx3
      refine o_bind ?_; intro x4 hx4
      refine f_op rfl rfl (s_loads Try.underlying24 rfl ty24 rfl (lds_cons (ldI_eq hx3) (lds_cons (ldI_eq hx4) (lds_nil)))) ?_
      refine o_bind ?_; intro p5 hp5
      refine f_op rfl rfl (s_callO rfl ok58 (sim58 hp5) rfl rfl) ?_
      refine f_op rfl rfl (s_pickT (v := .bool p5.1) rfl rfl) ?_
      refine f_op rfl rfl (s_mv (v := .bool p5.1) rfl) ?_
      refine o_if (fun h6 => ?_) (fun h6 => ?_)
      · skip
        refine o_know 46 rfl (bool_T h6) ?_
        refine f_op rfl rfl (s_mv (v := .int .i64 v5) rfl) ?_
        refine f_op rfl rfl (s_eql rfl rfl) ?_
        refine f_op rfl rfl (s_pickT (v := .bool (decide (v5 = 2))) rfl rfl) ?_
        refine f_op rfl rfl (s_mv (v := .bool (decide (v5 = 2))) rfl) ?_
        refine o_if (fun h7 => ?_) (fun h7 => ?_)
        · skip
          refine o_know 50 rfl (dec_true h7) ?_
          refine f_op rfl rfl (s_mv (v := .int .i64 v7) rfl) ?_
          refine f_op rfl rfl (s_eql rfl rfl) ?_
          refine f_op rfl rfl (s_pickT (v := .bool (decide (v7 = 2))) rfl rfl) ?_
          refine f_op rfl rfl (s_mv (v := .bool (decide (v7 = 2))) rfl) ?_
          refine o_if (fun h8 => ?_) (fun h8 => ?_)
          · skip
            refine o_know 54 rfl (dec_true h8) ?_
            refine o_bind ?_; intro p9 hp9
            refine o_bind ?_; intro x10 hx10
            refine f_op rfl rfl (s_callA happ rfl hp9) ?_
            refine o_know 55 rfl (asB_eq hx10) ?_
            refine f_op rfl rfl (s_pickT (v := .bool x10) rfl rfl) ?_
            refine f_op rfl rfl (s_as (v := .bool x10) rfl) ?_
            refine f_nil ?_
            exact f_ret (.tmp rfl (.nil)) rfl
          · skip
            refine o_know 54 rfl (dec_false h8) ?_
            refine f_no rfl rfl ?_
            refine f_op rfl rfl (s_pickF (v := .bool false) rfl rfl) ?_
            refine f_op rfl rfl (s_as (v := .bool false) rfl) ?_
            refine f_nil ?_
            exact f_ret (.tmp rfl (.nil)) rfl
        · skip
          refine o_know 50 rfl (dec_false h7) ?_
          refine f_no rfl rfl ?_
          refine f_no rfl rfl ?_
          refine f_op rfl rfl (s_pickF (v := .bool false) rfl rfl) ?_
          refine f_op rfl rfl (s_mv (v := .bool false) rfl) ?_
          refine f_no rfl rfl ?_
          refine f_op rfl rfl (s_pickF (v := .bool false) rfl rfl) ?_
          refine f_op rfl rfl (s_as (v := .bool false) rfl) ?_
          refine f_nil ?_
          exact f_ret (.tmp rfl (.nil)) rfl
      · skip
        refine o_know 46 rfl (bool_F h6) ?_
        refine f_no rfl rfl ?_
        refine f_no rfl rfl ?_
        refine f_op rfl rfl (s_pickF (v := .bool false) rfl rfl) ?_
        refine f_op rfl rfl (s_mv (v := .bool false) rfl) ?_
        refine f_no rfl rfl ?_
        refine f_no rfl rfl ?_
        refine f_op rfl rfl (s_pickF (v := .bool false) rfl rfl) ?_
        refine f_op rfl rfl (s_mv (v := .bool false) rfl) ?_
        refine f_no rfl rfl ?_
        refine f_op rfl rfl (s_pickF (v := .bool false) rfl rfl) ?_
        refine f_op rfl rfl (s_as (v := .bool false) rfl) ?_
        refine f_nil ?_
        exact f_ret (.tmp rfl (.nil)) rfl
    · skip
      refine o_know 42 rfl (dec_false h2) ?_
      refine f_no rfl rfl ?_
      refine f_no rfl rfl ?_
      refine f_op rfl rfl (s_pickF (v := .bool false) rfl rfl) ?_
      refine f_op rfl rfl (s_mv (v := .bool false) rfl) ?_
      refine f_no rfl rfl ?_
      refine f_no rfl rfl ?_
      refine f_op rfl rfl (s_pickF (v := .bool false) rfl rfl) ?_
      refine f_op rfl rfl (s_mv (v := .bool false) rfl) ?_
      refine f_no rfl rfl ?_
      refine f_no rfl rfl ?_
      refine f_op rfl rfl (s_pickF (v := .bool false) rfl rfl) ?_
      refine f_op rfl rfl (s_mv (v := .bool false) rfl) ?_
      refine f_no rfl rfl ?_
      refine f_op rfl rfl (s_pickF (v := .bool false) rfl rfl) ?_
      refine f_op rfl rfl (s_as (v := .bool false) rfl) ?_
      refine f_nil ?_
      exact f_ret (.tmp rfl (.nil)) rfl
  · skip
    refine f_know 39 rfl (bool_F h1) ?_
    refine f_condF rfl ?_
    refine f_skip ?_
    refine f_seq ?_
    refine f_region ?_
    refine f_op rfl rfl (s_mv (v := .sl v1) rfl) ?_
    refine o_bind ?_; intro p11 hp11
    refine f_op rfl rfl (s_callF rfl ok25 (sim25 hp11)) ?_
    refine f_op rfl rfl (s_mv (v := .int .i64 v2) rfl) ?_
    refine f_op rfl rfl (s_mv (v := .int .i64 v3) rfl) ?_
    refine o_bind ?_; intro p12 hp12
    refine f_op rfl rfl (s_callF rfl ok59 (sim59 hp12)) ?_
    refine f_op rfl rfl (s_mv (v := .tup [.int .i64 p12.1.1, .int .i64 p12.1.2]) rfl) ?_
    refine f_op rfl rfl (s_extract (r := .int .i64 p12.1.1) rfl rfl) ?_
    refine f_op rfl rfl (s_extract (r := .int .i64 p12.1.2) rfl rfl) ?_
    refine f_op rfl rfl (s_as (v := .int .i64 p12.1.1) rfl) ?_
    refine f_op rfl rfl (s_as (v := .int .i64 p12.1.2) rfl) ?_
    refine f_nil ?_
    refine f_seq ?_
    refine f_region ?_
    refine f_op rfl rfl (s_mv (v := .sl v1) rfl) ?_
    refine o_bind ?_; intro p13 hp13
    refine f_op rfl rfl (s_callF rfl ok54 (sim54 hp13)) ?_
    refine f_op rfl rfl (s_mv (v := .int .i64 v2) rfl) ?_
    refine f_op rfl rfl (s_mv (v := .int .i64 v3) rfl) ?_
    refine o_bind ?_; intro p14 hp14
    refine f_op rfl rfl (s_callF rfl ok60 (sim60 hp14)) ?_
    refine f_op rfl rfl (s_mv (v := .tup [.agg [.int .i64 p14.1.1, .int .i64 p14.1.2.1], .int .i64 p14.1.2.2]) rfl) ?_
    refine f_op rfl rfl (s_extract (r := .agg [.int .i64 p14.1.1, .int .i64 p14.1.2.1]) rfl rfl) ?_
    refine f_op rfl rfl (s_extract (r := .int .i64 p14.1.2.2) rfl rfl) ?_
    refine f_op rfl rfl (s_alloc (zs := [.int .i64 0, .int .i64 0]) ty24 rfl rfl) ?_
    refine o_bind ?_; intro H15 hH15
    refine f_op rfl rfl (s_stores ty24 rfl rfl rfl rfl hH15 (Nat.le_of_eq (sts_mono hH15).symm)) ?_
    refine f_op rfl rfl (s_as (v := .int .i64 p14.1.2.2) rfl) ?_
    refine f_nil ?_
    refine f_seq ?_
    refine f_region ?_
    refine f_op rfl rfl (s_mv (v := .int .i64 v4) rfl) ?_
    refine f_op rfl rfl (s_mv (v := .int .i64 p12.1.1) rfl) ?_
    refine f_op rfl rfl (s_eql rfl rfl) ?_
    refine f_op rfl rfl (s_mv (v := .bool (decide (v4 = p12.1.1))) rfl) ?_
    refine o_if (fun h16 => ?_) (fun h16 => ?_)
    · skip
      refine o_know 76 rfl (dec_true h16) ?_
      refine f_op rfl rfl (s_mv (v := .int .i64 v5) rfl) ?_
      refine f_op rfl rfl (s_mv (v := .int .i64 p12.1.2) rfl) ?_
      refine f_op rfl rfl (s_eql rfl rfl) ?_
      refine f_op rfl rfl (s_pickT (v := .bool (decide (v5 = p12.1.2))) rfl rfl) ?_
      refine f_op rfl rfl (s_mv (v := .bool (decide (v5 = p12.1.2))) rfl) ?_
      refine o_if (fun h17 => ?_) (fun h17 => ?_)
      · skip
        refine o_know 81 rfl (dec_true h17) ?_
        refine o_bind ?_; intro x18 hx18
        refine o_bind ?_; intro x19 hx19
        refine f_op rfl rfl (s_loads Try.underlying24 rfl ty24 rfl (lds_cons (ldI_eq hx18) (lds_cons (ldI_eq hx19) (lds_nil)))) ?_
        refine o_bind ?_; intro x20 hx20
        refine o_bind ?_; intro x21 hx21
        refine f_op rfl rfl (s_loads Try.underlying24 rfl ty24 rfl (lds_cons (ldI_eq hx20) (lds_cons (ldI_eq hx21) (lds_nil)))) ?_
        refine f_op rfl rfl (s_eqAgg eg24 rfl rfl (eq2 Try.underlying24 Try.underlying3 Try.underlying3 (by decide) (by decide) rfl rfl sih24 x18 x19 x20 x21)) ?_
        refine f_op rfl rfl (s_pickT (v := .bool ((x18 == x20) && (x19 == x21))) rfl rfl) ?_
        refine f_op rfl rfl (s_mv (v := .bool ((x18 == x20) && (x19 == x21))) rfl) ?_
        refine o_if (fun h22 => ?_) (fun h22 => ?_)
        · skip
          refine o_know 86 rfl (bool_T h22) ?_
          refine f_op rfl rfl (s_mv (v := .int .i64 v7) rfl) ?_
          refine f_op rfl rfl (s_mv (v := .int .i64 p14.1.2.2) rfl) ?_
          refine f_op rfl rfl (s_eql rfl rfl) ?_
          refine f_op rfl rfl (s_pickT (v := .bool (decide (v7 = p14.1.2.2))) rfl rfl) ?_
          refine f_op rfl rfl (s_mv (v := .bool (decide (v7 = p14.1.2.2))) rfl) ?_
          refine o_if (fun h23 => ?_) (fun h23 => ?_)
          · skip
            refine o_know 91 rfl (dec_true h23) ?_
            refine o_bind ?_; intro p24 hp24
            refine o_bind ?_; intro x25 hx25
            refine f_op rfl rfl (s_callA happ rfl hp24) ?_
            refine o_know 92 rfl (asB_eq hx25) ?_
            refine f_op rfl rfl (s_pickT (v := .bool x25) rfl rfl) ?_
            refine f_op rfl rfl (s_as (v := .bool x25) rfl) ?_
            refine f_nil ?_
            exact f_ret (.tmp rfl (.nil)) rfl
          · skip
            refine o_know 91 rfl (dec_false h23) ?_
            refine f_no rfl rfl ?_
            refine f_op rfl rfl (s_pickF (v := .bool false) rfl rfl) ?_
            refine f_op rfl rfl (s_as (v := .bool false) rfl) ?_
            refine f_nil ?_
            exact f_ret (.tmp rfl (.nil)) rfl
        · skip
          refine o_know 86 rfl (bool_F h22) ?_
          refine f_no rfl rfl ?_
          refine f_no rfl rfl ?_
          refine f_no rfl rfl ?_
          refine f_op rfl rfl (s_pickF (v := .bool false) rfl rfl) ?_
          refine f_op rfl rfl (s_mv (v := .bool false) rfl) ?_
          refine f_no rfl rfl ?_
          refine f_op rfl rfl (s_pickF (v := .bool false) rfl rfl) ?_
          refine f_op rfl rfl (s_as (v := .bool false) rfl) ?_
          refine f_nil ?_
          exact f_ret (.tmp rfl (.nil)) rfl
      · skip
        refine o_know 81 rfl (dec_false h17) ?_
        refine f_no rfl rfl ?_
        refine f_no rfl rfl ?_
        refine f_no rfl rfl ?_
        refine f_op rfl rfl (s_pickF (v := .bool false) rfl rfl) ?_
        refine f_op rfl rfl (s_mv (v := .bool false) rfl) ?_
        refine f_no rfl rfl ?_
        refine f_no rfl rfl ?_
        refine f_no rfl rfl ?_
        refine f_op rfl rfl (s_pickF (v := .bool false) rfl rfl) ?_
        refine f_op rfl rfl (s_mv (v := .bool false) rfl) ?_
        refine f_no rfl rfl ?_
        refine f_op rfl rfl (s_pickF (v := .bool false) rfl rfl) ?_
        refine f_op rfl rfl (s_as (v := .bool false) rfl) ?_
        refine f_nil ?_
        exact f_ret (.tmp rfl (.nil)) rfl
    · skip
      refine o_know 76 rfl (dec_false h16) ?_
      refine f_no rfl rfl ?_
      refine f_no rfl rfl ?_
      refine f_no rfl rfl ?_
      refine f_op rfl rfl (s_pickF (v := .bool false) rfl rfl) ?_
      refine f_op rfl rfl (s_mv (v := .bool false) rfl) ?_
      refine f_no rfl rfl ?_
      refine f_no rfl rfl ?_
      refine f_no rfl rfl ?_
      refine f_op rfl rfl (s_pickF (v := .bool false) rfl rfl) ?_
      refine f_op rfl rfl (s_mv (v := .bool false) rfl) ?_
      refine f_no rfl rfl ?_
      refine f_no rfl rfl ?_
      refine f_no rfl rfl ?_
      refine f_op rfl rfl (s_pickF (v := .bool false) rfl rfl) ?_
      refine f_op rfl rfl (s_mv (v := .bool false) rfl) ?_
      refine f_no rfl rfl ?_
      refine f_op rfl rfl (s_pickF (v := .bool false) rfl rfl) ?_
      refine f_op rfl rfl (s_as (v := .bool false) rfl) ?_
      refine f_nil ?_
      exact f_ret (.tmp rfl (.nil)) rfl

theorem sim14 {app : App} (happ : AppSim Try.prog app) {a0 : Sl} {a1 : Int} {a2 : Int} {H : Hp} {p : Bool × Hp} (h : r14 app a0 a1 a2 H = some p) : CallSim Try.prog 14 [.sl a0, .int .i64 a1, .int .i64 a2] H (.bool p.1) p.2 := by
  refine callSim (fn := Try.f14) (ret := ret14) Try.func14 rfl Try.ntmps14 rfl ?_ h
  unfold r14
  refine f_seq ?_
  refine f_region ?_
  refine f_op rfl rfl (s_as (v := .bool false) rfl) ?_
  refine f_nil ?_
  refine f_seq ?_
  refine f_region ?_
  refine f_op rfl rfl (s_mv (v := .sl a0) rfl) ?_
  refine o_bind ?_; intro p1 hp1
  refine f_op rfl rfl (s_callF rfl ok18 (sim18 hp1)) ?_
  refine f_op rfl rfl (s_mv (v := .int .i64 a1) rfl) ?_
  refine f_op rfl rfl (s_mv (v := .int .i64 a2) rfl) ?_
  refine o_bind ?_; intro p2 hp2
  refine f_op rfl rfl (s_callF rfl ok42 (sim42 happ hp2)) ?_
  refine f_op rfl rfl (s_mv (v := .tup [.int .i64 p2.1.1, .int .i64 p2.1.2]) rfl) ?_
  refine f_op rfl rfl (s_extract (r := .int .i64 p2.1.1) rfl rfl) ?_
  refine f_op rfl rfl (s_extract (r := .int .i64 p2.1.2) rfl rfl) ?_
  refine f_op rfl rfl (s_as (v := .int .i64 p2.1.1) rfl) ?_
  refine f_op rfl rfl (s_as (v := .int .i64 p2.1.2) rfl) ?_
  refine f_nil ?_
  refine f_seq ?_
  refine f_region ?_
  refine f_op rfl rfl (s_mv (v := .sl a0) rfl) ?_
  refine o_bind ?_; intro p3 hp3
  refine f_op rfl rfl (s_callF rfl ok18 (sim18 hp3)) ?_
  refine f_op rfl rfl (s_mv (v := .int .i64 a1) rfl) ?_
  refine f_op rfl rfl (s_mv (v := .int .i64 a2) rfl) ?_
  refine o_bind ?_; intro p4 hp4
  refine f_op rfl rfl (s_callF rfl ok55 (sim55 happ hp4)) ?_
  refine f_op rfl rfl (s_mv (v := .tup [.agg [.int .i64 p4.1.1, .int .i64 p4.1.2.1], .int .i64 p4.1.2.2]) rfl) ?_
  refine f_op rfl rfl (s_extract (r := .agg [.int .i64 p4.1.1, .int .i64 p4.1.2.1]) rfl rfl) ?_
  refine f_op rfl rfl (s_extract (r := .int .i64 p4.1.2.2) rfl rfl) ?_
  refine f_op rfl rfl (s_alloc (zs := [.int .i64 0, .int .i64 0]) ty24 rfl rfl) ?_
  refine o_bind ?_; intro H5 hH5
  refine f_op rfl rfl (s_stores ty24 rfl rfl rfl rfl hH5 (Nat.le_of_eq (sts_mono hH5).symm)) ?_
  refine f_op rfl rfl (s_as (v := .int .i64 p4.1.2.2) rfl) ?_
  refine f_nil ?_
  refine f_seq ?_
  refine f_seq ?_
  refine f_region ?_
  refine f_op rfl rfl (s_mv (v := .sl a0) rfl) ?_
  refine o_bind ?_; intro p6 hp6
  refine f_op rfl rfl (s_callF rfl ok19 (sim19 hp6)) ?_
  refine f_op rfl rfl (s_not rfl) ?_
  refine f_op rfl rfl (s_mv (v := .bool (!p6.1)) rfl) ?_
  refine o_if (fun h7 => ?_) (fun h7 => ?_)
  · skip
    refine o_know 34 rfl (bool_notT h7) ?_
    refine f_op rfl rfl (s_mv (v := .int .i64 a1) rfl) ?_
    refine f_op rfl rfl (s_mv (v := .int .i64 a2) rfl) ?_
    refine o_bind ?_; intro p8 hp8
    refine f_op rfl rfl (s_callO rfl ok48 (sim48 hp8) rfl rfl) ?_
    refine f_op rfl rfl (s_not rfl) ?_
    refine f_op rfl rfl (s_pickF (v := .bool (!p8.1)) rfl rfl) ?_
    refine f_nil ?_
    refine f_keep [0, 1, 2, 7, 8, 9, 10, 39] ?_
    exact s14_j0 happ a0 a1 a2 p2.1.1 p2.1.2 p4.2.n p4.1.2.2 (!p8.1) p6.2
  · skip
    refine o_know 34 rfl (bool_notF h7) ?_
    refine f_no rfl rfl ?_
    refine f_no rfl rfl ?_
    refine f_no rfl rfl ?_
    refine f_no rfl rfl ?_
    refine f_op rfl rfl (s_pickT (v := .bool true) rfl rfl) ?_
    refine f_nil ?_
    refine f_keep [0, 1, 2, 7, 8, 9, 10, 39] ?_
    exact s14_j0 happ a0 a1 a2 p2.1.1 p2.1.2 p4.2.n p4.1.2.2 true p6.2

/- 97 congou/cuts.cross -/
theorem ok97 : FnOk Try.prog 97 := ⟨⟨Try.f97, Try.func97, by kernel_rfl, rfl⟩⟩
theorem sim97 {a0 : Int} {a1 : Int} {a2 : Int} {a3 : Int} {H : Hp} {p : Int × Hp} (h : r97 a0 a1 a2 a3 H = some p) : CallSim Try.prog 97 [.int .i64 a0, .int .i64 a1, .int .i64 a2, .int .i64 a3] H (.int .i64 p.1) p.2 := by
  refine callSim (fn := Try.f97) (ret := ret97) Try.func97 rfl Try.ntmps97 rfl ?_ h
  unfold r97
  refine f_seq ?_
  refine f_region ?_
  refine f_op rfl rfl (s_as (v := .int .i64 0) rfl) ?_
  refine f_nil ?_
  refine f_seq ?_
  refine f_region ?_
  refine f_op rfl rfl (s_mv (v := .int .i64 a0) rfl) ?_
  refine f_op rfl rfl (s_mv (v := .int .i64 a3) rfl) ?_
  refine f_op rfl rfl (s_mul rfl rfl) ?_
  refine f_op rfl rfl (s_mv (v := .int .i64 a1) rfl) ?_
  refine f_op rfl rfl (s_mv (v := .int .i64 a2) rfl) ?_
  refine f_op rfl rfl (s_mul rfl rfl) ?_
  refine f_op rfl rfl (s_sub rfl rfl) ?_
  refine f_op rfl rfl (s_as (v := .int .i64 (w64 ((w64 (a0 * a3)) - (w64 (a1 * a2))))) rfl) ?_
  refine f_nil ?_
  exact f_ret (.tmp rfl (.nil)) rfl

/- 96 (congou/cuts.Side).meet -/
theorem ok96 : FnOk Try.prog 96 := ⟨⟨Try.f96, Try.func96, by kernel_rfl, rfl⟩⟩
theorem sim96 {a0_0 : Int} {a0_1 : Int} {a0_2 : Int} {a1_0 : Int} {a1_1 : Int} {a1_2 : Int} {H : Hp} {p : (Int × Int × Int × Int × Bool) × Hp} (h : r96 a0_0 a0_1 a0_2 a1_0 a1_1 a1_2 H = some p) : CallSim Try.prog 96 [.agg [.int .i64 a0_0, .int .i64 a0_1, .int .i64 a0_2], .agg [.int .i64 a1_0, .int .i64 a1_1, .int .i64 a1_2]] H (.tup [.agg [.int .i64 p.1.1, .int .i64 p.1.2.1, .int .i64 p.1.2.2.1, .int .i64 p.1.2.2.2.1], .bool p.1.2.2.2.2]) p.2 := by
  refine callSim (fn := Try.f96) (ret := ret96) Try.func96 rfl Try.ntmps96 rfl ?_ h
  unfold r96
  refine f_seq ?_
  refine f_region ?_
  refine f_op rfl rfl (s_box (v := .agg [.int .i64 a0_0, .int .i64 a0_1, .int .i64 a0_2]) rfl rfl) ?_
  refine f_op rfl rfl (s_box (v := .agg [.int .i64 a1_0, .int .i64 a1_1, .int .i64 a1_2]) rfl rfl) ?_
  refine f_op rfl rfl (s_alloc (zs := [.int .i64 0, .int .i64 0, .int .i64 0, .int .i64 0]) ty32 rfl rfl) ?_
  refine f_op rfl rfl (s_as (v := .bool false) rfl) ?_
  refine o_hp ?_; intro H1 hH1
  refine f_nil ?_
  refine f_seq ?_
  refine f_region ?_
  refine f_op rfl rfl (s_fieldAddr Try.underlying47 rfl ty3 rfl) ?_
  refine o_bind ?_; intro x2 hx2
  refine f_op rfl rfl (s_load Try.underlying3 rfl rfl (ldI_eq hx2)) ?_
  refine f_op rfl rfl (s_fieldAddr Try.underlying47 rfl ty3 rfl) ?_
  refine o_bind ?_; intro x3 hx3
  refine f_op rfl rfl (s_load Try.underlying3 rfl rfl (ldI_eq hx3)) ?_
  refine f_op rfl rfl (s_fieldAddr Try.underlying47 rfl ty3 rfl) ?_
  refine o_bind ?_; intro x4 hx4
  refine f_op rfl rfl (s_load Try.underlying3 rfl rfl (ldI_eq hx4)) ?_
  refine f_op rfl rfl (s_fieldAddr Try.underlying47 rfl ty3 rfl) ?_
  refine o_bind ?_; intro x5 hx5
  refine f_op rfl rfl (s_load Try.underlying3 rfl rfl (ldI_eq hx5)) ?_
  refine o_bind ?_; intro p6 hp6
  refine f_op rfl rfl (s_callO rfl ok97 (sim97 hp6) rfl rfl) ?_
  refine f_op rfl rfl (s_as (v := .int .i64 p6.1) rfl) ?_
  refine f_nil ?_
  refine f_seq ?_
  refine f_seq ?_
  refine f_region ?_
  refine f_op rfl rfl (s_mv (v := .int .i64 p6.1) rfl) ?_
  refine f_op rfl rfl (s_eql rfl rfl) ?_
  refine f_nil ?_
  refine f_if (fun h7 => ?_) (fun h7 => ?_)
  · skip
    refine f_know 17 rfl (dec_true h7) ?_
    refine f_condT rfl ?_
    refine f_seq ?_
    refine f_region ?_
    refine f_op rfl rfl (s_build (cs := [.int .i64 0, .int .i64 0, .int .i64 0, .int .i64 0]) Try.underlying32 ty32 rfl pl32 rfl) ?_
    refine o_bind ?_; intro H8 hH8
    refine f_op rfl rfl (s_stores ty32 rfl rfl rfl rfl hH8 (Nat.le_of_eq (sts_mono hH8).symm)) ?_
    refine f_op rfl rfl (s_as (v := .bool false) rfl) ?_
    refine f_nil ?_
    refine f_bind ?_; intro x9 hx9
    refine f_bind ?_; intro x10 hx10
    refine f_bind ?_; intro x11 hx11
    refine f_bind ?_; intro x12 hx12
    exact f_ret (.cells Try.underlying32 rfl sz32 rfl (lds_cons (ldI_eq hx9) (lds_cons (ldI_eq hx10) (lds_cons (ldI_eq hx11) (lds_cons (ldI_eq hx12) (lds_nil))))) (.tmp rfl (.nil))) rfl
  · skip
    refine f_know 17 rfl (dec_false h7) ?_
    refine f_condF rfl ?_
    refine f_skip ?_
    refine f_seq ?_
    refine f_bind ?_; intro x13 hx13
    refine f_bind ?_; intro x14 hx14
    refine f_bind ?_; intro x15 hx15
    refine f_bind ?_; intro x16 hx16
    refine f_bind ?_; intro p17 hp17
    refine f_bind ?_; intro x18 hx18
    refine f_bind ?_; intro x19 hx19
    refine f_bind ?_; intro x20 hx20
    refine f_bind ?_; intro x21 hx21
    refine f_bind ?_; intro p22 hp22
    refine f_bind ?_; intro H23 hH23
    refine f_draw (Φ := fun _ => True) (lim := 1000000) [0, 1, 0, 1, 0, 0, 1, 0, 1, 0, 0, 0, 0, 0, 1, 0, 1, 0, 0, 1, 0, 1, 0, 0, 0, 0, 0, 2, 0] (Trc.pure rfl rfl rfl (.inl fun _ => s_fieldAddr Try.underlying47 rfl ty3 rfl) (Trc.read rfl rfl rfl (s_load Try.underlying3 rfl rfl (ldI_eq hx13)) (Trc.pure rfl rfl rfl (.inl fun _ => s_fieldAddr Try.underlying47 rfl ty3 rfl) (Trc.read rfl rfl rfl (s_load Try.underlying3 rfl rfl (ldI_eq hx14)) (Trc.pure rfl rfl rfl (.inl fun _ => s_mul rfl rfl) (Trc.pure rfl rfl rfl (.inl fun _ => s_fieldAddr Try.underlying47 rfl ty3 rfl) (Trc.read rfl rfl rfl (s_load Try.underlying3 rfl rfl (ldI_eq hx15)) (Trc.pure rfl rfl rfl (.inl fun _ => s_fieldAddr Try.underlying47 rfl ty3 rfl) (Trc.read rfl rfl rfl (s_load Try.underlying3 rfl rfl (ldI_eq hx16)) (Trc.pure rfl rfl rfl (.inl fun _ => s_mul rfl rfl) (Trc.pure rfl rfl rfl (.inl fun _ => s_sub rfl rfl) (Trc.pure rfl rfl rfl (.inl fun _ => s_mv (v := .int .i64 p6.1) rfl) (Trc.pure rfl rfl rfl (.inl fun _ => s_callO rfl ok100 (sim100 hp17) rfl rfl) (Trc.pure rfl rfl rfl (.inl fun _ => s_fieldAddr Try.underlying47 rfl ty3 rfl) (Trc.read rfl rfl rfl (s_load Try.underlying3 rfl rfl (ldI_eq hx18)) (Trc.pure rfl rfl rfl (.inl fun _ => s_fieldAddr Try.underlying47 rfl ty3 rfl) (Trc.read rfl rfl rfl (s_load Try.underlying3 rfl rfl (ldI_eq hx19)) (Trc.pure rfl rfl rfl (.inl fun _ => s_mul rfl rfl) (Trc.pure rfl rfl rfl (.inl fun _ => s_fieldAddr Try.underlying47 rfl ty3 rfl) (Trc.read rfl rfl rfl (s_load Try.underlying3 rfl rfl (ldI_eq hx20)) (Trc.pure rfl rfl rfl (.inl fun _ => s_fieldAddr Try.underlying47 rfl ty3 rfl) (Trc.read rfl rfl rfl (s_load Try.underlying3 rfl rfl (ldI_eq hx21)) (Trc.pure rfl rfl rfl (.inl fun _ => s_mul rfl rfl) (Trc.pure rfl rfl rfl (.inl fun _ => s_sub rfl rfl) (Trc.pure rfl rfl rfl (.inl fun _ => s_mv (v := .int .i64 p6.1) rfl) (Trc.pure rfl rfl rfl (.inl fun _ => s_callO rfl ok100 (sim100 hp22) rfl rfl) (Trc.pure rfl rfl rfl (.inl fun _ => s_build (cs := [.int .i64 p17.1.1, .int .i64 p17.1.2, .int .i64 p22.1.1, .int .i64 p22.1.2]) Try.underlying32 ty32 rfl pl32 rfl) (Trc.eff rfl rfl rfl (fun _ => trivial) (s_stores ty32 rfl rfl rfl rfl hH23 (Nat.le_of_eq (sts_mono hH23).symm)) (Trc.pure rfl rfl rfl (.inl fun _ => s_as (v := .bool true) rfl) (Trc.nil (fun _ => trivial))))))))))))))))))))))))))))))) rfl (by decide +kernel) mixed ?_
    refine f_bind ?_; intro x24 hx24
    refine f_bind ?_; intro x25 hx25
    refine f_bind ?_; intro x26 hx26
    refine f_bind ?_; intro x27 hx27
    exact f_ret (.cells Try.underlying32 rfl sz32 rfl (lds_cons (ldI_eq hx24) (lds_cons (ldI_eq hx25) (lds_cons (ldI_eq hx26) (lds_cons (ldI_eq hx27) (lds_nil))))) (.tmp rfl (.nil))) rfl

end Go.Lt.P2
