/- PRINTED BY A PROGRAM OF OURS: what each function that 'CutsKeeps' reaches computes on the abstract heap, and that the translated code does just that. Nothing is asked of the input. -/
import Derived.Test.YteefkljbmjjncaaG8P2
set_option linter.unusedVariables false
set_option linter.unusedSimpArgs false
set_option maxRecDepth 100000
set_option maxHeartbeats 4000000
namespace Go.Lt.P2
open Go Go.Lt Go.Proofs
/- 27 congou/cuts.Cut -/
theorem ok27 : FnOk Try.prog 27 := ⟨⟨Try.f27, Try.func27, by kernel_rfl, rfl⟩⟩
theorem sim27 {app : App} (happ : AppSim Try.prog app) {a0 : Sl} {a1 : Sl} {H : Hp} {p : (Int × Int × Int × Int) × Hp} (h : r27 app a0 a1 H = some p) : CallSim Try.prog 27 [.sl a0, .sl a1] H (.tup [.agg [.int .i64 p.1.1, .int .i64 p.1.2.1, .int .i64 p.1.2.2.1], .int .i64 p.1.2.2.2]) p.2 := by
  refine callSim (fn := Try.f27) (ret := ret27) Try.func27 rfl Try.ntmps27 rfl ?_ h
  unfold r27
  refine f_seq ?_
  refine f_region ?_
  refine f_op rfl rfl (s_alloc (zs := [.int .i64 0, .int .i64 0, .int .i64 0]) ty47 rfl rfl) ?_
  refine f_op rfl rfl (s_as (v := .int .i64 0) rfl) ?_
  refine o_hp ?_; intro H1 hH1
  refine f_nil ?_
  refine f_seq ?_
  refine f_seq ?_
  refine f_region ?_
  refine f_op rfl rfl (s_mv (v := .sl a0) rfl) ?_
  refine f_op rfl rfl (s_mv (v := .sl a1) rfl) ?_
  refine o_bind ?_; intro p2 hp2
  refine f_op rfl rfl (s_callF rfl ok76 (sim76 happ hp2)) ?_
  refine f_op rfl rfl (s_not rfl) ?_
  refine f_nil ?_
  refine f_if (fun h3 => ?_) (fun h3 => ?_)
  · skip
    refine f_know 11 rfl (bool_notT h3) ?_
    refine f_condF rfl ?_
    refine f_skip ?_
    refine f_seq ?_
    refine f_region ?_
    refine f_op rfl rfl (s_mv (v := .sl a0) rfl) ?_
    refine f_op rfl rfl (s_mv (v := .sl a1) rfl) ?_
    refine o_bind ?_; intro p4 hp4
    refine f_op rfl rfl (s_callF rfl ok77 (sim77 hp4)) ?_
    refine f_op rfl rfl (s_mv (v := .tup [.agg [.int .i64 p4.1.1, .int .i64 p4.1.2.1, .int .i64 p4.1.2.2.1], .bool p4.1.2.2.2]) rfl) ?_
    refine f_op rfl rfl (s_extract (r := .agg [.int .i64 p4.1.1, .int .i64 p4.1.2.1, .int .i64 p4.1.2.2.1]) rfl rfl) ?_
    refine f_op rfl rfl (s_extract (r := .bool p4.1.2.2.2) rfl rfl) ?_
    refine f_op rfl rfl (s_alloc (zs := [.int .i64 0, .int .i64 0, .int .i64 0]) ty47 rfl rfl) ?_
    refine o_bind ?_; intro H5 hH5
    refine f_op rfl rfl (s_stores ty47 rfl rfl rfl rfl hH5 (Nat.le_of_eq (sts_mono hH5).symm)) ?_
    refine f_op rfl rfl (s_as (v := .bool p4.1.2.2.2) rfl) ?_
    refine f_nil ?_
    refine f_seq ?_
    refine f_seq ?_
    refine f_region ?_
    refine f_op rfl rfl (s_mv (v := .bool p4.1.2.2.2) rfl) ?_
    refine f_op rfl rfl (s_not rfl) ?_
    refine f_nil ?_
    refine f_if (fun h6 => ?_) (fun h6 => ?_)
    · skip
      refine f_know 20 rfl (bool_notT h6) ?_
      refine f_condF rfl ?_
      refine f_skip ?_
      refine f_seq ?_
      refine f_region ?_
      refine o_bind ?_; intro x7 hx7
      refine o_bind ?_; intro x8 hx8
      refine o_bind ?_; intro x9 hx9
      refine f_op rfl rfl (s_loads Try.underlying47 rfl ty47 rfl (lds_cons (ldI_eq hx7) (lds_cons (ldI_eq hx8) (lds_cons (ldI_eq hx9) (lds_nil))))) ?_
      refine o_bind ?_; intro H10 hH10
      refine f_op rfl rfl (s_stores ty47 rfl rfl rfl rfl hH10 (Nat.le_of_eq (sts_mono hH10).symm)) ?_
      refine f_op rfl rfl (s_as (v := .int .i64 0) rfl) ?_
      refine f_nil ?_
      refine f_bind ?_; intro x11 hx11
      refine f_bind ?_; intro x12 hx12
      refine f_bind ?_; intro x13 hx13
      exact f_ret (.cells Try.underlying47 rfl sz47 rfl (lds_cons (ldI_eq hx11) (lds_cons (ldI_eq hx12) (lds_cons (ldI_eq hx13) (lds_nil)))) (.tmp rfl (.nil))) rfl
    · skip
      refine f_know 20 rfl (bool_notF h6) ?_
      refine f_condT rfl ?_
      refine f_seq ?_
      refine f_region ?_
      refine f_op rfl rfl (s_build (cs := [.int .i64 0, .int .i64 0, .int .i64 0]) Try.underlying47 ty47 rfl pl47 rfl) ?_
      refine o_bind ?_; intro H14 hH14
      refine f_op rfl rfl (s_stores ty47 rfl rfl rfl rfl hH14 (Nat.le_of_eq (sts_mono hH14).symm)) ?_
      refine f_op rfl rfl (s_as (v := .int .i64 4) rfl) ?_
      refine f_nil ?_
      refine f_bind ?_; intro x15 hx15
      refine f_bind ?_; intro x16 hx16
      refine f_bind ?_; intro x17 hx17
      exact f_ret (.cells Try.underlying47 rfl sz47 rfl (lds_cons (ldI_eq hx15) (lds_cons (ldI_eq hx16) (lds_cons (ldI_eq hx17) (lds_nil)))) (.tmp rfl (.nil))) rfl
  · skip
    refine f_know 11 rfl (bool_notF h3) ?_
    refine f_condT rfl ?_
    refine f_seq ?_
    refine f_region ?_
    refine f_op rfl rfl (s_build (cs := [.int .i64 0, .int .i64 0, .int .i64 0]) Try.underlying47 ty47 rfl pl47 rfl) ?_
    refine o_bind ?_; intro H18 hH18
    refine f_op rfl rfl (s_stores ty47 rfl rfl rfl rfl hH18 (Nat.le_of_eq (sts_mono hH18).symm)) ?_
    refine f_op rfl rfl (s_as (v := .int .i64 2) rfl) ?_
    refine f_nil ?_
    refine f_bind ?_; intro x19 hx19
    refine f_bind ?_; intro x20 hx20
    refine f_bind ?_; intro x21 hx21
    exact f_ret (.cells Try.underlying47 rfl sz47 rfl (lds_cons (ldI_eq hx19) (lds_cons (ldI_eq hx20) (lds_cons (ldI_eq hx21) (lds_nil)))) (.tmp rfl (.nil))) rfl

/- 78 slices.Clone[[]congou/api.Frac,congou/api.Frac] -/
theorem ok78 : FnOk Try.prog 78 := ⟨⟨Try.f78, Try.func78, by kernel_rfl, rfl⟩⟩
theorem sim78 {a0 : Sl} {H : Hp} {p : Sl × Hp} (h : r78 a0 H = some p) : CallSim Try.prog 78 [.sl a0] H (.sl p.1) p.2 := by
  refine callSim (fn := Try.f78) (ret := ret78) Try.func78 rfl Try.ntmps78 rfl ?_ h
  unfold r78
  refine f_seq ?_
  refine f_region ?_
  refine f_op rfl rfl (s_as (v := .sl ⟨true, 0, 0, 0, 0, 0⟩) rfl) ?_
  refine f_nil ?_
  refine f_seq ?_
  refine f_seq ?_
  refine f_region ?_
  refine f_op rfl rfl (s_mv (v := .sl a0) rfl) ?_
  refine f_op rfl rfl (s_eqNil Try.underlying44 rfl rfl) ?_
  refine f_nil ?_
  refine f_if (fun h1 => ?_) (fun h1 => ?_)
  · skip
    refine f_know 4 rfl (bool_T h1) ?_
    refine f_condT rfl ?_
    refine f_seq ?_
    refine f_region ?_
    refine f_op rfl rfl (s_as (v := .sl ⟨true, 0, 0, 0, 0, 0⟩) rfl) ?_
    refine f_nil ?_
    exact f_ret (.tmp rfl (.nil)) rfl
  · skip
    refine f_know 4 rfl (bool_F h1) ?_
    refine f_condF rfl ?_
    refine f_skip ?_
    refine f_seq ?_
    refine f_region ?_
    refine f_op rfl rfl (s_buildSlice0 Try.underlying44 ty24) ?_
    refine f_op rfl rfl (s_mv (v := .sl a0) rfl) ?_
    refine o_bind ?_; intro x2 hx2
    refine o_ck fun g3 => ?_
    refine o_bind ?_; intro x4 hx4
    refine f_op rfl rfl (s_append rfl rfl Try.underlying44 Try.underlying44 ty24 (by decide) rfl (by decide) rfl rfl hx2 g3 hx4) ?_
    refine f_op rfl rfl (s_as (v := .sl x4.1) rfl) ?_
    refine f_nil ?_
    exact f_ret (.tmp rfl (.nil)) rfl

/- 28 congou/congoulaw02.fracs -/
theorem ok28 : FnOk Try.prog 28 := ⟨⟨Try.f28, Try.func28, by kernel_rfl, rfl⟩⟩
theorem sim28 {a0 : Sl} {H : Hp} {p : Sl × Hp} (h : r28 a0 H = some p) : CallSim Try.prog 28 [.sl a0] H (.sl p.1) p.2 := by
  refine callSim (fn := Try.f28) (ret := ret28) Try.func28 rfl Try.ntmps28 rfl ?_ h
  unfold r28
  refine f_seq ?_
  refine f_region ?_
  refine f_op rfl rfl (s_as (v := .sl ⟨true, 0, 0, 0, 0, 0⟩) rfl) ?_
  refine f_nil ?_
  refine f_seq ?_
  refine f_region ?_
  refine f_op rfl rfl (s_mv (v := .sl a0) rfl) ?_
  refine f_op rfl rfl (s_mv (v := .sl a0) rfl) ?_
  refine f_op rfl rfl (s_lenS rfl Try.underlying44 rfl) ?_
  refine f_op rfl rfl (s_min2 rfl rfl) ?_
  refine o_ck fun g1 => ?_
  refine f_op rfl rfl (s_slice Try.underlying44 ty24 rfl rfl rfl g1.1 g1.2) ?_
  refine o_bind ?_; intro p2 hp2
  refine f_op rfl rfl (s_callF rfl ok78 (sim78 hp2)) ?_
  refine f_op rfl rfl (s_as (v := .sl p2.1) rfl) ?_
  refine f_nil ?_
  exact f_ret (.tmp rfl (.nil)) rfl

/- 32 congou/cuts.Apart -/
theorem ok32 : FnOk Try.prog 32 := ⟨⟨Try.f32, Try.func32, by kernel_rfl, rfl⟩⟩
theorem s32_l0 {app : App} (happ : AppSim Try.prog app) : ∀ (k_ : Nat) (v1 : Nat) (v2 : Nat) (v3 : Sl) (v4 : Int) (v5 : Int) (H : Hp), Fin Try.prog Try.f32 ret32 34 (todoAt (bodyOf Try.f32) [1, 1, 0, 1, 0, 0] []) [(3, .ptr v1 0), (4, .ptr v2 0), (17, .sl v3), (18, .int .i64 v4), (19, .int .i64 v5)] H (r32_l0 app k_ v1 v2 v3 v4 v5 H) := by
  intro k_
  induction k_ with
  | zero => intro _ _ _ _ _ _; exact f_none
  | succ k_ ih =>
    intro v1 v2 v3 v4 v5 H
    rw [r32_l0]
    refine f_seq ?_
    refine f_region ?_
    refine f_op rfl rfl (s_lss rfl rfl) ?_
    refine f_nil ?_
    refine f_seq ?_
    refine f_if (fun h1 => ?_) (fun h1 => ?_)
    · skip
      refine f_know 20 rfl (dec_true h1) ?_
      refine f_condT rfl ?_
      refine f_skip ?_
      refine f_seq ?_
      refine f_block ?_
      refine f_seq ?_
      refine f_region ?_
      refine o_ck fun g2 => ?_
      refine f_op rfl rfl (s_idx Try.underlying30 ty47 rfl rfl g2) ?_
      refine o_bind ?_; intro x3 hx3
      refine o_bind ?_; intro x4 hx4
      refine o_bind ?_; intro x5 hx5
      refine f_op rfl rfl (s_loads Try.underlying47 rfl ty47 rfl (lds_cons (ldI_eq hx3) (lds_cons (ldI_eq hx4) (lds_cons (ldI_eq hx5) (lds_nil))))) ?_
      refine f_op rfl rfl (s_alloc (zs := [.int .i64 0, .int .i64 0, .int .i64 0]) ty47 rfl rfl) ?_
      refine o_bind ?_; intro H6 hH6
      refine f_op rfl rfl (s_stores ty47 rfl rfl rfl rfl hH6 (Nat.le_of_eq (sts_mono hH6).symm)) ?_
      refine f_nil ?_
      refine f_seq ?_
      refine f_bind ?_; intro x7 hx7
      refine f_bind ?_; intro x8 hx8
      refine f_bind ?_; intro x9 hx9
      refine f_bind ?_; intro x10 hx10
      refine f_bind ?_; intro x11 hx11
      refine f_bind ?_; intro p12 hp12
      refine f_bind ?_; intro p13 hp13
      refine f_draw (Φ := fun _ => True) (lim := 1000000) [1, 0, 1, 0, 1, 0, 0, 0] (Trc.read rfl rfl rfl (s_loads Try.underlying47 rfl ty47 rfl (lds_cons (ldI_eq hx7) (lds_cons (ldI_eq hx8) (lds_cons (ldI_eq hx9) (lds_nil))))) (Trc.pure rfl rfl rfl (.inl fun _ => s_idxA Try.underlying43 ty3 rfl rfl (by decide)) (Trc.read rfl rfl rfl (s_load Try.underlying3 rfl rfl (ldI_eq hx10)) (Trc.pure rfl rfl rfl (.inl fun _ => s_idxA Try.underlying43 ty3 rfl rfl (by decide)) (Trc.read rfl rfl rfl (s_load Try.underlying3 rfl rfl (ldI_eq hx11)) (Trc.pure rfl rfl rfl (.inl fun _ => s_callO rfl ok80 (sim80 hp12) rfl rfl) (Trc.pure rfl rfl rfl (.inl fun _ => s_callO rfl ok70 (sim70 hp13) rfl rfl) (Trc.pure rfl rfl rfl (.inl fun _ => s_not rfl) (Trc.nil (fun _ => trivial)))))))))) rfl (by decide +kernel) mixed ?_
      refine f_if (fun h14 => ?_) (fun h14 => ?_)
      · skip
        refine f_know 30 rfl (bool_notT h14) ?_
        refine f_condF rfl ?_
        refine f_skip ?_
        refine f_inBlock ?_
        refine f_region ?_
        refine f_op rfl rfl (s_add rfl rfl) ?_
        refine f_op rfl rfl (s_mv (v := .int .i64 (w64 (v5 + 1))) rfl) ?_
        refine f_nil ?_
        refine f_inLoop ?_
        refine f_keep [3, 4, 17, 18, 19] ?_
        exact ih v1 v2 v3 v4 (w64 (v5 + 1)) H6
      · skip
        refine f_know 30 rfl (bool_notF h14) ?_
        refine f_condT rfl ?_
        refine f_seq ?_
        refine f_region ?_
        refine o_bind ?_; intro x15 hx15
        refine o_bind ?_; intro x16 hx16
        refine o_bind ?_; intro x17 hx17
        refine f_op rfl rfl (s_loads Try.underlying47 rfl ty47 rfl (lds_cons (ldI_eq hx15) (lds_cons (ldI_eq hx16) (lds_cons (ldI_eq hx17) (lds_nil))))) ?_
        refine o_bind ?_; intro H18 hH18
        refine f_op rfl rfl (s_stores ty47 rfl rfl rfl rfl hH18 (Nat.le_of_eq (sts_mono hH18).symm)) ?_
        refine f_op rfl rfl (s_as (v := .int .i64 0) rfl) ?_
        refine f_nil ?_
        refine f_bind ?_; intro x19 hx19
        refine f_bind ?_; intro x20 hx20
        refine f_bind ?_; intro x21 hx21
        exact f_ret (.cells Try.underlying47 rfl sz47 rfl (lds_cons (ldI_eq hx19) (lds_cons (ldI_eq hx20) (lds_cons (ldI_eq hx21) (lds_nil)))) (.tmp rfl (.nil))) rfl
    · skip
      refine f_know 20 rfl (dec_false h1) ?_
      refine f_condF rfl ?_
      refine f_exit rfl ?_
      refine f_seq ?_
      refine f_region ?_
      refine f_op rfl rfl (s_build (cs := [.int .i64 0, .int .i64 0, .int .i64 0]) Try.underlying47 ty47 rfl pl47 rfl) ?_
      refine o_bind ?_; intro H22 hH22
      refine f_op rfl rfl (s_stores ty47 rfl rfl rfl rfl hH22 (Nat.le_of_eq (sts_mono hH22).symm)) ?_
      refine f_op rfl rfl (s_as (v := .int .i64 4) rfl) ?_
      refine f_nil ?_
      refine f_bind ?_; intro x23 hx23
      refine f_bind ?_; intro x24 hx24
      refine f_bind ?_; intro x25 hx25
      exact f_ret (.cells Try.underlying47 rfl sz47 rfl (lds_cons (ldI_eq hx23) (lds_cons (ldI_eq hx24) (lds_cons (ldI_eq hx25) (lds_nil)))) (.tmp rfl (.nil))) rfl

theorem s32_j1 {app : App} (happ : AppSim Try.prog app) (v1 : Sl) (v2 : Nat) (v3 : Nat) (v4 : Bool) (H : Hp) : Fin Try.prog Try.f32 ret32 34 (todoAt (bodyOf Try.f32) [1, 0, 1] []) [(0, .sl v1), (3, .ptr v2 0), (4, .ptr v3 0), (15, .bool v4)] H (r32_j1 app v1 v2 v3 v4 H) := by
  unfold r32_j1
  refine f_if (fun h1 => ?_) (fun h1 => ?_)
  · skip
    refine f_know 15 rfl (bool_T h1) ?_
    refine f_condT rfl ?_
    refine f_seq ?_
    refine f_region ?_
    refine f_op rfl rfl (s_build (cs := [.int .i64 0, .int .i64 0, .int .i64 0]) Try.underlying47 ty47 rfl pl47 rfl) ?_
    refine o_bind ?_; intro H2 hH2
    refine f_op rfl rfl (s_stores ty47 rfl rfl rfl rfl hH2 (Nat.le_of_eq (sts_mono hH2).symm)) ?_
    refine f_op rfl rfl (s_as (v := .int .i64 2) rfl) ?_
    refine f_nil ?_
    refine f_bind ?_; intro x3 hx3
    refine f_bind ?_; intro x4 hx4
    refine f_bind ?_; intro x5 hx5
    exact f_ret (.cells Try.underlying47 rfl sz47 rfl (lds_cons (ldI_eq hx3) (lds_cons (ldI_eq hx4) (lds_cons (ldI_eq hx5) (lds_nil)))) (.tmp rfl (.nil))) rfl
  · skip
    refine f_know 15 rfl (bool_F h1) ?_
    refine f_condF rfl ?_
    refine f_skip ?_
    refine f_seq ?_
    refine f_seq ?_
    refine f_region ?_
    refine f_op rfl rfl (s_mv (v := .sl v1) rfl) ?_
    refine f_op rfl rfl (s_lenS rfl Try.underlying30 rfl) ?_
    refine f_op rfl rfl (s_mv (v := .int .i64 0) rfl) ?_
    refine f_nil ?_
    refine f_block ?_
    refine f_loop ?_
    refine f_keep [3, 4, 17, 18, 19] ?_
    exact s32_l0 happ FUEL v2 v3 v1 (v1.len : Int) 0 H

theorem sim32 {app : App} (happ : AppSim Try.prog app) {a0 : Sl} {a1_0 : Int} {a1_1 : Int} {H : Hp} {p : (Int × Int × Int × Int) × Hp} (h : r32 app a0 a1_0 a1_1 H = some p) : CallSim Try.prog 32 [.sl a0, .agg [.int .i64 a1_0, .int .i64 a1_1]] H (.tup [.agg [.int .i64 p.1.1, .int .i64 p.1.2.1, .int .i64 p.1.2.2.1], .int .i64 p.1.2.2.2]) p.2 := by
  refine callSim (fn := Try.f32) (ret := ret32) Try.func32 rfl Try.ntmps32 rfl ?_ h
  unfold r32
  refine f_seq ?_
  refine f_region ?_
  refine f_op rfl rfl (s_box (v := .agg [.int .i64 a1_0, .int .i64 a1_1]) rfl rfl) ?_
  refine f_op rfl rfl (s_alloc (zs := [.int .i64 0, .int .i64 0, .int .i64 0]) ty47 rfl rfl) ?_
  refine f_op rfl rfl (s_as (v := .int .i64 0) rfl) ?_
  refine o_hp ?_; intro H1 hH1
  refine f_nil ?_
  refine f_seq ?_
  refine f_seq ?_
  refine f_region ?_
  refine f_op rfl rfl (s_mv (v := .sl a0) rfl) ?_
  refine o_bind ?_; intro p2 hp2
  refine f_op rfl rfl (s_callF rfl ok63 (sim63 happ hp2)) ?_
  refine f_op rfl rfl (s_not rfl) ?_
  refine f_op rfl rfl (s_mv (v := .bool (!p2.1)) rfl) ?_
  refine o_if (fun h3 => ?_) (fun h3 => ?_)
  · skip
    refine o_know 11 rfl (bool_notT h3) ?_
    refine f_op rfl rfl (s_sliceA Try.underlying43 ty3 rfl rfl rfl (by decide)) ?_
    refine o_bind ?_; intro p4 hp4
    refine f_op rfl rfl (s_callF rfl ok79 (sim79 happ hp4)) ?_
    refine f_op rfl rfl (s_not rfl) ?_
    refine f_op rfl rfl (s_pickF (v := .bool (!p4.1)) rfl rfl) ?_
    refine f_nil ?_
    refine f_keep [0, 3, 4, 15] ?_
    exact s32_j1 happ a0 H.n ((H.push (.cells [.int .i64 a1_0, .int .i64 a1_1] false)).n) (!p4.1) p4.2
  · skip
    refine o_know 11 rfl (bool_notF h3) ?_
    refine f_no rfl rfl ?_
    refine f_no rfl rfl ?_
    refine f_no rfl rfl ?_
    refine f_op rfl rfl (s_pickT (v := .bool true) rfl rfl) ?_
    refine f_nil ?_
    refine f_keep [0, 3, 4, 15] ?_
    exact s32_j1 happ a0 H.n ((H.push (.cells [.int .i64 a1_0, .int .i64 a1_1] false)).n) true p2.2

/- 41 congou/congoulaw02.whole -/
theorem ok41 : FnOk Try.prog 41 := ⟨⟨Try.f41, Try.func41, by kernel_rfl, rfl⟩⟩
theorem sim41 {a0_0 : Int} {a0_1 : Int} {H : Hp} {p : (Int × Int × Int × Int) × Hp} (h : r41 a0_0 a0_1 H = some p) : CallSim Try.prog 41 [.agg [.int .i64 a0_0, .int .i64 a0_1]] H (.agg [.int .i64 p.1.1, .int .i64 p.1.2.1, .int .i64 p.1.2.2.1, .int .i64 p.1.2.2.2]) p.2 := by
  refine callSim (fn := Try.f41) (ret := ret41) Try.func41 rfl Try.ntmps41 rfl ?_ h
  unfold r41
  refine f_seq ?_
  refine f_region ?_
  refine f_op rfl rfl (s_box (v := .agg [.int .i64 a0_0, .int .i64 a0_1]) rfl rfl) ?_
  refine f_op rfl rfl (s_alloc (zs := [.int .i64 0, .int .i64 0, .int .i64 0, .int .i64 0]) ty32 rfl rfl) ?_
  refine o_hp ?_; intro H1 hH1
  refine f_nil ?_
  refine f_seq ?_
  refine f_region ?_
  refine f_op rfl rfl (s_idxA Try.underlying43 ty3 rfl rfl (by decide)) ?_
  refine o_bind ?_; intro x2 hx2
  refine f_op rfl rfl (s_load Try.underlying3 rfl rfl (ldI_eq hx2)) ?_
  refine f_op rfl rfl (s_build (cs := [.int .i64 x2, .int .i64 1]) Try.underlying24 ty24 rfl pl24 rfl) ?_
  refine f_op rfl rfl (s_idxA Try.underlying43 ty3 rfl rfl (by decide)) ?_
  refine o_bind ?_; intro x3 hx3
  refine f_op rfl rfl (s_load Try.underlying3 rfl rfl (ldI_eq hx3)) ?_
  refine f_op rfl rfl (s_build (cs := [.int .i64 x3, .int .i64 1]) Try.underlying24 ty24 rfl pl24 rfl) ?_
  refine f_op rfl rfl (s_build (cs := [.int .i64 x2, .int .i64 1, .int .i64 x3, .int .i64 1]) Try.underlying32 ty32 rfl pl32 rfl) ?_
  refine o_bind ?_; intro H4 hH4
  refine f_op rfl rfl (s_stores ty32 rfl rfl rfl rfl hH4 (Nat.le_of_eq (sts_mono hH4).symm)) ?_
  refine f_nil ?_
  refine f_bind ?_; intro x5 hx5
  refine f_bind ?_; intro x6 hx6
  refine f_bind ?_; intro x7 hx7
  refine f_bind ?_; intro x8 hx8
  exact f_ret (.cells Try.underlying32 rfl sz32 rfl (lds_cons (ldI_eq hx5) (lds_cons (ldI_eq hx6) (lds_cons (ldI_eq hx7) (lds_cons (ldI_eq hx8) (lds_nil))))) (.nil)) rfl

/- 8 congou/congoulaw02.CutsKeeps -/
theorem ok8 : FnOk Try.prog 8 := ⟨⟨Try.f8, Try.func8, by kernel_rfl, rfl⟩⟩
theorem s8_j1 {app : App} (happ : AppSim Try.prog app) (v1 : Int) (v2 : Bool) (v3 : Int) (v4 : Bool) (H : Hp) : Fin Try.prog Try.f8 ret8 137 (todoAt (bodyOf Try.f8) [1, 1, 1, 1, 1, 1, 1, 1, 0, 1] []) [(8, .int .i64 v1), (12, .bool v2), (14, .int .i64 v3), (115, .bool v4)] H (r8_j1 app v1 v2 v3 v4 H) := by
  unfold r8_j1
  refine f_if (fun h1 => ?_) (fun h1 => ?_)
  · skip
    refine f_know 115 rfl (bool_T h1) ?_
    refine f_condT rfl ?_
    refine f_seq ?_
    refine f_region ?_
    refine f_op rfl rfl (s_mv (v := .int .i64 v1) rfl) ?_
    refine f_op rfl rfl (s_eql rfl rfl) ?_
    refine f_op rfl rfl (s_mv (v := .bool (decide (v1 = 2))) rfl) ?_
    refine o_if (fun h2 => ?_) (fun h2 => ?_)
    · skip
      refine o_know 118 rfl (dec_true h2) ?_
      refine f_op rfl rfl (s_mv (v := .int .i64 v3) rfl) ?_
      refine f_op rfl rfl (s_eql rfl rfl) ?_
      refine f_op rfl rfl (s_pickT (v := .bool (decide (v3 = 2))) rfl rfl) ?_
      refine f_op rfl rfl (s_mv (v := .bool (decide (v3 = 2))) rfl) ?_
      refine o_if (fun h3 => ?_) (fun h3 => ?_)
      · skip
        refine o_know 122 rfl (dec_true h3) ?_
        refine o_bind ?_; intro p4 hp4
        refine o_bind ?_; intro x5 hx5
        refine f_op rfl rfl (s_callA happ rfl hp4) ?_
        refine o_know 123 rfl (asB_eq hx5) ?_
        refine f_op rfl rfl (s_pickT (v := .bool x5) rfl rfl) ?_
        refine f_op rfl rfl (s_as (v := .bool x5) rfl) ?_
        refine f_nil ?_
        exact f_ret (.tmp rfl (.nil)) rfl
      · skip
        refine o_know 122 rfl (dec_false h3) ?_
        refine f_no rfl rfl ?_
        refine f_op rfl rfl (s_pickF (v := .bool false) rfl rfl) ?_
        refine f_op rfl rfl (s_as (v := .bool false) rfl) ?_
        refine f_nil ?_
        exact f_ret (.tmp rfl (.nil)) rfl
    · skip
      refine o_know 118 rfl (dec_false h2) ?_
      refine f_no rfl rfl ?_
      refine f_no rfl rfl ?_
      refine f_op rfl rfl (s_pickF (v := .bool false) rfl rfl) ?_
      refine f_op rfl rfl (s_mv (v := .bool false) rfl) ?_
      refine f_no rfl rfl ?_
      refine f_op rfl rfl (s_pickF (v := .bool false) rfl rfl) ?_
      refine f_op rfl rfl (s_as (v := .bool false) rfl) ?_
      refine f_nil ?_
      exact f_ret (.tmp rfl (.nil)) rfl
  · skip
    refine f_know 115 rfl (bool_F h1) ?_
    refine f_condF rfl ?_
    refine f_skip ?_
    refine f_seq ?_
    refine f_region ?_
    refine f_op rfl rfl (s_mv (v := .bool v2) rfl) ?_
    refine f_op rfl rfl (s_mv (v := .bool v2) rfl) ?_
    refine o_if (fun h6 => ?_) (fun h6 => ?_)
    · skip
      refine o_know 126 rfl (bool_T h6) ?_
      refine f_op rfl rfl (s_mv (v := .int .i64 v1) rfl) ?_
      refine f_op rfl rfl (s_eql rfl rfl) ?_
      refine f_op rfl rfl (s_pickT (v := .bool (decide (v1 = 0))) rfl rfl) ?_
      refine f_op rfl rfl (s_mv (v := .bool (decide (v1 = 0))) rfl) ?_
      refine o_if (fun h7 => ?_) (fun h7 => ?_)
      · skip
        refine o_know 130 rfl (dec_true h7) ?_
        refine f_op rfl rfl (s_mv (v := .int .i64 v3) rfl) ?_
        refine f_op rfl rfl (s_eql rfl rfl) ?_
        refine f_op rfl rfl (s_pickT (v := .bool (decide (v3 = 4))) rfl rfl) ?_
        refine f_op rfl rfl (s_mv (v := .bool (decide (v3 = 4))) rfl) ?_
        refine o_if (fun h8 => ?_) (fun h8 => ?_)
        · skip
          refine o_know 134 rfl (dec_true h8) ?_
          refine o_bind ?_; intro p9 hp9
          refine o_bind ?_; intro x10 hx10
          refine f_op rfl rfl (s_callA happ rfl hp9) ?_
          refine o_know 135 rfl (asB_eq hx10) ?_
          refine f_op rfl rfl (s_pickT (v := .bool x10) rfl rfl) ?_
          refine f_op rfl rfl (s_as (v := .bool x10) rfl) ?_
          refine f_nil ?_
          exact f_ret (.tmp rfl (.nil)) rfl
        · skip
          refine o_know 134 rfl (dec_false h8) ?_
          refine f_no rfl rfl ?_
          refine f_op rfl rfl (s_pickF (v := .bool false) rfl rfl) ?_
          refine f_op rfl rfl (s_as (v := .bool false) rfl) ?_
          refine f_nil ?_
          exact f_ret (.tmp rfl (.nil)) rfl
      · skip
        refine o_know 130 rfl (dec_false h7) ?_
        refine f_no rfl rfl ?_
        refine f_no rfl rfl ?_
        refine f_op rfl rfl (s_pickF (v := .bool false) rfl rfl) ?_
        refine f_op rfl rfl (s_mv (v := .bool false) rfl) ?_
        refine f_no rfl rfl ?_
        refine f_op rfl rfl (s_pickF (v := .bool false) rfl rfl) ?_
        refine f_op rfl rfl (s_as (v := .bool false) rfl) ?_
        refine f_nil ?_
        exact f_ret (.tmp rfl (.nil)) rfl
    · skip
      refine o_know 126 rfl (bool_F h6) ?_
      refine f_no rfl rfl ?_
      refine f_no rfl rfl ?_
      refine f_op rfl rfl (s_pickF (v := .bool false) rfl rfl) ?_
      refine f_op rfl rfl (s_mv (v := .bool false) rfl) ?_
      refine f_no rfl rfl ?_
      refine f_no rfl rfl ?_
      refine f_op rfl rfl (s_pickF (v := .bool false) rfl rfl) ?_
      refine f_op rfl rfl (s_mv (v := .bool false) rfl) ?_
      refine f_no rfl rfl ?_
      refine f_op rfl rfl (s_pickF (v := .bool false) rfl rfl) ?_
      refine f_op rfl rfl (s_as (v := .bool false) rfl) ?_
      refine f_nil ?_
      exact f_ret (.tmp rfl (.nil)) rfl

theorem s8_j2 {app : App} (happ : AppSim Try.prog app) (v1 : Sl) (v2 : Nat) (v3 : Bool) (H : Hp) : Fin Try.prog Try.f8 ret8 137 (todoAt (bodyOf Try.f8) [1, 1, 1, 1, 1, 0, 1, 1, 1, 1] []) [(0, .sl v1), (9, .ptr v2 0), (82, .bool v3)] H (r8_j2 app v1 v2 v3 H) := by
  unfold r8_j2
  refine f_if (fun h1 => ?_) (fun h1 => ?_)
  · skip
    refine f_know 82 rfl (bool_T h1) ?_
    refine f_condT rfl ?_
    refine f_seq ?_
    refine f_region ?_
    refine f_op rfl rfl (s_as (v := .bool false) rfl) ?_
    refine f_nil ?_
    exact f_ret (.tmp rfl (.nil)) rfl
  · skip
    refine f_know 82 rfl (bool_F h1) ?_
    refine f_condF rfl ?_
    refine f_skip ?_
    refine f_seq ?_
    refine f_bind ?_; intro p2 hp2
    refine f_bind ?_; intro x3 hx3
    refine f_bind ?_; intro x4 hx4
    refine f_bind ?_; intro p5 hp5
    refine f_bind ?_; intro p6 hp6
    refine f_ck fun g7 => ?_
    refine f_ck fun g8 => ?_
    refine f_draw (Φ := fun H_ => H_.ld v2 0 = some (.int .i64 x3) ∧ H_.ld v2 (0 + 1) = some (.int .i64 x4)) (lim := 4) [0, 2, 0, 0, 2, 0, 0, 0, 0, 0] (Trc.pure rfl rfl rfl (.inl fun _ => s_mv (v := .sl v1) rfl) (Trc.eff rfl rfl rfl (fun _ => ⟨ldI_eq g7, ldI_eq g8⟩) (s_callF rfl ok18 (sim18 hp2)) (Trc.pure rfl rfl rfl (.inr ⟨by decide +kernel, fun _ hp_ => s_loads Try.underlying43 rfl ty43 rfl (lds_cons hp_.1 (lds_cons hp_.2 (lds_nil)))⟩) (Trc.pure rfl rfl rfl (.inl fun _ => s_callO rfl ok41 (sim41 hp5) rfl rfl) (Trc.eff rfl rfl rfl (fun _ => ⟨ldI_eq hx3, ldI_eq hx4⟩) (s_callF rfl ok17 (sim17 happ hp6)) (Trc.pure rfl rfl rfl (.inl fun _ => s_mv (v := .tup [.bool p6.1.1, .int .i64 p6.1.2]) rfl) (Trc.pure rfl rfl rfl (.inl fun _ => s_extract (r := .bool p6.1.1) rfl rfl) (Trc.pure rfl rfl rfl (.inl fun _ => s_extract (r := .int .i64 p6.1.2) rfl rfl) (Trc.pure rfl rfl rfl (.inl fun _ => s_as (v := .bool p6.1.1) rfl) (Trc.pure rfl rfl rfl (.inl fun _ => s_as (v := .int .i64 p6.1.2) rfl) (Trc.nil (fun h_ => absurd h_ (by decide +kernel))))))))))))) rfl (by decide +kernel) mixed ?_
    refine f_seq ?_
    refine f_bind ?_; intro p9 hp9
    refine f_bind ?_; intro x10 hx10
    refine f_bind ?_; intro x11 hx11
    refine f_bind ?_; intro p12 hp12
    refine f_bind ?_; intro H13 hH13
    refine f_ck fun g14 => ?_
    refine f_ck fun g15 => ?_
    refine f_drawF (Φ := fun H_ => H_.ld v2 0 = some (.int .i64 x10) ∧ H_.ld v2 (0 + 1) = some (.int .i64 x11)) (lim := 3) [0, 2, 0, 2, 0, 0, 0, 2, 2, 0] [false, false, false, false, false, false, false, true, false, false] 7 8 (Trc.pure rfl rfl rfl (.inl fun _ => s_mv (v := .sl v1) rfl) (Trc.eff rfl rfl rfl (fun _ => ⟨ldI_eq g14, ldI_eq g15⟩) (s_callF rfl ok18 (sim18 hp9)) (Trc.pure rfl rfl rfl (.inr ⟨by decide +kernel, fun _ hp_ => s_loads Try.underlying43 rfl ty43 rfl (lds_cons hp_.1 (lds_cons hp_.2 (lds_nil)))⟩) (Trc.eff rfl rfl rfl (fun _ => ⟨ldI_eq hx10, ldI_eq hx11⟩) (s_callF rfl ok32 (sim32 happ hp12)) (Trc.pure rfl rfl rfl (.inl fun _ => s_mv (v := .tup [.agg [.int .i64 p12.1.1, .int .i64 p12.1.2.1, .int .i64 p12.1.2.2.1], .int .i64 p12.1.2.2.2]) rfl) (Trc.pure rfl rfl rfl (.inl fun _ => s_extract (r := .agg [.int .i64 p12.1.1, .int .i64 p12.1.2.1, .int .i64 p12.1.2.2.1]) rfl rfl) (Trc.pure rfl rfl rfl (.inl fun _ => s_extract (r := .int .i64 p12.1.2.2.2) rfl rfl) (Trc.fl .p rfl rfl rfl (fun h_ => absurd h_ (by decide +kernel)) rfl (by rfl) (fun _ => s_alloc (zs := [.int .i64 0, .int .i64 0, .int .i64 0]) ty47 rfl rfl) (Trc.eff rfl rfl rfl (fun h_ => absurd h_ (by decide +kernel)) (s_stores ty47 rfl rfl rfl rfl hH13 (Nat.le_of_eq (sts_mono hH13).symm)) (Trc.pure rfl rfl rfl (.inl fun _ => s_as (v := .int .i64 p12.1.2.2.2) rfl) (Trc.nil (fun h_ => absurd h_ (by decide +kernel))))))))))))) rfl rfl (by decide +kernel) mixed ?_
    refine f_seq ?_
    refine f_seq ?_
    refine f_region ?_
    refine f_op rfl rfl (s_idxA Try.underlying43 ty3 rfl rfl (by decide)) ?_
    refine o_bind ?_; intro x16 hx16
    refine f_op rfl rfl (s_load Try.underlying3 rfl rfl (ldI_eq hx16)) ?_
    refine f_op rfl rfl (s_lss rfl rfl) ?_
    refine f_op rfl rfl (s_mv (v := .bool (decide (x16 < (-100)))) rfl) ?_
    refine o_if (fun h17 => ?_) (fun h17 => ?_)
    · skip
      refine o_know 101 rfl (dec_true h17) ?_
      refine f_no rfl rfl ?_
      refine f_no rfl rfl ?_
      refine f_no rfl rfl ?_
      refine f_op rfl rfl (s_pickT (v := .bool true) rfl rfl) ?_
      refine f_op rfl rfl (s_mv (v := .bool true) rfl) ?_
      refine f_no rfl rfl ?_
      refine f_no rfl rfl ?_
      refine f_no rfl rfl ?_
      refine f_op rfl rfl (s_pickT (v := .bool true) rfl rfl) ?_
      refine f_op rfl rfl (s_mv (v := .bool true) rfl) ?_
      refine f_no rfl rfl ?_
      refine f_no rfl rfl ?_
      refine f_no rfl rfl ?_
      refine f_op rfl rfl (s_pickT (v := .bool true) rfl rfl) ?_
      refine f_nil ?_
      refine f_keep [8, 12, 14, 115] ?_
      exact s8_j1 happ p6.1.2 p6.1.1 p12.1.2.2.2 true H13
    · skip
      refine o_know 101 rfl (dec_false h17) ?_
      refine f_op rfl rfl (s_idxA Try.underlying43 ty3 rfl rfl (by decide)) ?_
      refine o_bind ?_; intro x18 hx18
      refine f_op rfl rfl (s_load Try.underlying3 rfl rfl (ldI_eq hx18)) ?_
      refine f_op rfl rfl (s_gtr rfl rfl) ?_
      refine f_op rfl rfl (s_pickF (v := .bool (decide (100 < x18))) rfl rfl) ?_
      refine f_op rfl rfl (s_mv (v := .bool (decide (100 < x18))) rfl) ?_
      refine o_if (fun h19 => ?_) (fun h19 => ?_)
      · skip
        refine o_know 106 rfl (dec_true h19) ?_
        refine f_no rfl rfl ?_
        refine f_no rfl rfl ?_
        refine f_no rfl rfl ?_
        refine f_op rfl rfl (s_pickT (v := .bool true) rfl rfl) ?_
        refine f_op rfl rfl (s_mv (v := .bool true) rfl) ?_
        refine f_no rfl rfl ?_
        refine f_no rfl rfl ?_
        refine f_no rfl rfl ?_
        refine f_op rfl rfl (s_pickT (v := .bool true) rfl rfl) ?_
        refine f_nil ?_
        refine f_keep [8, 12, 14, 115] ?_
        exact s8_j1 happ p6.1.2 p6.1.1 p12.1.2.2.2 true H13
      · skip
        refine o_know 106 rfl (dec_false h19) ?_
        refine f_op rfl rfl (s_idxA Try.underlying43 ty3 rfl rfl (by decide)) ?_
        refine o_bind ?_; intro x20 hx20
        refine f_op rfl rfl (s_load Try.underlying3 rfl rfl (ldI_eq hx20)) ?_
        refine f_op rfl rfl (s_lss rfl rfl) ?_
        refine f_op rfl rfl (s_pickF (v := .bool (decide (x20 < (-100)))) rfl rfl) ?_
        refine f_op rfl rfl (s_mv (v := .bool (decide (x20 < (-100)))) rfl) ?_
        refine o_if (fun h21 => ?_) (fun h21 => ?_)
        · skip
          refine o_know 111 rfl (dec_true h21) ?_
          refine f_no rfl rfl ?_
          refine f_no rfl rfl ?_
          refine f_no rfl rfl ?_
          refine f_op rfl rfl (s_pickT (v := .bool true) rfl rfl) ?_
          refine f_nil ?_
          refine f_keep [8, 12, 14, 115] ?_
          exact s8_j1 happ p6.1.2 p6.1.1 p12.1.2.2.2 true H13
        · skip
          refine o_know 111 rfl (dec_false h21) ?_
          refine f_op rfl rfl (s_idxA Try.underlying43 ty3 rfl rfl (by decide)) ?_
          refine o_bind ?_; intro x22 hx22
          refine f_op rfl rfl (s_load Try.underlying3 rfl rfl (ldI_eq hx22)) ?_
          refine f_op rfl rfl (s_gtr rfl rfl) ?_
          refine f_op rfl rfl (s_pickF (v := .bool (decide (100 < x22))) rfl rfl) ?_
          refine f_nil ?_
          refine f_keep [8, 12, 14, 115] ?_
          exact s8_j1 happ p6.1.2 p6.1.1 p12.1.2.2.2 (decide (100 < x22)) H13

theorem s8_j3 {app : App} (happ : AppSim Try.prog app) (v1 : Sl) (v2 : Nat) (v3 : Int) (v4 : Bool) (H : Hp) : Fin Try.prog Try.f8 ret8 137 (todoAt (bodyOf Try.f8) [1, 1, 1, 1, 1, 0, 1, 1] []) [(0, .sl v1), (9, .ptr v2 0), (11, .int .i64 v3), (72, .bool v4)] H (r8_j3 app v1 v2 v3 v4 H) := by
  unfold r8_j3
  refine f_if (fun h1 => ?_) (fun h1 => ?_)
  · skip
    refine f_know 72 rfl (bool_T h1) ?_
    refine f_condT rfl ?_
    refine f_seq ?_
    refine f_region ?_
    refine f_op rfl rfl (s_as (v := .bool false) rfl) ?_
    refine f_nil ?_
    exact f_ret (.tmp rfl (.nil)) rfl
  · skip
    refine f_know 72 rfl (bool_F h1) ?_
    refine f_condF rfl ?_
    refine f_seq ?_
    refine f_region ?_
    refine f_op rfl rfl (s_mv (v := .int .i64 v3) rfl) ?_
    refine f_op rfl rfl (s_neq rfl rfl) ?_
    refine f_op rfl rfl (s_mv (v := .bool (decide (v3 ≠ 0))) rfl) ?_
    refine o_if (fun h2 => ?_) (fun h2 => ?_)
    · skip
      refine o_know 75 rfl (dec_true h2) ?_
      refine f_op rfl rfl (s_mv (v := .int .i64 v3) rfl) ?_
      refine f_op rfl rfl (s_neq rfl rfl) ?_
      refine f_op rfl rfl (s_pickT (v := .bool (decide (v3 ≠ 4))) rfl rfl) ?_
      refine f_op rfl rfl (s_mv (v := .bool (decide (v3 ≠ 4))) rfl) ?_
      refine o_if (fun h3 => ?_) (fun h3 => ?_)
      · skip
        refine o_know 79 rfl (dec_true h3) ?_
        refine f_op rfl rfl (s_mv (v := .int .i64 v3) rfl) ?_
        refine f_op rfl rfl (s_neq rfl rfl) ?_
        refine f_op rfl rfl (s_pickT (v := .bool (decide (v3 ≠ 2))) rfl rfl) ?_
        refine f_nil ?_
        refine f_keep [0, 9, 82] ?_
        exact s8_j2 happ v1 v2 (decide (v3 ≠ 2)) H
      · skip
        refine o_know 79 rfl (dec_false h3) ?_
        refine f_no rfl rfl ?_
        refine f_no rfl rfl ?_
        refine f_op rfl rfl (s_pickF (v := .bool false) rfl rfl) ?_
        refine f_nil ?_
        refine f_keep [0, 9, 82] ?_
        exact s8_j2 happ v1 v2 false H
    · skip
      refine o_know 75 rfl (dec_false h2) ?_
      refine f_no rfl rfl ?_
      refine f_no rfl rfl ?_
      refine f_op rfl rfl (s_pickF (v := .bool false) rfl rfl) ?_
      refine f_op rfl rfl (s_mv (v := .bool false) rfl) ?_
      refine f_no rfl rfl ?_
      refine f_no rfl rfl ?_
      refine f_op rfl rfl (s_pickF (v := .bool false) rfl rfl) ?_
      refine f_nil ?_
      refine f_keep [0, 9, 82] ?_
      exact s8_j2 happ v1 v2 false H

theorem s8_j0 {app : App} (happ : AppSim Try.prog app) (v1 : Sl) (v2 : Sl) (v3 : Int) (v4 : Sl) (v5 : Int) (v6 : Bool) (H : Hp) : Fin Try.prog Try.f8 ret8 137 (todoAt (bodyOf Try.f8) [1, 1, 0, 1] []) [(0, .sl v1), (1, .sl v2), (2, .int .i64 v3), (7, .sl v4), (8, .int .i64 v5), (27, .bool v6)] H (r8_j0 app v1 v2 v3 v4 v5 v6 H) := by
  unfold r8_j0
  refine f_if (fun h1 => ?_) (fun h1 => ?_)
  · skip
    refine f_know 27 rfl (bool_T h1) ?_
    refine f_condT rfl ?_
    refine f_seq ?_
    refine f_region ?_
    refine f_op rfl rfl (s_mv (v := .int .i64 v5) rfl) ?_
    refine f_op rfl rfl (s_eql rfl rfl) ?_
    refine f_op rfl rfl (s_mv (v := .bool (decide (v5 = 2))) rfl) ?_
    refine o_if (fun h2 => ?_) (fun h2 => ?_)
    · skip
      refine o_know 30 rfl (dec_true h2) ?_
      refine o_bind ?_; intro p3 hp3
      refine o_bind ?_; intro x4 hx4
      refine f_op rfl rfl (s_callA happ rfl hp3) ?_
      refine o_know 31 rfl (asB_eq hx4) ?_
      refine f_op rfl rfl (s_pickT (v := .bool x4) rfl rfl) ?_
      refine f_op rfl rfl (s_as (v := .bool x4) rfl) ?_
      refine f_nil ?_
      exact f_ret (.tmp rfl (.nil)) rfl
    · skip
      refine o_know 30 rfl (dec_false h2) ?_
      refine f_no rfl rfl ?_
      refine f_op rfl rfl (s_pickF (v := .bool false) rfl rfl) ?_
      refine f_op rfl rfl (s_as (v := .bool false) rfl) ?_
      refine f_nil ?_
      exact f_ret (.tmp rfl (.nil)) rfl
  · skip
    refine f_know 27 rfl (bool_F h1) ?_
    refine f_condF rfl ?_
    refine f_skip ?_
    refine f_seq ?_
    refine f_seq ?_
    refine f_region ?_
    refine f_op rfl rfl (s_mv (v := .sl v4) rfl) ?_
    refine f_op rfl rfl (s_lenS rfl Try.underlying37 rfl) ?_
    refine f_op rfl rfl (s_eql rfl rfl) ?_
    refine f_nil ?_
    refine f_if (fun h5 => ?_) (fun h5 => ?_)
    · skip
      refine f_know 35 rfl (dec_true h5) ?_
      refine f_condT rfl ?_
      refine f_seq ?_
      refine f_region ?_
      refine o_bind ?_; intro p6 hp6
      refine o_bind ?_; intro x7 hx7
      refine f_op rfl rfl (s_callA happ rfl hp6) ?_
      refine o_know 36 rfl (asB_eq hx7) ?_
      refine f_op rfl rfl (s_as (v := .bool x7) rfl) ?_
      refine f_nil ?_
      exact f_ret (.tmp rfl (.nil)) rfl
    · skip
      refine f_know 35 rfl (dec_false h5) ?_
      refine f_condF rfl ?_
      refine f_skip ?_
      refine f_seq ?_
      refine f_region ?_
      refine f_op rfl rfl (s_mv (v := .sl v4) rfl) ?_
      refine f_op rfl rfl (s_mv (v := .int .i64 v3) rfl) ?_
      refine f_op rfl rfl (s_convInt Try.underlying3 Try.underlying67 rfl) ?_
      refine f_op rfl rfl (s_mv (v := .sl v4) rfl) ?_
      refine f_op rfl rfl (s_lenS rfl Try.underlying37 rfl) ?_
      refine f_op rfl rfl (s_convInt Try.underlying3 Try.underlying67 rfl) ?_
      refine o_ck fun g8 => ?_
      refine f_op rfl rfl (s_rem rfl rfl g8) ?_
      refine f_op rfl rfl (s_convInt Try.underlying67 Try.underlying3 rfl) ?_
      refine o_ck fun g9 => ?_
      refine f_op rfl rfl (s_idx Try.underlying37 ty43 rfl rfl g9) ?_
      refine o_bind ?_; intro x10 hx10
      refine o_bind ?_; intro x11 hx11
      refine f_op rfl rfl (s_loads Try.underlying43 rfl ty43 rfl (lds_cons (ldI_eq hx10) (lds_cons (ldI_eq hx11) (lds_nil)))) ?_
      refine f_op rfl rfl (s_alloc (zs := [.int .i64 0, .int .i64 0]) ty43 rfl rfl) ?_
      refine o_bind ?_; intro H12 hH12
      refine f_op rfl rfl (s_stores ty43 rfl rfl rfl rfl hH12 (Nat.le_of_eq (sts_mono hH12).symm)) ?_
      refine f_nil ?_
      refine f_seq ?_
      refine f_seq ?_
      refine f_region ?_
      refine f_op rfl rfl (s_mv (v := .sl v1) rfl) ?_
      refine o_bind ?_; intro p13 hp13
      refine f_op rfl rfl (s_callF rfl ok18 (sim18 hp13)) ?_
      refine f_op rfl rfl (s_mv (v := .sl v2) rfl) ?_
      refine o_bind ?_; intro p14 hp14
      refine f_op rfl rfl (s_callF rfl ok28 (sim28 hp14)) ?_
      refine o_bind ?_; intro p15 hp15
      refine f_op rfl rfl (s_callF rfl ok27 (sim27 happ hp15)) ?_
      refine f_op rfl rfl (s_mv (v := .tup [.agg [.int .i64 p15.1.1, .int .i64 p15.1.2.1, .int .i64 p15.1.2.2.1], .int .i64 p15.1.2.2.2]) rfl) ?_
      refine f_op rfl rfl (s_extract (r := .agg [.int .i64 p15.1.1, .int .i64 p15.1.2.1, .int .i64 p15.1.2.2.1]) rfl rfl) ?_
      refine f_op rfl rfl (s_extract (r := .int .i64 p15.1.2.2.2) rfl rfl) ?_
      refine f_op rfl rfl (s_alloc (zs := [.int .i64 0, .int .i64 0, .int .i64 0]) ty47 rfl rfl) ?_
      refine o_bind ?_; intro H16 hH16
      refine f_op rfl rfl (s_stores ty47 rfl rfl rfl rfl hH16 (Nat.le_of_eq (sts_mono hH16).symm)) ?_
      refine f_op rfl rfl (s_as (v := .int .i64 p15.1.2.2.2) rfl) ?_
      refine f_nil ?_
      refine f_seq ?_
      refine f_region ?_
      refine f_op rfl rfl (s_mv (v := .int .i64 p15.1.2.2.2) rfl) ?_
      refine f_op rfl rfl (s_eql rfl rfl) ?_
      refine f_op rfl rfl (s_mv (v := .bool (decide (p15.1.2.2.2 = 0))) rfl) ?_
      refine o_if (fun h17 => ?_) (fun h17 => ?_)
      · skip
        refine o_know 57 rfl (dec_true h17) ?_
        refine f_op rfl rfl (s_fieldAddr Try.underlying47 rfl ty3 rfl) ?_
        refine o_bind ?_; intro x18 hx18
        refine f_op rfl rfl (s_load Try.underlying3 rfl rfl (ldI_eq hx18)) ?_
        refine f_op rfl rfl (s_idxA Try.underlying43 ty3 rfl rfl (by decide)) ?_
        refine o_bind ?_; intro x19 hx19
        refine f_op rfl rfl (s_load Try.underlying3 rfl rfl (ldI_eq hx19)) ?_
        refine f_op rfl rfl (s_mul rfl rfl) ?_
        refine f_op rfl rfl (s_fieldAddr Try.underlying47 rfl ty3 rfl) ?_
        refine o_bind ?_; intro x20 hx20
        refine f_op rfl rfl (s_load Try.underlying3 rfl rfl (ldI_eq hx20)) ?_
        refine f_op rfl rfl (s_idxA Try.underlying43 ty3 rfl rfl (by decide)) ?_
        refine o_bind ?_; intro x21 hx21
        refine f_op rfl rfl (s_load Try.underlying3 rfl rfl (ldI_eq hx21)) ?_
        refine f_op rfl rfl (s_mul rfl rfl) ?_
        refine f_op rfl rfl (s_add rfl rfl) ?_
        refine f_op rfl rfl (s_fieldAddr Try.underlying47 rfl ty3 rfl) ?_
        refine o_bind ?_; intro x22 hx22
        refine f_op rfl rfl (s_load Try.underlying3 rfl rfl (ldI_eq hx22)) ?_
        refine f_op rfl rfl (s_gtr rfl rfl) ?_
        refine f_op rfl rfl (s_pickT (v := .bool (decide (x22 < (w64 ((w64 (x18 * x19)) + (w64 (x20 * x21))))))) rfl rfl) ?_
        refine f_nil ?_
        refine f_keep [0, 9, 11, 72] ?_
        exact s8_j3 happ v1 H.n p15.1.2.2.2 (decide (x22 < (w64 ((w64 (x18 * x19)) + (w64 (x20 * x21)))))) H16
      · skip
        refine o_know 57 rfl (dec_false h17) ?_
        refine f_no rfl rfl ?_
        refine f_no rfl rfl ?_
        refine f_no rfl rfl ?_
        refine f_no rfl rfl ?_
        refine f_no rfl rfl ?_
        refine f_no rfl rfl ?_
        refine f_no rfl rfl ?_
        refine f_no rfl rfl ?_
        refine f_no rfl rfl ?_
        refine f_no rfl rfl ?_
        refine f_no rfl rfl ?_
        refine f_no rfl rfl ?_
        refine f_no rfl rfl ?_
        refine f_no rfl rfl ?_
        refine f_op rfl rfl (s_pickF (v := .bool false) rfl rfl) ?_
        refine f_nil ?_
        refine f_keep [0, 9, 11, 72] ?_
        exact s8_j3 happ v1 H.n p15.1.2.2.2 false H16

theorem sim8 {app : App} (happ : AppSim Try.prog app) {a0 : Sl} {a1 : Sl} {a2 : Int} {H : Hp} {p : Bool × Hp} (h : r8 app a0 a1 a2 H = some p) : CallSim Try.prog 8 [.sl a0, .sl a1, .int .i64 a2] H (.bool p.1) p.2 := by
  refine callSim (fn := Try.f8) (ret := ret8) Try.func8 rfl Try.ntmps8 rfl ?_ h
  unfold r8
  refine f_seq ?_
  refine f_region ?_
  refine f_op rfl rfl (s_as (v := .bool false) rfl) ?_
  refine f_nil ?_
  refine f_seq ?_
  refine f_region ?_
  refine f_op rfl rfl (s_mv (v := .sl a0) rfl) ?_
  refine o_bind ?_; intro p1 hp1
  refine f_op rfl rfl (s_callF rfl ok18 (sim18 hp1)) ?_
  refine o_bind ?_; intro p2 hp2
  refine f_op rfl rfl (s_callF rfl ok40 (sim40 happ hp2)) ?_
  refine f_op rfl rfl (s_mv (v := .tup [.sl p2.1.1, .int .i64 p2.1.2]) rfl) ?_
  refine f_op rfl rfl (s_extract (r := .sl p2.1.1) rfl rfl) ?_
  refine f_op rfl rfl (s_extract (r := .int .i64 p2.1.2) rfl rfl) ?_
  refine f_op rfl rfl (s_as (v := .sl p2.1.1) rfl) ?_
  refine f_op rfl rfl (s_as (v := .int .i64 p2.1.2) rfl) ?_
  refine f_nil ?_
  refine f_seq ?_
  refine f_seq ?_
  refine f_region ?_
  refine f_op rfl rfl (s_mv (v := .int .i64 p2.1.2) rfl) ?_
  refine f_op rfl rfl (s_neq rfl rfl) ?_
  refine f_op rfl rfl (s_mv (v := .bool (decide (p2.1.2 ≠ 0))) rfl) ?_
  refine o_if (fun h3 => ?_) (fun h3 => ?_)
  · skip
    refine o_know 23 rfl (dec_true h3) ?_
    refine f_no rfl rfl ?_
    refine f_no rfl rfl ?_
    refine f_no rfl rfl ?_
    refine f_op rfl rfl (s_pickT (v := .bool true) rfl rfl) ?_
    refine f_nil ?_
    refine f_keep [0, 1, 2, 7, 8, 27] ?_
    exact s8_j0 happ a0 a1 a2 p2.1.1 p2.1.2 true p2.2
  · skip
    refine o_know 23 rfl (dec_false h3) ?_
    refine f_op rfl rfl (s_mv (v := .sl a0) rfl) ?_
    refine o_bind ?_; intro p4 hp4
    refine f_op rfl rfl (s_callF rfl ok19 (sim19 hp4)) ?_
    refine f_op rfl rfl (s_not rfl) ?_
    refine f_op rfl rfl (s_pickF (v := .bool (!p4.1)) rfl rfl) ?_
    refine f_nil ?_
    refine f_keep [0, 1, 2, 7, 8, 27] ?_
    exact s8_j0 happ a0 a1 a2 p2.1.1 p2.1.2 (!p4.1) p4.2

/- 97 congou/cuts.cross -/
theorem ok97 : FnOk Try.prog 97 := ⟨⟨Try.f97, Try.func97, by kernel_rfl, rfl⟩⟩
theorem sim97 {a0 : Int} {a1 : Int} {a2 : Int} {a3 : Int} {H : Hp} {p : Int × Hp} (h : r97 a0 a1 a2 a3 H = some p) : CallSim Try.prog 97 [.int .i64 a0, .int .i64 a1, .int .i64 a2, .int .i64 a3] H (.int .i64 p.1) p.2 := by
  refine callSim (fn := Try.f97) (ret := ret97) Try.func97 rfl Try.ntmps97 rfl ?_ h
  unfold r97
  refine f_seq ?_
  refine f_region ?_
  refine f_op rfl rfl (s_as (v := .int .i64 0) rfl) ?_
  refine f_nil ?_
  refine f_seq ?_
  refine f_region ?_
  refine f_op rfl rfl (s_mv (v := .int .i64 a0) rfl) ?_
  refine f_op rfl rfl (s_mv (v := .int .i64 a3) rfl) ?_
  refine f_op rfl rfl (s_mul rfl rfl) ?_
  refine f_op rfl rfl (s_mv (v := .int .i64 a1) rfl) ?_
  refine f_op rfl rfl (s_mv (v := .int .i64 a2) rfl) ?_
  refine f_op rfl rfl (s_mul rfl rfl) ?_
  refine f_op rfl rfl (s_sub rfl rfl) ?_
  refine f_op rfl rfl (s_as (v := .int .i64 (w64 ((w64 (a0 * a3)) - (w64 (a1 * a2))))) rfl) ?_
  refine f_nil ?_
  exact f_ret (.tmp rfl (.nil)) rfl

/- 96 (congou/cuts.Side).meet -/
theorem ok96 : FnOk Try.prog 96 := ⟨⟨Try.f96, Try.func96, by kernel_rfl, rfl⟩⟩
theorem sim96 {a0_0 : Int} {a0_1 : Int} {a0_2 : Int} {a1_0 : Int} {a1_1 : Int} {a1_2 : Int} {H : Hp} {p : (Int × Int × Int × Int × Bool) × Hp} (h : r96 a0_0 a0_1 a0_2 a1_0 a1_1 a1_2 H = some p) : CallSim Try.prog 96 [.agg [.int .i64 a0_0, .int .i64 a0_1, .int .i64 a0_2], .agg [.int .i64 a1_0, .int .i64 a1_1, .int .i64 a1_2]] H (.tup [.agg [.int .i64 p.1.1, .int .i64 p.1.2.1, .int .i64 p.1.2.2.1, .int .i64 p.1.2.2.2.1], .bool p.1.2.2.2.2]) p.2 := by
  refine callSim (fn := Try.f96) (ret := ret96) Try.func96 rfl Try.ntmps96 rfl ?_ h
  unfold r96
  refine f_seq ?_
  refine f_region ?_
  refine f_op rfl rfl (s_box (v := .agg [.int .i64 a0_0, .int .i64 a0_1, .int .i64 a0_2]) rfl rfl) ?_
  refine f_op rfl rfl (s_box (v := .agg [.int .i64 a1_0, .int .i64 a1_1, .int .i64 a1_2]) rfl rfl) ?_
  refine f_op rfl rfl (s_alloc (zs := [.int .i64 0, .int .i64 0, .int .i64 0, .int .i64 0]) ty32 rfl rfl) ?_
  refine f_op rfl rfl (s_as (v := .bool false) rfl) ?_
  refine o_hp ?_; intro H1 hH1
  refine f_nil ?_
  refine f_seq ?_
  refine f_region ?_
  refine f_op rfl rfl (s_fieldAddr Try.underlying47 rfl ty3 rfl) ?_
  refine o_bind ?_; intro x2 hx2
  refine f_op rfl rfl (s_load Try.underlying3 rfl rfl (ldI_eq hx2)) ?_
  refine f_op rfl rfl (s_fieldAddr Try.underlying47 rfl ty3 rfl) ?_
  refine o_bind ?_; intro x3 hx3
  refine f_op rfl rfl (s_load Try.underlying3 rfl rfl (ldI_eq hx3)) ?_
  refine f_op rfl rfl (s_fieldAddr Try.underlying47 rfl ty3 rfl) ?_
  refine o_bind ?_; intro x4 hx4
  refine f_op rfl rfl (s_load Try.underlying3 rfl rfl (ldI_eq hx4)) ?_
  refine f_op rfl rfl (s_fieldAddr Try.underlying47 rfl ty3 rfl) ?_
  refine o_bind ?_; intro x5 hx5
  refine f_op rfl rfl (s_load Try.underlying3 rfl rfl (ldI_eq hx5)) ?_
  refine o_bind ?_; intro p6 hp6
  refine f_op rfl rfl (s_callO rfl ok97 (sim97 hp6) rfl rfl) ?_
  refine f_op rfl rfl (s_as (v := .int .i64 p6.1) rfl) ?_
  refine f_nil ?_
  refine f_seq ?_
  refine f_seq ?_
  refine f_region ?_
  refine f_op rfl rfl (s_mv (v := .int .i64 p6.1) rfl) ?_
  refine f_op rfl rfl (s_eql rfl rfl) ?_
  refine f_nil ?_
  refine f_if (fun h7 => ?_) (fun h7 => ?_)
  · skip
    refine f_know 17 rfl (dec_true h7) ?_
    refine f_condT rfl ?_
    refine f_seq ?_
    refine f_region ?_
    refine f_op rfl rfl (s_build (cs := [.int .i64 0, .int .i64 0, .int .i64 0, .int .i64 0]) Try.underlying32 ty32 rfl pl32 rfl) ?_
    refine o_bind ?_; intro H8 hH8
    refine f_op rfl rfl (s_stores ty32 rfl rfl rfl rfl hH8 (Nat.le_of_eq (sts_mono hH8).symm)) ?_
    refine f_op rfl rfl (s_as (v := .bool false) rfl) ?_
    refine f_nil ?_
    refine f_bind ?_; intro x9 hx9
    refine f_bind ?_; intro x10 hx10
    refine f_bind ?_; intro x11 hx11
    refine f_bind ?_; intro x12 hx12
    exact f_ret (.cells Try.underlying32 rfl sz32 rfl (lds_cons (ldI_eq hx9) (lds_cons (ldI_eq hx10) (lds_cons (ldI_eq hx11) (lds_cons (ldI_eq hx12) (lds_nil))))) (.tmp rfl (.nil))) rfl
  · skip
    refine f_know 17 rfl (dec_false h7) ?_
    refine f_condF rfl ?_
    refine f_skip ?_
    refine f_seq ?_
    refine f_bind ?_; intro x13 hx13
    refine f_bind ?_; intro x14 hx14
    refine f_bind ?_; intro x15 hx15
    refine f_bind ?_; intro x16 hx16
    refine f_bind ?_; intro p17 hp17
    refine f_bind ?_; intro x18 hx18
    refine f_bind ?_; intro x19 hx19
    refine f_bind ?_; intro x20 hx20
    refine f_bind ?_; intro x21 hx21
    refine f_bind ?_; intro p22 hp22
    refine f_bind ?_; intro H23 hH23
    refine f_draw (Φ := fun _ => True) (lim := 1000000) [0, 1, 0, 1, 0, 0, 1, 0, 1, 0, 0, 0, 0, 0, 1, 0, 1, 0, 0, 1, 0, 1, 0, 0, 0, 0, 0, 2, 0] (Trc.pure rfl rfl rfl (.inl fun _ => s_fieldAddr Try.underlying47 rfl ty3 rfl) (Trc.read rfl rfl rfl (s_load Try.underlying3 rfl rfl (ldI_eq hx13)) (Trc.pure rfl rfl rfl (.inl fun _ => s_fieldAddr Try.underlying47 rfl ty3 rfl) (Trc.read rfl rfl rfl (s_load Try.underlying3 rfl rfl (ldI_eq hx14)) (Trc.pure rfl rfl rfl (.inl fun _ => s_mul rfl rfl) (Trc.pure rfl rfl rfl (.inl fun _ => s_fieldAddr Try.underlying47 rfl ty3 rfl) (Trc.read rfl rfl rfl (s_load Try.underlying3 rfl rfl (ldI_eq hx15)) (Trc.pure rfl rfl rfl (.inl fun _ => s_fieldAddr Try.underlying47 rfl ty3 rfl) (Trc.read rfl rfl rfl (s_load Try.underlying3 rfl rfl (ldI_eq hx16)) (Trc.pure rfl rfl rfl (.inl fun _ => s_mul rfl rfl) (Trc.pure rfl rfl rfl (.inl fun _ => s_sub rfl rfl) (Trc.pure rfl rfl rfl (.inl fun _ => s_mv (v := .int .i64 p6.1) rfl) (Trc.pure rfl rfl rfl (.inl fun _ => s_callO rfl ok100 (sim100 hp17) rfl rfl) (Trc.pure rfl rfl rfl (.inl fun _ => s_fieldAddr Try.underlying47 rfl ty3 rfl) (Trc.read rfl rfl rfl (s_load Try.underlying3 rfl rfl (ldI_eq hx18)) (Trc.pure rfl rfl rfl (.inl fun _ => s_fieldAddr Try.underlying47 rfl ty3 rfl) (Trc.read rfl rfl rfl (s_load Try.underlying3 rfl rfl (ldI_eq hx19)) (Trc.pure rfl rfl rfl (.inl fun _ => s_mul rfl rfl) (Trc.pure rfl rfl rfl (.inl fun _ => s_fieldAddr Try.underlying47 rfl ty3 rfl) (Trc.read rfl rfl rfl (s_load Try.underlying3 rfl rfl (ldI_eq hx20)) (Trc.pure rfl rfl rfl (.inl fun _ => s_fieldAddr Try.underlying47 rfl ty3 rfl) (Trc.read rfl rfl rfl (s_load Try.underlying3 rfl rfl (ldI_eq hx21)) (Trc.pure rfl rfl rfl (.inl fun _ => s_mul rfl rfl) (Trc.pure rfl rfl rfl (.inl fun _ => s_sub rfl rfl) (Trc.pure rfl rfl rfl (.inl fun _ => s_mv (v := .int .i64 p6.1) rfl) (Trc.pure rfl rfl rfl (.inl fun _ => s_callO rfl ok100 (sim100 hp22) rfl rfl) (Trc.pure rfl rfl rfl (.inl fun _ => s_build (cs := [.int .i64 p17.1.1, .int .i64 p17.1.2, .int .i64 p22.1.1, .int .i64 p22.1.2]) Try.underlying32 ty32 rfl pl32 rfl) (Trc.eff rfl rfl rfl (fun _ => trivial) (s_stores ty32 rfl rfl rfl rfl hH23 (Nat.le_of_eq (sts_mono hH23).symm)) (Trc.pure rfl rfl rfl (.inl fun _ => s_as (v := .bool true) rfl) (Trc.nil (fun _ => trivial))))))))))))))))))))))))))))))) rfl (by decide +kernel) mixed ?_
    refine f_bind ?_; intro x24 hx24
    refine f_bind ?_; intro x25 hx25
    refine f_bind ?_; intro x26 hx26
    refine f_bind ?_; intro x27 hx27
    exact f_ret (.cells Try.underlying32 rfl sz32 rfl (lds_cons (ldI_eq hx24) (lds_cons (ldI_eq hx25) (lds_cons (ldI_eq hx26) (lds_cons (ldI_eq hx27) (lds_nil))))) (.tmp rfl (.nil))) rfl

end Go.Lt.P2
