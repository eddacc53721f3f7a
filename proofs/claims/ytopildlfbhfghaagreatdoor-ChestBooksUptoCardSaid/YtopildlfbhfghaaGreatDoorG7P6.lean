/- PRINTED BY A PROGRAM OF OURS: what each function that 'ChestBooks' reaches computes on the abstract heap, and that the translated code does just that. Nothing is asked of the input. -/
import Derived.Test.YtopildlfbhfghaaGreatDoorG7P5
set_option linter.unusedVariables false
set_option linter.unusedSimpArgs false
set_option maxRecDepth 100000
set_option maxHeartbeats 4000000
namespace Go.Lt.P10
open Go Go.Lt Go.Proofs
/- 113 (*congou/chest.state).give -/
theorem ok113 : FnOk Tryz.prog 113 := ⟨⟨Tryz.f113, Tryz.func113, by kernel_rfl, rfl⟩⟩
theorem s113_l1 {app : App} (happ : AppSim Tryz.prog app) : ∀ (k_ : Nat) (v1 : Nat) (v2 : Nat) (v3 : Sl) (v4 : Int) (v5 : Int) (H : Hp), Fin Tryz.prog Tryz.f113 ret113 87 (todoAt (bodyOf Tryz.f113) [1, 1, 1, 1, 1, 1, 1, 1, 0, 1, 0, 0] []) [(0, .ptr v1 v2), (71, .sl v3), (72, .int .i64 v4), (73, .int .i64 v5)] H (r113_l1 app k_ v1 v2 v3 v4 v5 H) := by
  intro k_
  induction k_ with
  | zero => intro _ _ _ _ _ _; exact f_none
  | succ k_ ih =>
    intro v1 v2 v3 v4 v5 H
    rw [r113_l1]
    refine f_seq ?_
    refine f_region ?_
    refine f_op rfl rfl (s_lss rfl rfl) ?_
    refine f_nil ?_
    refine f_seq ?_
    refine f_if (fun h1 => ?_) (fun h1 => ?_)
    · skip
      refine f_know 74 rfl (dec_true h1) ?_
      refine f_condT rfl ?_
      refine f_skip ?_
      refine f_seq ?_
      refine f_block ?_
      refine f_seq ?_
      refine f_region ?_
      refine f_op rfl rfl (s_mv (v := .int .i64 v5) rfl) ?_
      refine o_ck fun g2 => ?_
      refine f_op rfl rfl (s_idx Tryz.underlying25 ty3 rfl rfl g2) ?_
      refine o_bind ?_; intro x3 hx3
      refine f_op rfl rfl (s_load Tryz.underlying3 rfl rfl (ldI_eq hx3)) ?_
      refine f_op rfl rfl (s_as (v := .int .i64 v5) rfl) ?_
      refine f_op rfl rfl (s_as (v := .int .i64 x3) rfl) ?_
      refine f_nil ?_
      refine f_region ?_
      refine f_op rfl rfl (s_mv (v := .ptr v1 v2) rfl) ?_
      refine f_op rfl rfl (s_nilCheck rfl) ?_
      refine f_op rfl rfl (s_fieldAddr Tryz.underlying150 rfl ty147 rfl) ?_
      refine o_bind ?_; intro x4 hx4
      refine f_op rfl rfl (s_load Tryz.underlying147 rfl rfl (ldSl_eq hx4)) ?_
      refine f_op rfl rfl (s_mv (v := .int .i64 v5) rfl) ?_
      refine f_op rfl rfl (s_mv (v := .int .i64 x3) rfl) ?_
      refine o_ck fun g5 => ?_
      refine f_op rfl rfl (s_idx Tryz.underlying147 ty186 rfl rfl g5) ?_
      refine f_op rfl rfl (s_fieldAddr Tryz.underlying186 rfl ty3 rfl) ?_
      refine o_bind ?_; intro H6 hH6
      refine f_op rfl rfl (s_store (s := 1) ty3 rfl rfl rfl hH6) ?_
      refine f_nil ?_
      refine f_inBlock ?_
      refine f_region ?_
      refine f_op rfl rfl (s_add rfl rfl) ?_
      refine f_op rfl rfl (s_mv (v := .int .i64 (w64 (v5 + 1))) rfl) ?_
      refine f_nil ?_
      refine f_inLoop ?_
      refine f_keep [0, 71, 72, 73] ?_
      exact ih v1 v2 v3 v4 (w64 (v5 + 1)) H6
    · skip
      refine f_know 74 rfl (dec_false h1) ?_
      refine f_condF rfl ?_
      refine f_exit rfl ?_
      refine f_seq ?_
      refine f_region ?_
      refine f_op rfl rfl (s_as (v := .int .i64 0) rfl) ?_
      refine f_nil ?_
      exact f_ret (.tmp rfl (.nil)) rfl

theorem s113_j2 {app : App} (happ : AppSim Tryz.prog app) (v1 : Nat) (v2 : Nat) (v3 : Sl) (v4 : Bool) (H : Hp) : Fin Tryz.prog Tryz.f113 ret113 87 (todoAt (bodyOf Tryz.f113) [1, 1, 1, 1, 1, 1, 1, 0, 1, 1] []) [(0, .ptr v1 v2), (9, .sl v3), (70, .bool v4)] H (r113_j2 app v1 v2 v3 v4 H) := by
  unfold r113_j2
  refine f_if (fun h1 => ?_) (fun h1 => ?_)
  · skip
    refine f_know 70 rfl (bool_T h1) ?_
    refine f_condT rfl ?_
    refine f_seq ?_
    refine f_region ?_
    refine f_op rfl rfl (s_as (v := .int .i64 5) rfl) ?_
    refine f_nil ?_
    exact f_ret (.tmp rfl (.nil)) rfl
  · skip
    refine f_know 70 rfl (bool_F h1) ?_
    refine f_condF rfl ?_
    refine f_skip ?_
    refine f_seq ?_
    refine f_seq ?_
    refine f_region ?_
    refine f_op rfl rfl (s_mv (v := .sl v3) rfl) ?_
    refine f_op rfl rfl (s_lenS rfl Tryz.underlying25 rfl) ?_
    refine f_op rfl rfl (s_mv (v := .int .i64 0) rfl) ?_
    refine f_nil ?_
    refine f_block ?_
    refine f_loop ?_
    refine f_keep [0, 71, 72, 73] ?_
    exact s113_l1 happ FUEL v1 v2 v3 (v3.len : Int) 0 H

theorem s113_j0 {app : App} (happ : AppSim Tryz.prog app) (v1 : Nat) (v2 : Nat) (v3 : Int) (v4 : Int) (v5 : Int) (v6 : Bool) (H : Hp) : Fin Tryz.prog Tryz.f113 ret113 87 (todoAt (bodyOf Tryz.f113) [1, 1, 0, 1] []) [(0, .ptr v1 v2), (5, .int .i64 v3), (6, .int .i64 v4), (7, .int .i64 v5), (35, .bool v6)] H (r113_j0 app v1 v2 v3 v4 v5 v6 H) := by
  unfold r113_j0
  refine f_if (fun h1 => ?_) (fun h1 => ?_)
  · skip
    refine f_know 35 rfl (bool_T h1) ?_
    refine f_condT rfl ?_
    refine f_seq ?_
    refine f_region ?_
    refine f_op rfl rfl (s_as (v := .int .i64 4) rfl) ?_
    refine f_nil ?_
    exact f_ret (.tmp rfl (.nil)) rfl
  · skip
    refine f_know 35 rfl (bool_F h1) ?_
    refine f_condF rfl ?_
    refine f_skip ?_
    refine f_seq ?_
    refine f_region ?_
    refine f_op rfl rfl (s_mv (v := .ptr v1 v2) rfl) ?_
    refine o_bind ?_; intro p2 hp2
    refine f_op rfl rfl (s_callF rfl ok153 (sim153 hp2)) ?_
    refine f_op rfl rfl (s_as (v := .sl p2.1) rfl) ?_
    refine f_nil ?_
    refine f_seq ?_
    refine f_region ?_
    refine f_op rfl rfl (s_mv (v := .sl p2.1) rfl) ?_
    refine o_bind ?_; intro p3 hp3
    refine f_op rfl rfl (s_callF rfl ok18 (sim18 hp3)) ?_
    refine f_op rfl rfl (s_as (v := .sl p3.1) rfl) ?_
    refine f_nil ?_
    refine f_seq ?_
    refine f_region ?_
    refine f_op rfl rfl (s_mv (v := .sl p3.1) rfl) ?_
    refine f_op rfl rfl (s_mv (v := .int .i64 v3) rfl) ?_
    refine o_ck fun g4 => ?_
    refine f_op rfl rfl (s_idx Tryz.underlying25 ty3 rfl rfl g4) ?_
    refine o_bind ?_; intro x5 hx5
    refine f_op rfl rfl (s_load Tryz.underlying3 rfl rfl (ldI_eq hx5)) ?_
    refine f_op rfl rfl (s_mv (v := .int .i64 v5) rfl) ?_
    refine f_op rfl rfl (s_sub rfl rfl) ?_
    refine o_ck fun g6 => ?_
    refine f_op rfl rfl (s_idx Tryz.underlying25 ty3 rfl rfl g6) ?_
    refine o_bind ?_; intro H7 hH7
    refine f_op rfl rfl (s_store (s := 1) ty3 rfl rfl rfl hH7) ?_
    refine f_nil ?_
    refine f_seq ?_
    refine f_region ?_
    refine f_op rfl rfl (s_mv (v := .sl p3.1) rfl) ?_
    refine f_op rfl rfl (s_mv (v := .int .i64 v4) rfl) ?_
    refine o_ck fun g8 => ?_
    refine f_op rfl rfl (s_idx Tryz.underlying25 ty3 rfl rfl g8) ?_
    refine o_bind ?_; intro x9 hx9
    refine f_op rfl rfl (s_load Tryz.underlying3 rfl rfl (ldI_eq hx9)) ?_
    refine f_op rfl rfl (s_mv (v := .int .i64 v5) rfl) ?_
    refine f_op rfl rfl (s_add rfl rfl) ?_
    refine o_ck fun g10 => ?_
    refine f_op rfl rfl (s_idx Tryz.underlying25 ty3 rfl rfl g10) ?_
    refine o_bind ?_; intro H11 hH11
    refine f_op rfl rfl (s_store (s := 1) ty3 rfl rfl rfl hH11) ?_
    refine f_nil ?_
    refine f_seq ?_
    refine f_seq ?_
    refine f_region ?_
    refine f_op rfl rfl (s_mv (v := .sl p2.1) rfl) ?_
    refine f_op rfl rfl (s_mv (v := .sl p3.1) rfl) ?_
    refine f_op rfl rfl (s_mv (v := .int .i64 v3) rfl) ?_
    refine f_op rfl rfl (s_mv (v := .int .i64 v4) rfl) ?_
    refine f_op rfl rfl (s_mv (v := .int .i64 v5) rfl) ?_
    refine f_op rfl rfl (s_build (cs := [.int .i64 v3, .int .i64 v4, .int .i64 v5]) Tryz.underlying53 ty53 rfl pl53 rfl) ?_
    refine f_op rfl rfl (s_buildSlice (cs := [.int .i64 v3, .int .i64 v4, .int .i64 v5]) Tryz.underlying54 ty53 (by decide) (by decide) rfl (by decide) rfl) ?_
    refine o_bind ?_; intro p12 hp12
    refine f_op rfl rfl (s_callF rfl ok24 (sim24 hp12)) ?_
    refine f_op rfl rfl (s_mv (v := .tup [.bool p12.1.1, .int .i64 p12.1.2]) rfl) ?_
    refine f_op rfl rfl (s_extract (r := .bool p12.1.1) rfl rfl) ?_
    refine f_op rfl rfl (s_extract (r := .int .i64 p12.1.2) rfl rfl) ?_
    refine f_op rfl rfl (s_as (v := .bool p12.1.1) rfl) ?_
    refine f_op rfl rfl (s_as (v := .int .i64 p12.1.2) rfl) ?_
    refine f_nil ?_
    refine f_seq ?_
    refine f_region ?_
    refine f_op rfl rfl (s_mv (v := .bool p12.1.1) rfl) ?_
    refine f_op rfl rfl (s_not rfl) ?_
    refine f_op rfl rfl (s_mv (v := .bool (!p12.1.1)) rfl) ?_
    refine o_if (fun h13 => ?_) (fun h13 => ?_)
    · skip
      refine o_know 67 rfl (bool_notT h13) ?_
      refine f_op rfl rfl (s_mv (v := .int .i64 p12.1.2) rfl) ?_
      refine f_op rfl rfl (s_neq rfl rfl) ?_
      refine f_op rfl rfl (s_pickF (v := .bool (decide (p12.1.2 ≠ 0))) rfl rfl) ?_
      refine f_nil ?_
      refine f_keep [0, 9, 70] ?_
      exact s113_j2 happ v1 v2 p3.1 (decide (p12.1.2 ≠ 0)) p12.2
    · skip
      refine o_know 67 rfl (bool_notF h13) ?_
      refine f_no rfl rfl ?_
      refine f_no rfl rfl ?_
      refine f_op rfl rfl (s_pickT (v := .bool true) rfl rfl) ?_
      refine f_nil ?_
      refine f_keep [0, 9, 70] ?_
      exact s113_j2 happ v1 v2 p3.1 true p12.2

theorem sim113 {app : App} (happ : AppSim Tryz.prog app) {a0b : Nat} {a0o : Nat} {a1_0 : Sl} {a1_1 : Sl} {H : Hp} {p : Int × Hp} (h : r113 app a0b a0o a1_0 a1_1 H = some p) : CallSim Tryz.prog 113 [.ptr a0b a0o, .agg [.sl a1_0, .sl a1_1]] H (.int .i64 p.1) p.2 := by
  refine callSim (fn := Tryz.f113) (ret := ret113) Tryz.func113 rfl Tryz.ntmps113 rfl ?_ h
  unfold r113
  refine f_seq ?_
  refine f_region ?_
  refine f_op rfl rfl (s_box (v := .agg [.sl a1_0, .sl a1_1]) rfl rfl) ?_
  refine f_op rfl rfl (s_as (v := .int .i64 0) rfl) ?_
  refine o_hp ?_; intro H1 hH1
  refine f_nil ?_
  refine f_seq ?_
  refine f_bind ?_; intro x2 hx2
  refine f_ck fun g3 => ?_
  refine f_bind ?_; intro x4 hx4
  refine f_bind ?_; intro p5 hp5
  refine f_bind ?_; intro x6 hx6
  refine f_ck fun g7 => ?_
  refine f_bind ?_; intro x8 hx8
  refine f_bind ?_; intro p9 hp9
  refine f_bind ?_; intro x10 hx10
  refine f_ck fun g11 => ?_
  refine f_bind ?_; intro x12 hx12
  refine f_ck fun g13 => ?_
  refine f_ck fun g14 => ?_
  refine f_ck fun g15 => ?_
  refine f_ck fun g16 => ?_
  refine f_ck fun g17 => ?_
  refine f_ck fun g18 => ?_
  refine f_ck fun g19 => ?_
  refine f_ck fun g20 => ?_
  refine f_draw (Φ := fun H_ => H_.ld H.n (0 + 0) = some (.sl x6) ∧ H_.ld x6.b (x6.o + (1 : Int).toNat * 1) = some (.str x8) ∧ H_.ld H.n (0 + 1) = some (.sl x10) ∧ H_.ld x10.b (x10.o + (0 : Int).toNat * 1) = some (.int .i64 x12)) (lim := 1000000) [0, 0, 1, 0, 1, 2, 0, 0, 0, 0, 0, 2, 0, 0, 0, 0, 0, 0, 0] (Trc.pure rfl rfl rfl (.inl fun _ => s_mv (v := .ptr a0b a0o) rfl) (Trc.pure rfl rfl rfl (.inl fun _ => s_fieldAddr Tryz.underlying167 rfl ty22 rfl) (Trc.read rfl rfl rfl (s_load Tryz.underlying22 rfl rfl (ldSl_eq hx2)) (Trc.pure rfl rfl rfl (.inl fun _ => s_idx Tryz.underlying22 ty9 rfl rfl g3) (Trc.read rfl rfl rfl (s_load Tryz.underlying9 rfl rfl (ldStr_eq hx4)) (Trc.eff rfl rfl rfl (fun _ => ⟨ldSl_eq g13, ldStr_eq g14, ldSl_eq g15, ldI_eq g16⟩) (s_callF rfl ok154 (sim154 happ hp5)) (Trc.pure rfl rfl rfl (.inl fun _ => s_mv (v := .ptr a0b a0o) rfl) (Trc.pure rfl rfl rfl (.inl fun _ => s_fieldAddr Tryz.underlying167 rfl ty22 rfl) (Trc.pure rfl rfl rfl (.inr ⟨by decide +kernel, fun _ hp_ => s_load Tryz.underlying22 rfl rfl hp_.1⟩) (Trc.pure rfl rfl rfl (.inl fun _ => s_idx Tryz.underlying22 ty9 rfl rfl g7) (Trc.pure rfl rfl rfl (.inr ⟨by decide +kernel, fun _ hp_ => s_load Tryz.underlying9 rfl rfl hp_.2.1⟩) (Trc.eff rfl rfl rfl (fun _ => ⟨ldSl_eq hx6, ldStr_eq hx8, ldSl_eq g17, ldI_eq g18⟩) (s_callF rfl ok154 (sim154 happ hp9)) (Trc.pure rfl rfl rfl (.inl fun _ => s_fieldAddr Tryz.underlying167 rfl ty25 rfl) (Trc.pure rfl rfl rfl (.inr ⟨by decide +kernel, fun _ hp_ => s_load Tryz.underlying25 rfl rfl hp_.2.2.1⟩) (Trc.pure rfl rfl rfl (.inl fun _ => s_idx Tryz.underlying25 ty3 rfl rfl g11) (Trc.pure rfl rfl rfl (.inr ⟨by decide +kernel, fun _ hp_ => s_load Tryz.underlying3 rfl rfl hp_.2.2.2⟩) (Trc.pure rfl rfl rfl (.inl fun _ => s_as (v := .int .i64 p5.1) rfl) (Trc.pure rfl rfl rfl (.inl fun _ => s_as (v := .int .i64 p9.1) rfl) (Trc.pure rfl rfl rfl (.inl fun _ => s_as (v := .int .i64 x12) rfl) (Trc.nil (fun _ => ⟨ldSl_eq g19, ldStr_eq g20, ldSl_eq hx10, ldI_eq hx12⟩))))))))))))))))))))) rfl (by decide +kernel) mixed ?_
  refine f_seq ?_
  refine f_seq ?_
  refine f_region ?_
  refine f_op rfl rfl (s_mv (v := .int .i64 p5.1) rfl) ?_
  refine f_op rfl rfl (s_lss rfl rfl) ?_
  refine f_op rfl rfl (s_mv (v := .bool (decide (p5.1 < 0))) rfl) ?_
  refine o_if (fun h21 => ?_) (fun h21 => ?_)
  · skip
    refine o_know 32 rfl (dec_true h21) ?_
    refine f_no rfl rfl ?_
    refine f_no rfl rfl ?_
    refine f_op rfl rfl (s_pickT (v := .bool true) rfl rfl) ?_
    refine f_nil ?_
    refine f_keep [0, 5, 6, 7, 35] ?_
    exact s113_j0 happ a0b a0o p5.1 p9.1 x12 true p9.2
  · skip
    refine o_know 32 rfl (dec_false h21) ?_
    refine f_op rfl rfl (s_mv (v := .int .i64 p9.1) rfl) ?_
    refine f_op rfl rfl (s_lss rfl rfl) ?_
    refine f_op rfl rfl (s_pickF (v := .bool (decide (p9.1 < 0))) rfl rfl) ?_
    refine f_nil ?_
    refine f_keep [0, 5, 6, 7, 35] ?_
    exact s113_j0 happ a0b a0o p5.1 p9.1 x12 (decide (p9.1 < 0)) p9.2

/- 114 (*congou/chest.state).order -/
theorem ok114 : FnOk Tryz.prog 114 := ⟨⟨Tryz.f114, Tryz.func114, by kernel_rfl, rfl⟩⟩
theorem sim114 {app : App} (happ : AppSim Tryz.prog app) {a0b : Nat} {a0o : Nat} {a1_0 : Sl} {a1_1 : Sl} {H : Hp} {p : Int × Hp} (h : r114 app a0b a0o a1_0 a1_1 H = some p) : CallSim Tryz.prog 114 [.ptr a0b a0o, .agg [.sl a1_0, .sl a1_1]] H (.int .i64 p.1) p.2 := by
  refine callSim (fn := Tryz.f114) (ret := ret114) Tryz.func114 rfl Tryz.ntmps114 rfl ?_ h
  unfold r114
  refine f_seq ?_
  refine f_region ?_
  refine f_op rfl rfl (s_box (v := .agg [.sl a1_0, .sl a1_1]) rfl rfl) ?_
  refine f_op rfl rfl (s_as (v := .int .i64 0) rfl) ?_
  refine o_hp ?_; intro H1 hH1
  refine f_nil ?_
  refine f_seq ?_
  refine f_seq ?_
  refine f_region ?_
  refine f_op rfl rfl (s_mv (v := .ptr a0b a0o) rfl) ?_
  refine f_op rfl rfl (s_fieldAddr Tryz.underlying167 rfl ty22 rfl) ?_
  refine o_bind ?_; intro x2 hx2
  refine f_op rfl rfl (s_load Tryz.underlying22 rfl rfl (ldSl_eq hx2)) ?_
  refine o_ck fun g3 => ?_
  refine f_op rfl rfl (s_idx Tryz.underlying22 ty9 rfl rfl g3) ?_
  refine o_bind ?_; intro x4 hx4
  refine f_op rfl rfl (s_load Tryz.underlying9 rfl rfl (ldStr_eq hx4)) ?_
  refine o_bind ?_; intro p5 hp5
  refine f_op rfl rfl (s_callF rfl ok154 (sim154 happ hp5)) ?_
  refine f_op rfl rfl (s_as (v := .int .i64 p5.1) rfl) ?_
  refine f_nil ?_
  refine f_block ?_
  refine f_seq ?_
  refine f_region ?_
  refine f_op rfl rfl (s_mv (v := .int .i64 p5.1) rfl) ?_
  refine f_op rfl rfl (s_lss rfl rfl) ?_
  refine f_op rfl rfl (s_as (v := .bool (decide (p5.1 < 0))) rfl) ?_
  refine f_nil ?_
  refine f_if (fun h6 => ?_) (fun h6 => ?_)
  · skip
    refine f_know 33 rfl (dec_true h6) ?_
    refine f_condT rfl ?_
    refine f_seq ?_
    refine f_region ?_
    refine f_op rfl rfl (s_as (v := .int .i64 4) rfl) ?_
    refine f_nil ?_
    exact f_ret (.tmp rfl (.nil)) rfl
  · skip
    refine f_know 33 rfl (dec_false h6) ?_
    refine f_condF rfl ?_
    refine f_seq ?_
    refine f_region ?_
    refine f_op rfl rfl (s_mv (v := .ptr a0b a0o) rfl) ?_
    refine f_op rfl rfl (s_nilCheck rfl) ?_
    refine f_op rfl rfl (s_fieldAddr Tryz.underlying150 rfl ty147 rfl) ?_
    refine o_bind ?_; intro x7 hx7
    refine f_op rfl rfl (s_load Tryz.underlying147 rfl rfl (ldSl_eq hx7)) ?_
    refine f_op rfl rfl (s_mv (v := .int .i64 p5.1) rfl) ?_
    refine o_ck fun g8 => ?_
    refine f_op rfl rfl (s_idx Tryz.underlying147 ty186 rfl rfl g8) ?_
    refine f_op rfl rfl (s_fieldAddr Tryz.underlying186 rfl ty3 rfl) ?_
    refine o_bind ?_; intro x9 hx9
    refine f_op rfl rfl (s_load Tryz.underlying3 rfl rfl (ldI_eq hx9)) ?_
    refine f_op rfl rfl (s_eql rfl rfl) ?_
    refine f_op rfl rfl (s_as (v := .bool (decide (x9 = 0))) rfl) ?_
    refine f_nil ?_
    refine f_if (fun h10 => ?_) (fun h10 => ?_)
    · skip
      refine f_know 36 rfl (dec_true h10) ?_
      refine f_condT rfl ?_
      refine f_seq ?_
      refine f_region ?_
      refine f_op rfl rfl (s_as (v := .int .i64 5) rfl) ?_
      refine f_nil ?_
      exact f_ret (.tmp rfl (.nil)) rfl
    · skip
      refine f_know 36 rfl (dec_false h10) ?_
      refine f_condF rfl ?_
      refine f_seq ?_
      refine f_region ?_
      refine f_op rfl rfl (s_mv (v := .ptr a0b a0o) rfl) ?_
      refine f_op rfl rfl (s_nilCheck rfl) ?_
      refine f_op rfl rfl (s_fieldAddr Tryz.underlying150 rfl ty25 rfl) ?_
      refine o_bind ?_; intro x11 hx11
      refine f_op rfl rfl (s_load Tryz.underlying25 rfl rfl (ldSl_eq hx11)) ?_
      refine f_op rfl rfl (s_lenS rfl Tryz.underlying25 rfl) ?_
      refine f_op rfl rfl (s_eql rfl rfl) ?_
      refine f_op rfl rfl (s_as (v := .bool (decide ((x11.len : Int) = 40))) rfl) ?_
      refine f_nil ?_
      refine f_if (fun h12 => ?_) (fun h12 => ?_)
      · skip
        refine f_know 46 rfl (dec_true h12) ?_
        refine f_condT rfl ?_
        refine f_seq ?_
        refine f_region ?_
        refine f_op rfl rfl (s_as (v := .int .i64 7) rfl) ?_
        refine f_nil ?_
        exact f_ret (.tmp rfl (.nil)) rfl
      · skip
        refine f_know 46 rfl (dec_false h12) ?_
        refine f_condF rfl ?_
        refine f_seq ?_
        refine f_region ?_
        refine f_op rfl rfl (s_mv (v := .ptr a0b a0o) rfl) ?_
        refine f_op rfl rfl (s_nilCheck rfl) ?_
        refine f_op rfl rfl (s_fieldAddr Tryz.underlying150 rfl ty147 rfl) ?_
        refine o_bind ?_; intro x13 hx13
        refine f_op rfl rfl (s_load Tryz.underlying147 rfl rfl (ldSl_eq hx13)) ?_
        refine f_op rfl rfl (s_mv (v := .int .i64 p5.1) rfl) ?_
        refine o_ck fun g14 => ?_
        refine f_op rfl rfl (s_idx Tryz.underlying147 ty186 rfl rfl g14) ?_
        refine f_op rfl rfl (s_fieldAddr Tryz.underlying186 rfl ty3 rfl) ?_
        refine o_bind ?_; intro x15 hx15
        refine f_op rfl rfl (s_load Tryz.underlying3 rfl rfl (ldI_eq hx15)) ?_
        refine f_op rfl rfl (s_sub rfl rfl) ?_
        refine o_ck fun g16 => ?_
        refine f_op rfl rfl (s_idx Tryz.underlying147 ty186 rfl rfl g16) ?_
        refine f_op rfl rfl (s_fieldAddr Tryz.underlying186 rfl ty3 rfl) ?_
        refine o_bind ?_; intro H17 hH17
        refine f_op rfl rfl (s_store (s := 1) ty3 rfl rfl rfl hH17) ?_
        refine f_nil ?_
        refine f_region ?_
        refine f_op rfl rfl (s_mv (v := .ptr a0b a0o) rfl) ?_
        refine f_op rfl rfl (s_mv (v := .ptr a0b a0o) rfl) ?_
        refine f_op rfl rfl (s_nilCheck rfl) ?_
        refine f_op rfl rfl (s_fieldAddr Tryz.underlying150 rfl ty25 rfl) ?_
        refine o_bind ?_; intro x18 hx18
        refine f_op rfl rfl (s_load Tryz.underlying25 rfl rfl (ldSl_eq hx18)) ?_
        refine f_op rfl rfl (s_mv (v := .int .i64 p5.1) rfl) ?_
        refine f_op rfl rfl (s_buildSlice (cs := [.int .i64 p5.1]) Tryz.underlying25 ty3 (by decide) (by decide) rfl (by decide) rfl) ?_
        refine o_bind ?_; intro x19 hx19
        refine f_op rfl rfl (s_ap rfl rfl Tryz.underlying25 Tryz.underlying25 ty3 rfl rfl rfl rfl rfl rfl rfl hx19) ?_
        refine f_op rfl rfl (s_nilCheck rfl) ?_
        refine f_op rfl rfl (s_fieldAddr Tryz.underlying150 rfl ty25 rfl) ?_
        refine o_bind ?_; intro H20 hH20
        refine f_op rfl rfl (s_store (s := 1) ty25 rfl rfl rfl hH20) ?_
        refine f_nil ?_
        refine f_inBlock ?_
        refine f_seq ?_
        refine f_region ?_
        refine f_op rfl rfl (s_as (v := .int .i64 0) rfl) ?_
        refine f_nil ?_
        exact f_ret (.tmp rfl (.nil)) rfl

/- 115 (*congou/chest.state).taste -/
theorem ok115 : FnOk Tryz.prog 115 := ⟨⟨Tryz.f115, Tryz.func115, by kernel_rfl, rfl⟩⟩
theorem s115_j1 (v1 : Nat) (v2 : Nat) (v3 : Int) (v4 : Int) (v5 : Int) (v6 : Bool) (H : Hp) : Fin Tryz.prog Tryz.f115 ret115 56 (todoAt (bodyOf Tryz.f115) [1, 1, 1, 1, 0, 0, 1] []) [(0, .ptr v1 v2), (5, .int .i64 v3), (6, .int .i64 v4), (7, .int .i64 v5), (33, .bool v6)] H (r115_j1 v1 v2 v3 v4 v5 v6 H) := by
  unfold r115_j1
  refine f_if (fun h1 => ?_) (fun h1 => ?_)
  · skip
    refine f_know 33 rfl (bool_T h1) ?_
    refine f_condT rfl ?_
    refine f_seq ?_
    refine f_region ?_
    refine f_op rfl rfl (s_as (v := .int .i64 2) rfl) ?_
    refine f_nil ?_
    exact f_ret (.tmp rfl (.nil)) rfl
  · skip
    refine f_know 33 rfl (bool_F h1) ?_
    refine f_condF rfl ?_
    refine f_seq ?_
    refine f_region ?_
    refine f_op rfl rfl (s_mv (v := .int .i64 v5) rfl) ?_
    refine f_op rfl rfl (s_eql rfl rfl) ?_
    refine f_op rfl rfl (s_as (v := .bool (decide (v5 = 16))) rfl) ?_
    refine f_nil ?_
    refine f_if (fun h2 => ?_) (fun h2 => ?_)
    · skip
      refine f_know 40 rfl (dec_true h2) ?_
      refine f_condT rfl ?_
      refine f_seq ?_
      refine f_region ?_
      refine f_op rfl rfl (s_as (v := .int .i64 7) rfl) ?_
      refine f_nil ?_
      exact f_ret (.tmp rfl (.nil)) rfl
    · skip
      refine f_know 40 rfl (dec_false h2) ?_
      refine f_condF rfl ?_
      refine f_skip ?_
      refine f_inBlock ?_
      refine f_seq ?_
      refine f_ck fun g3 => ?_
      refine f_ck fun g4 => ?_
      refine f_bind ?_; intro x5 hx5
      refine f_ck fun g6 => ?_
      refine f_ck fun g7 => ?_
      refine f_bind ?_; intro H8 hH8
      refine f_draw (Φ := fun _ => True) (lim := 1000000) [0, 0, 0, 0, 0, 0, 0, 1, 0, 0, 0, 0, 0, 2] (Trc.pure rfl rfl rfl (.inl fun _ => s_mv (v := .ptr v1 v2) rfl) (Trc.pure rfl rfl rfl (.inl fun _ => s_mv (v := .int .i64 v3) rfl) (Trc.pure rfl rfl rfl (.inl fun _ => s_mv (v := .int .i64 v4) rfl) (Trc.pure rfl rfl rfl (.inl fun _ => s_nilCheck rfl) (Trc.pure rfl rfl rfl (.inl fun _ => s_fieldAddr Tryz.underlying150 rfl ty148 rfl) (Trc.pure rfl rfl rfl (.inl fun _ => s_idxA Tryz.underlying148 ty101 rfl rfl g3) (Trc.pure rfl rfl rfl (.inl fun _ => s_idxA Tryz.underlying101 ty3 rfl rfl g4) (Trc.read rfl rfl rfl (s_load Tryz.underlying3 rfl rfl (ldI_eq hx5)) (Trc.pure rfl rfl rfl (.inl fun _ => s_add rfl rfl) (Trc.pure rfl rfl rfl (.inl fun _ => s_nilCheck rfl) (Trc.pure rfl rfl rfl (.inl fun _ => s_fieldAddr Tryz.underlying150 rfl ty148 rfl) (Trc.pure rfl rfl rfl (.inl fun _ => s_idxA Tryz.underlying148 ty101 rfl rfl g6) (Trc.pure rfl rfl rfl (.inl fun _ => s_idxA Tryz.underlying101 ty3 rfl rfl g7) (Trc.eff rfl rfl rfl (fun _ => trivial) (s_store (s := 1) ty3 rfl rfl rfl hH8) (Trc.nil (fun _ => trivial)))))))))))))))) rfl (by decide +kernel) mixed ?_
      refine f_seq ?_
      refine f_region ?_
      refine f_op rfl rfl (s_as (v := .int .i64 0) rfl) ?_
      refine f_nil ?_
      exact f_ret (.tmp rfl (.nil)) rfl

theorem s115_l0 : ∀ (k_ : Nat) (v1 : Nat) (v2 : Nat) (v3 : Int) (v4 : Int) (v5 : Int) (v6 : Int) (v7 : Int) (v8 : Int) (v9 : Int) (v10 : Int) (H : Hp), Fin Tryz.prog Tryz.f115 ret115 56 (todoAt (bodyOf Tryz.f115) [1, 1, 1, 0, 1, 0, 0] []) [(0, .ptr v1 v2), (5, .int .i64 v3), (6, .int .i64 v4), (7, .int .i64 v5), (21, .agg [.int .i64 v6, .int .i64 v7, .int .i64 v8, .int .i64 v9]), (22, .int .i64 v10)] H (r115_l0 k_ v1 v2 v3 v4 v5 v6 v7 v8 v9 v10 H) := by
  intro k_
  induction k_ with
  | zero => intro _ _ _ _ _ _ _ _ _ _ _; exact f_none
  | succ k_ ih =>
    intro v1 v2 v3 v4 v5 v6 v7 v8 v9 v10 H
    rw [r115_l0]
    refine f_seq ?_
    refine f_region ?_
    refine f_op rfl rfl (s_lss rfl rfl) ?_
    refine f_nil ?_
    refine f_seq ?_
    refine f_if (fun h1 => ?_) (fun h1 => ?_)
    · skip
      refine f_know 23 rfl (dec_true h1) ?_
      refine f_condT rfl ?_
      refine f_skip ?_
      refine f_seq ?_
      refine f_block ?_
      refine f_seq ?_
      refine f_region ?_
      refine o_ck fun g2 => ?_
      refine o_bind ?_; intro x3 hx3
      refine o_bind ?_; intro x4 hx4
      refine o_ck fun g5 => ?_
      refine o_bind ?_; intro x6 hx6
      refine o_bind ?_; intro x7 hx7
      refine o_bind ?_; intro x8 hx8
      refine o_bind ?_; intro x9 hx9
      refine f_op rfl rfl (s_index Tryz.underlying148 Tryz.underlying101 ty101 rfl rfl g2 hx3) ?_
      refine o_know 24 rfl (aggOf2 hx4 g5 (gete hx6 (asI_eq hx7)) (gete hx8 (asI_eq hx9))) ?_
      refine f_op rfl rfl (s_alloc (zs := [.int .i64 0, .int .i64 0]) ty101 rfl rfl) ?_
      refine o_bind ?_; intro H10 hH10
      refine f_op rfl rfl (s_stores ty101 rfl rfl rfl rfl hH10 (Nat.le_of_eq (sts_mono hH10).symm)) ?_
      refine f_nil ?_
      refine f_region ?_
      refine f_op rfl rfl (s_mv (v := .int .i64 v5) rfl) ?_
      refine f_op rfl rfl (s_idxA Tryz.underlying101 ty3 rfl rfl (by decide)) ?_
      refine o_bind ?_; intro x11 hx11
      refine f_op rfl rfl (s_load Tryz.underlying3 rfl rfl (ldI_eq hx11)) ?_
      refine f_op rfl rfl (s_idxA Tryz.underlying101 ty3 rfl rfl (by decide)) ?_
      refine o_bind ?_; intro x12 hx12
      refine f_op rfl rfl (s_load Tryz.underlying3 rfl rfl (ldI_eq hx12)) ?_
      refine f_op rfl rfl (s_add rfl rfl) ?_
      refine f_op rfl rfl (s_add rfl rfl) ?_
      refine f_op rfl rfl (s_as (v := .int .i64 (w64 (v5 + (w64 (x11 + x12))))) rfl) ?_
      refine f_nil ?_
      refine f_inBlock ?_
      refine f_region ?_
      refine f_op rfl rfl (s_add rfl rfl) ?_
      refine f_op rfl rfl (s_mv (v := .int .i64 (w64 (v10 + 1))) rfl) ?_
      refine f_nil ?_
      refine f_inLoop ?_
      refine f_keep [0, 5, 6, 7, 21, 22] ?_
      exact ih v1 v2 v3 v4 (w64 (v5 + (w64 (x11 + x12)))) v6 v7 v8 v9 (w64 (v10 + 1)) H10
    · skip
      refine f_know 23 rfl (dec_false h1) ?_
      refine f_condF rfl ?_
      refine f_exit rfl ?_
      refine f_seq ?_
      refine f_block ?_
      refine f_seq ?_
      refine f_region ?_
      refine f_op rfl rfl (s_mv (v := .int .i64 v3) rfl) ?_
      refine f_op rfl rfl (s_gtr rfl rfl) ?_
      refine f_op rfl rfl (s_mv (v := .bool (decide (1 < v3))) rfl) ?_
      refine o_if (fun h13 => ?_) (fun h13 => ?_)
      · skip
        refine o_know 36 rfl (dec_true h13) ?_
        refine f_no rfl rfl ?_
        refine f_no rfl rfl ?_
        refine f_op rfl rfl (s_pickT (v := .bool true) rfl rfl) ?_
        refine f_op rfl rfl (s_as (v := .bool true) rfl) ?_
        refine f_nil ?_
        refine f_keep [0, 5, 6, 7, 33] ?_
        exact s115_j1 v1 v2 v3 v4 v5 true H
      · skip
        refine o_know 36 rfl (dec_false h13) ?_
        refine f_op rfl rfl (s_mv (v := .int .i64 v4) rfl) ?_
        refine f_op rfl rfl (s_gtr rfl rfl) ?_
        refine f_op rfl rfl (s_pickF (v := .bool (decide (1 < v4))) rfl rfl) ?_
        refine f_op rfl rfl (s_as (v := .bool (decide (1 < v4))) rfl) ?_
        refine f_nil ?_
        refine f_keep [0, 5, 6, 7, 33] ?_
        exact s115_j1 v1 v2 v3 v4 v5 (decide (1 < v4)) H

theorem sim115 {a0b : Nat} {a0o : Nat} {a1_0 : Sl} {a1_1 : Sl} {H : Hp} {p : Int × Hp} (h : r115 a0b a0o a1_0 a1_1 H = some p) : CallSim Tryz.prog 115 [.ptr a0b a0o, .agg [.sl a1_0, .sl a1_1]] H (.int .i64 p.1) p.2 := by
  refine callSim (fn := Tryz.f115) (ret := ret115) Tryz.func115 rfl Tryz.ntmps115 rfl ?_ h
  unfold r115
  refine f_seq ?_
  refine f_region ?_
  refine f_op rfl rfl (s_box (v := .agg [.sl a1_0, .sl a1_1]) rfl rfl) ?_
  refine f_op rfl rfl (s_as (v := .int .i64 0) rfl) ?_
  refine o_hp ?_; intro H1 hH1
  refine f_nil ?_
  refine f_seq ?_
  refine f_bind ?_; intro x2 hx2
  refine f_ck fun g3 => ?_
  refine f_bind ?_; intro x4 hx4
  refine f_bind ?_; intro x5 hx5
  refine f_ck fun g6 => ?_
  refine f_bind ?_; intro x7 hx7
  refine f_draw (Φ := fun _ => True) (lim := 1000000) [0, 1, 0, 1, 0, 1, 0, 1, 0, 0] (Trc.pure rfl rfl rfl (.inl fun _ => s_fieldAddr Tryz.underlying167 rfl ty25 rfl) (Trc.read rfl rfl rfl (s_load Tryz.underlying25 rfl rfl (ldSl_eq hx2)) (Trc.pure rfl rfl rfl (.inl fun _ => s_idx Tryz.underlying25 ty3 rfl rfl g3) (Trc.read rfl rfl rfl (s_load Tryz.underlying3 rfl rfl (ldI_eq hx4)) (Trc.pure rfl rfl rfl (.inl fun _ => s_fieldAddr Tryz.underlying167 rfl ty25 rfl) (Trc.read rfl rfl rfl (s_load Tryz.underlying25 rfl rfl (ldSl_eq hx5)) (Trc.pure rfl rfl rfl (.inl fun _ => s_idx Tryz.underlying25 ty3 rfl rfl g6) (Trc.read rfl rfl rfl (s_load Tryz.underlying3 rfl rfl (ldI_eq hx7)) (Trc.pure rfl rfl rfl (.inl fun _ => s_as (v := .int .i64 x4) rfl) (Trc.pure rfl rfl rfl (.inl fun _ => s_as (v := .int .i64 x7) rfl) (Trc.nil (fun _ => trivial)))))))))))) rfl (by decide +kernel) mixed ?_
  refine f_seq ?_
  refine f_region ?_
  refine f_op rfl rfl (s_as (v := .int .i64 0) rfl) ?_
  refine f_nil ?_
  refine f_seq ?_
  refine f_seq ?_
  refine f_region ?_
  refine f_op rfl rfl (s_mv (v := .ptr a0b a0o) rfl) ?_
  refine f_op rfl rfl (s_nilCheck rfl) ?_
  refine f_op rfl rfl (s_fieldAddr Tryz.underlying150 rfl ty148 rfl) ?_
  refine o_bind ?_; intro x8 hx8
  refine o_bind ?_; intro x9 hx9
  refine o_bind ?_; intro x10 hx10
  refine o_bind ?_; intro x11 hx11
  refine f_op rfl rfl (s_loads Tryz.underlying148 rfl ty148 rfl (lds_cons (ldI_eq hx8) (lds_cons (ldI_eq hx9) (lds_cons (ldI_eq hx10) (lds_cons (ldI_eq hx11) (lds_nil)))))) ?_
  refine f_op rfl rfl (s_mv (v := .int .i64 0) rfl) ?_
  refine f_nil ?_
  refine f_block ?_
  refine f_loop ?_
  refine f_keep [0, 5, 6, 7, 21, 22] ?_
  exact s115_l0 FUEL a0b a0o x4 x7 0 x8 x9 x10 x11 0 H1

/- 230 slices.Index[[][2]int,[2]int] -/
theorem ok230 : FnOk Tryz.prog 230 := ⟨⟨Tryz.f230, Tryz.func230, by kernel_rfl, rfl⟩⟩
theorem s230_l0 : ∀ (k_ : Nat) (v1 : Sl) (v2 : Nat) (v3 : Int) (v4 : Int) (H : Hp), Fin Tryz.prog Tryz.f230 ret230 19 (todoAt (bodyOf Tryz.f230) [1, 0, 1, 0, 0] []) [(0, .sl v1), (3, .ptr v2 0), (7, .int .i64 v3), (8, .int .i64 v4)] H (r230_l0 k_ v1 v2 v3 v4 H) := by
  intro k_
  induction k_ with
  | zero => intro _ _ _ _ _; exact f_none
  | succ k_ ih =>
    intro v1 v2 v3 v4 H
    rw [r230_l0]
    refine f_seq ?_
    refine f_region ?_
    refine f_op rfl rfl (s_lss rfl rfl) ?_
    refine f_nil ?_
    refine f_seq ?_
    refine f_if (fun h1 => ?_) (fun h1 => ?_)
    · skip
      refine f_know 9 rfl (dec_true h1) ?_
      refine f_condT rfl ?_
      refine f_skip ?_
      refine f_seq ?_
      refine f_block ?_
      refine f_seq ?_
      refine f_region ?_
      refine f_op rfl rfl (s_mv (v := .int .i64 v4) rfl) ?_
      refine f_op rfl rfl (s_as (v := .int .i64 v4) rfl) ?_
      refine f_nil ?_
      refine f_seq ?_
      refine f_bind ?_; intro x2 hx2
      refine f_bind ?_; intro x3 hx3
      refine f_ck fun g4 => ?_
      refine f_bind ?_; intro x5 hx5
      refine f_bind ?_; intro x6 hx6
      refine f_draw (Φ := fun _ => True) (lim := 1000000) [1, 0, 0, 0, 1, 0] (Trc.read rfl rfl rfl (s_loads Tryz.underlying101 rfl ty101 rfl (lds_cons (ldI_eq hx2) (lds_cons (ldI_eq hx3) (lds_nil)))) (Trc.pure rfl rfl rfl (.inl fun _ => s_mv (v := .sl v1) rfl) (Trc.pure rfl rfl rfl (.inl fun _ => s_mv (v := .int .i64 v4) rfl) (Trc.pure rfl rfl rfl (.inl fun _ => s_idx Tryz.underlying27 ty101 rfl rfl g4) (Trc.read rfl rfl rfl (s_loads Tryz.underlying101 rfl ty101 rfl (lds_cons (ldI_eq hx5) (lds_cons (ldI_eq hx6) (lds_nil)))) (Trc.pure rfl rfl rfl (.inl fun _ => s_eqArr eg101 Tryz.underlying101 Tryz.underlying3 ty3 rfl rfl rfl rfl rfl rfl) (Trc.nil (fun _ => trivial)))))))) rfl (by decide +kernel) mixed ?_
      refine f_if (fun h7 => ?_) (fun h7 => ?_)
      · skip
        refine f_know 16 rfl (bool_T h7) ?_
        refine f_condT rfl ?_
        refine f_seq ?_
        refine f_region ?_
        refine f_op rfl rfl (s_mv (v := .int .i64 v4) rfl) ?_
        refine f_op rfl rfl (s_as (v := .int .i64 v4) rfl) ?_
        refine f_nil ?_
        exact f_ret (.tmp rfl (.nil)) rfl
      · skip
        refine f_know 16 rfl (bool_F h7) ?_
        refine f_condF rfl ?_
        refine f_skip ?_
        refine f_inBlock ?_
        refine f_region ?_
        refine f_op rfl rfl (s_add rfl rfl) ?_
        refine f_op rfl rfl (s_mv (v := .int .i64 (w64 (v4 + 1))) rfl) ?_
        refine f_nil ?_
        refine f_inLoop ?_
        refine f_keep [0, 3, 7, 8] ?_
        exact ih v1 v2 v3 (w64 (v4 + 1)) H
    · skip
      refine f_know 9 rfl (dec_false h1) ?_
      refine f_condF rfl ?_
      refine f_exit rfl ?_
      refine f_seq ?_
      refine f_region ?_
      refine f_op rfl rfl (s_as (v := .int .i64 (-1)) rfl) ?_
      refine f_nil ?_
      exact f_ret (.tmp rfl (.nil)) rfl

theorem sim230 {a0 : Sl} {a1_0 : Int} {a1_1 : Int} {H : Hp} {p : Int × Hp} (h : r230 a0 a1_0 a1_1 H = some p) : CallSim Tryz.prog 230 [.sl a0, .agg [.int .i64 a1_0, .int .i64 a1_1]] H (.int .i64 p.1) p.2 := by
  refine callSim (fn := Tryz.f230) (ret := ret230) Tryz.func230 rfl Tryz.ntmps230 rfl ?_ h
  unfold r230
  refine f_seq ?_
  refine f_region ?_
  refine f_op rfl rfl (s_box (v := .agg [.int .i64 a1_0, .int .i64 a1_1]) rfl rfl) ?_
  refine f_op rfl rfl (s_as (v := .int .i64 0) rfl) ?_
  refine o_hp ?_; intro H1 hH1
  refine f_nil ?_
  refine f_seq ?_
  refine f_seq ?_
  refine f_region ?_
  refine f_op rfl rfl (s_mv (v := .sl a0) rfl) ?_
  refine f_op rfl rfl (s_lenS rfl Tryz.underlying27 rfl) ?_
  refine f_op rfl rfl (s_mv (v := .int .i64 0) rfl) ?_
  refine f_nil ?_
  refine f_block ?_
  refine f_loop ?_
  refine f_keep [0, 3, 7, 8] ?_
  exact s230_l0 FUEL a0 H.n (a0.len : Int) 0 H1

/- 170 slices.Contains[[][2]int,[2]int] -/
theorem ok170 : FnOk Tryz.prog 170 := ⟨⟨Tryz.f170, Tryz.func170, by kernel_rfl, rfl⟩⟩
theorem sim170 {a0 : Sl} {a1_0 : Int} {a1_1 : Int} {H : Hp} {p : Bool × Hp} (h : r170 a0 a1_0 a1_1 H = some p) : CallSim Tryz.prog 170 [.sl a0, .agg [.int .i64 a1_0, .int .i64 a1_1]] H (.bool p.1) p.2 := by
  refine callSim (fn := Tryz.f170) (ret := ret170) Tryz.func170 rfl Tryz.ntmps170 rfl ?_ h
  unfold r170
  refine f_seq ?_
  refine f_region ?_
  refine f_op rfl rfl (s_box (v := .agg [.int .i64 a1_0, .int .i64 a1_1]) rfl rfl) ?_
  refine f_op rfl rfl (s_as (v := .bool false) rfl) ?_
  refine o_hp ?_; intro H1 hH1
  refine f_nil ?_
  refine f_seq ?_
  refine f_region ?_
  refine f_op rfl rfl (s_mv (v := .sl a0) rfl) ?_
  refine o_bind ?_; intro x2 hx2
  refine o_bind ?_; intro x3 hx3
  refine f_op rfl rfl (s_loads Tryz.underlying101 rfl ty101 rfl (lds_cons (ldI_eq hx2) (lds_cons (ldI_eq hx3) (lds_nil)))) ?_
  refine o_bind ?_; intro p4 hp4
  refine f_op rfl rfl (s_callF rfl ok230 (sim230 hp4)) ?_
  refine f_op rfl rfl (s_geq rfl rfl) ?_
  refine f_op rfl rfl (s_as (v := .bool (decide (0 ≤ p4.1))) rfl) ?_
  refine f_nil ?_
  exact f_ret (.tmp rfl (.nil)) rfl

/- 116 (*congou/chest.state).offer -/
theorem ok116 : FnOk Tryz.prog 116 := ⟨⟨Tryz.f116, Tryz.func116, by kernel_rfl, rfl⟩⟩
theorem sim116 {a0b : Nat} {a0o : Nat} {a1_0 : Sl} {a1_1 : Sl} {H : Hp} {p : Int × Hp} (h : r116 a0b a0o a1_0 a1_1 H = some p) : CallSim Tryz.prog 116 [.ptr a0b a0o, .agg [.sl a1_0, .sl a1_1]] H (.int .i64 p.1) p.2 := by
  refine callSim (fn := Tryz.f116) (ret := ret116) Tryz.func116 rfl Tryz.ntmps116 rfl ?_ h
  unfold r116
  refine f_seq ?_
  refine f_region ?_
  refine f_op rfl rfl (s_box (v := .agg [.sl a1_0, .sl a1_1]) rfl rfl) ?_
  refine f_op rfl rfl (s_as (v := .int .i64 0) rfl) ?_
  refine o_hp ?_; intro H1 hH1
  refine f_nil ?_
  refine f_seq ?_
  refine f_bind ?_; intro x2 hx2
  refine f_ck fun g3 => ?_
  refine f_bind ?_; intro x4 hx4
  refine f_bind ?_; intro x5 hx5
  refine f_ck fun g6 => ?_
  refine f_bind ?_; intro x7 hx7
  refine f_bind ?_; intro H8 hH8
  refine f_drawF (Φ := fun _ => True) (lim := 1000000) [0, 1, 0, 1, 0, 1, 0, 1, 0, 2, 2] [false, false, false, false, false, false, false, false, false, true, false] 9 10 (Trc.pure rfl rfl rfl (.inl fun _ => s_fieldAddr Tryz.underlying167 rfl ty25 rfl) (Trc.read rfl rfl rfl (s_load Tryz.underlying25 rfl rfl (ldSl_eq hx2)) (Trc.pure rfl rfl rfl (.inl fun _ => s_idx Tryz.underlying25 ty3 rfl rfl g3) (Trc.read rfl rfl rfl (s_load Tryz.underlying3 rfl rfl (ldI_eq hx4)) (Trc.pure rfl rfl rfl (.inl fun _ => s_fieldAddr Tryz.underlying167 rfl ty25 rfl) (Trc.read rfl rfl rfl (s_load Tryz.underlying25 rfl rfl (ldSl_eq hx5)) (Trc.pure rfl rfl rfl (.inl fun _ => s_idx Tryz.underlying25 ty3 rfl rfl g6) (Trc.read rfl rfl rfl (s_load Tryz.underlying3 rfl rfl (ldI_eq hx7)) (Trc.pure rfl rfl rfl (.inl fun _ => s_buildA (cs := [.int .i64 x4, .int .i64 x7]) Tryz.underlying101 ty101 ty3 rfl rfl) (Trc.fl .p rfl rfl rfl (fun _ => trivial) rfl (by rfl) (fun _ => s_alloc (zs := [.int .i64 0, .int .i64 0]) ty101 rfl rfl) (Trc.eff rfl rfl rfl (fun _ => trivial) (s_stores ty101 rfl rfl rfl rfl hH8 (Nat.le_of_eq (sts_mono hH8).symm)) (Trc.nil (fun _ => trivial))))))))))))) rfl rfl (by decide +kernel) mixed ?_
  refine f_seq ?_
  refine f_block ?_
  refine f_seq ?_
  refine f_bind ?_; intro x9 hx9
  refine f_bind ?_; intro x10 hx10
  refine f_bind ?_; intro x11 hx11
  refine f_bind ?_; intro p12 hp12
  refine f_draw (Φ := fun _ => True) (lim := 1000000) [0, 0, 0, 1, 1, 2, 0] (Trc.pure rfl rfl rfl (.inl fun _ => s_mv (v := .ptr a0b a0o) rfl) (Trc.pure rfl rfl rfl (.inl fun _ => s_nilCheck rfl) (Trc.pure rfl rfl rfl (.inl fun _ => s_fieldAddr Tryz.underlying150 rfl ty27 rfl) (Trc.read rfl rfl rfl (s_load Tryz.underlying27 rfl rfl (ldSl_eq hx9)) (Trc.read rfl rfl rfl (s_loads Tryz.underlying101 rfl ty101 rfl (lds_cons (ldI_eq hx10) (lds_cons (ldI_eq hx11) (lds_nil)))) (Trc.eff rfl rfl rfl (fun _ => trivial) (s_callF rfl ok170 (sim170 hp12)) (Trc.pure rfl rfl rfl (.inl fun _ => s_as (v := .bool p12.1) rfl) (Trc.nil (fun _ => trivial))))))))) rfl (by decide +kernel) mixed ?_
  refine f_if (fun h13 => ?_) (fun h13 => ?_)
  · skip
    refine f_know 15 rfl (bool_T h13) ?_
    refine f_condT rfl ?_
    refine f_seq ?_
    refine f_region ?_
    refine f_op rfl rfl (s_as (v := .int .i64 5) rfl) ?_
    refine f_nil ?_
    exact f_ret (.tmp rfl (.nil)) rfl
  · skip
    refine f_know 15 rfl (bool_F h13) ?_
    refine f_condF rfl ?_
    refine f_seq ?_
    refine f_region ?_
    refine f_op rfl rfl (s_idxA Tryz.underlying101 ty3 rfl rfl (by decide)) ?_
    refine o_bind ?_; intro x14 hx14
    refine f_op rfl rfl (s_load Tryz.underlying3 rfl rfl (ldI_eq hx14)) ?_
    refine f_op rfl rfl (s_idxA Tryz.underlying101 ty3 rfl rfl (by decide)) ?_
    refine o_bind ?_; intro x15 hx15
    refine f_op rfl rfl (s_load Tryz.underlying3 rfl rfl (ldI_eq hx15)) ?_
    refine f_op rfl rfl (s_max2 rfl rfl) ?_
    refine f_op rfl rfl (s_gtr rfl rfl) ?_
    refine f_op rfl rfl (s_as (v := .bool (decide (30 < (if x14 < x15 then x15 else x14)))) rfl) ?_
    refine f_nil ?_
    refine f_if (fun h16 => ?_) (fun h16 => ?_)
    · skip
      refine f_know 22 rfl (dec_true h16) ?_
      refine f_condT rfl ?_
      refine f_seq ?_
      refine f_region ?_
      refine f_op rfl rfl (s_as (v := .int .i64 2) rfl) ?_
      refine f_nil ?_
      exact f_ret (.tmp rfl (.nil)) rfl
    · skip
      refine f_know 22 rfl (dec_false h16) ?_
      refine f_condF rfl ?_
      refine f_seq ?_
      refine f_region ?_
      refine f_op rfl rfl (s_mv (v := .ptr a0b a0o) rfl) ?_
      refine f_op rfl rfl (s_nilCheck rfl) ?_
      refine f_op rfl rfl (s_fieldAddr Tryz.underlying150 rfl ty27 rfl) ?_
      refine o_bind ?_; intro x17 hx17
      refine f_op rfl rfl (s_load Tryz.underlying27 rfl rfl (ldSl_eq hx17)) ?_
      refine f_op rfl rfl (s_lenS rfl Tryz.underlying27 rfl) ?_
      refine f_op rfl rfl (s_eql rfl rfl) ?_
      refine f_op rfl rfl (s_as (v := .bool (decide ((x17.len : Int) = 8))) rfl) ?_
      refine f_nil ?_
      refine f_if (fun h18 => ?_) (fun h18 => ?_)
      · skip
        refine f_know 29 rfl (dec_true h18) ?_
        refine f_condT rfl ?_
        refine f_seq ?_
        refine f_region ?_
        refine f_op rfl rfl (s_as (v := .int .i64 7) rfl) ?_
        refine f_nil ?_
        exact f_ret (.tmp rfl (.nil)) rfl
      · skip
        refine f_know 29 rfl (dec_false h18) ?_
        refine f_condF rfl ?_
        refine f_skip ?_
        refine f_inBlock ?_
        refine f_seq ?_
        refine f_bind ?_; intro x19 hx19
        refine f_bind ?_; intro x20 hx20
        refine f_bind ?_; intro x21 hx21
        refine f_bind ?_; intro x22 hx22
        refine f_bind ?_; intro H23 hH23
        refine f_drawF (Φ := fun _ => True) (lim := 1000000) [0, 0, 0, 0, 1, 1, 2, 2, 0, 0, 2] [false, false, false, false, false, false, true, false, false, false, false] 6 7 (Trc.pure rfl rfl rfl (.inl fun _ => s_mv (v := .ptr a0b a0o) rfl) (Trc.pure rfl rfl rfl (.inl fun _ => s_mv (v := .ptr a0b a0o) rfl) (Trc.pure rfl rfl rfl (.inl fun _ => s_nilCheck rfl) (Trc.pure rfl rfl rfl (.inl fun _ => s_fieldAddr Tryz.underlying150 rfl ty27 rfl) (Trc.read rfl rfl rfl (s_load Tryz.underlying27 rfl rfl (ldSl_eq hx19)) (Trc.read rfl rfl rfl (s_loads Tryz.underlying101 rfl ty101 rfl (lds_cons (ldI_eq hx20) (lds_cons (ldI_eq hx21) (lds_nil)))) (Trc.fl (.s 1) rfl rfl rfl (fun _ => trivial) rfl (by rfl) (fun _ => s_buildSlice (cs := [.int .i64 x20, .int .i64 x21]) Tryz.underlying27 ty101 (by decide) (by decide) rfl (by decide) rfl) (Trc.eff rfl rfl rfl (fun _ => trivial) (s_ap rfl rfl Tryz.underlying27 Tryz.underlying27 ty101 rfl rfl rfl rfl rfl rfl rfl hx22) (Trc.pure rfl rfl rfl (.inl fun _ => s_nilCheck rfl) (Trc.pure rfl rfl rfl (.inl fun _ => s_fieldAddr Tryz.underlying150 rfl ty27 rfl) (Trc.eff rfl rfl rfl (fun _ => trivial) (s_store (s := 1) ty27 rfl rfl rfl hH23) (Trc.nil (fun _ => trivial))))))))))))) rfl rfl (by decide +kernel) mixed ?_
        refine f_seq ?_
        refine f_region ?_
        refine f_op rfl rfl (s_as (v := .int .i64 0) rfl) ?_
        refine f_nil ?_
        exact f_ret (.tmp rfl (.nil)) rfl

/- 118 (*congou/chest.Chest).child$1 -/
theorem ok118 : FnOk Tryz.prog 118 := ⟨⟨Tryz.f118, Tryz.func118, by kernel_rfl, rfl⟩⟩
theorem sim118 {a0_0 : ByteArray} {a0_1 : Int} {a0_2b : Nat} {a0_2o : Nat} {c0 : Nat} {c1 : Nat} {H : Hp} {p : Bool × Hp} (h : r118 a0_0 a0_1 a0_2b a0_2o c0 c1 H = some p) : CallSim Tryz.prog 118 [.agg [.str a0_0, .int .i64 a0_1, .ptr a0_2b a0_2o], .ptr c0 0, .ptr c1 0] H (.bool p.1) p.2 := by
  refine callSim (fn := Tryz.f118) (ret := ret118) Tryz.func118 rfl Tryz.ntmps118 rfl ?_ h
  unfold r118
  refine f_seq ?_
  refine f_region ?_
  refine f_op rfl rfl (s_box (v := .agg [.str a0_0, .int .i64 a0_1, .ptr a0_2b a0_2o]) rfl rfl) ?_
  refine f_op rfl rfl (s_as (v := .bool false) rfl) ?_
  refine o_hp ?_; intro H1 hH1
  refine f_nil ?_
  refine f_seq ?_
  refine f_region ?_
  refine f_op rfl rfl (s_fieldAddr Tryz.underlying120 rfl ty9 rfl) ?_
  refine o_bind ?_; intro x2 hx2
  refine f_op rfl rfl (s_load Tryz.underlying9 rfl rfl (ldStr_eq hx2)) ?_
  refine o_bind ?_; intro x3 hx3
  refine f_op rfl rfl (s_load Tryz.underlying9 rfl rfl (ldStr_eq hx3)) ?_
  refine f_op rfl rfl (s_eqStr rfl rfl) ?_
  refine f_op rfl rfl (s_mv (v := .bool (strEq x2 x3)) rfl) ?_
  refine o_if (fun h4 => ?_) (fun h4 => ?_)
  · skip
    refine o_know 9 rfl (bool_T h4) ?_
    refine f_op rfl rfl (s_fieldAddr Tryz.underlying120 rfl ty3 rfl) ?_
    refine o_bind ?_; intro x5 hx5
    refine f_op rfl rfl (s_load Tryz.underlying3 rfl rfl (ldI_eq hx5)) ?_
    refine o_bind ?_; intro x6 hx6
    refine f_op rfl rfl (s_load Tryz.underlying3 rfl rfl (ldI_eq hx6)) ?_
    refine f_op rfl rfl (s_eql rfl rfl) ?_
    refine f_op rfl rfl (s_pickT (v := .bool (decide (x5 = x6))) rfl rfl) ?_
    refine f_op rfl rfl (s_mv (v := .bool (decide (x5 = x6))) rfl) ?_
    refine o_if (fun h7 => ?_) (fun h7 => ?_)
    · skip
      refine o_know 15 rfl (dec_true h7) ?_
      refine f_op rfl rfl (s_fieldAddr Tryz.underlying120 rfl ty9 rfl) ?_
      refine o_bind ?_; intro x8 hx8
      refine f_op rfl rfl (s_load Tryz.underlying9 rfl rfl (ldStr_eq hx8)) ?_
      refine f_op rfl rfl (s_neStr rfl rfl) ?_
      refine f_op rfl rfl (s_pickT (v := .bool (!(strEq x8 (ByteArray.mk #[])))) rfl rfl) ?_
      refine f_op rfl rfl (s_as (v := .bool (!(strEq x8 (ByteArray.mk #[])))) rfl) ?_
      refine f_nil ?_
      exact f_ret (.tmp rfl (.nil)) rfl
    · skip
      refine o_know 15 rfl (dec_false h7) ?_
      refine f_no rfl rfl ?_
      refine f_no rfl rfl ?_
      refine f_no rfl rfl ?_
      refine f_op rfl rfl (s_pickF (v := .bool false) rfl rfl) ?_
      refine f_op rfl rfl (s_as (v := .bool false) rfl) ?_
      refine f_nil ?_
      exact f_ret (.tmp rfl (.nil)) rfl
  · skip
    refine o_know 9 rfl (bool_F h4) ?_
    refine f_no rfl rfl ?_
    refine f_no rfl rfl ?_
    refine f_no rfl rfl ?_
    refine f_no rfl rfl ?_
    refine f_op rfl rfl (s_pickF (v := .bool false) rfl rfl) ?_
    refine f_op rfl rfl (s_mv (v := .bool false) rfl) ?_
    refine f_no rfl rfl ?_
    refine f_no rfl rfl ?_
    refine f_no rfl rfl ?_
    refine f_op rfl rfl (s_pickF (v := .bool false) rfl rfl) ?_
    refine f_op rfl rfl (s_as (v := .bool false) rfl) ?_
    refine f_nil ?_
    exact f_ret (.tmp rfl (.nil)) rfl

/- 130 (*congou/chest.Chest).has$1 -/
theorem ok130 : FnOk Tryz.prog 130 := ⟨⟨Tryz.f130, Tryz.func130, by kernel_rfl, rfl⟩⟩
theorem sim130 {a0 : Int} {c0 : Nat} {H : Hp} {p : Bool × Hp} (h : r130 a0 c0 H = some p) : CallSim Tryz.prog 130 [.int .i64 a0, .ptr c0 0] H (.bool p.1) p.2 := by
  refine callSim (fn := Tryz.f130) (ret := ret130) Tryz.func130 rfl Tryz.ntmps130 rfl ?_ h
  unfold r130
  refine f_seq ?_
  refine f_region ?_
  refine f_op rfl rfl (s_as (v := .bool false) rfl) ?_
  refine f_nil ?_
  refine f_seq ?_
  refine f_region ?_
  refine f_op rfl rfl (s_mv (v := .int .i64 a0) rfl) ?_
  refine f_op rfl rfl (s_lss rfl rfl) ?_
  refine f_op rfl rfl (s_mv (v := .bool (decide (a0 < 0))) rfl) ?_
  refine o_if (fun h1 => ?_) (fun h1 => ?_)
  · skip
    refine o_know 6 rfl (dec_true h1) ?_
    refine f_no rfl rfl ?_
    refine f_no rfl rfl ?_
    refine f_no rfl rfl ?_
    refine f_no rfl rfl ?_
    refine f_no rfl rfl ?_
    refine f_no rfl rfl ?_
    refine f_no rfl rfl ?_
    refine f_op rfl rfl (s_pickT (v := .bool true) rfl rfl) ?_
    refine f_op rfl rfl (s_as (v := .bool true) rfl) ?_
    refine f_nil ?_
    exact f_ret (.tmp rfl (.nil)) rfl
  · skip
    refine o_know 6 rfl (dec_false h1) ?_
    refine f_op rfl rfl (s_mv (v := .int .i64 a0) rfl) ?_
    refine o_bind ?_; intro x2 hx2
    refine f_op rfl rfl (s_load Tryz.underlying23 rfl rfl (ldP_eq hx2)) ?_
    refine f_op rfl rfl (s_nilCheck rfl) ?_
    refine f_op rfl rfl (s_fieldAddr Tryz.underlying118 rfl ty116 rfl) ?_
    refine o_bind ?_; intro x3 hx3
    refine f_op rfl rfl (s_load Tryz.underlying116 rfl rfl (ldSl_eq hx3)) ?_
    refine f_op rfl rfl (s_lenS rfl Tryz.underlying116 rfl) ?_
    refine f_op rfl rfl (s_geq rfl rfl) ?_
    refine f_op rfl rfl (s_pickF (v := .bool (decide ((x3.len : Int) ≤ a0))) rfl rfl) ?_
    refine f_op rfl rfl (s_as (v := .bool (decide ((x3.len : Int) ≤ a0))) rfl) ?_
    refine f_nil ?_
    exact f_ret (.tmp rfl (.nil)) rfl

/- 132 (*congou/chest.state).text$1 -/
theorem ok132 : FnOk Tryz.prog 132 := ⟨⟨Tryz.f132, Tryz.func132, by kernel_rfl, rfl⟩⟩
theorem sim132 {app : App} (happ : AppSim Tryz.prog app) {a0 : ByteArray} {a1 : Sl} {c0 : Nat} {H : Hp} {p : Unit × Hp} (h : r132 app a0 a1 c0 H = some p) : CallSim Tryz.prog 132 [.str a0, .sl a1, .ptr c0 0] H (.tup []) p.2 := by
  refine callSim (fn := Tryz.f132) (ret := ret132) Tryz.func132 rfl Tryz.ntmps132 rfl ?_ h
  unfold r132
  refine f_region ?_
  refine f_op rfl rfl (s_mv (v := .str a0) rfl) ?_
  refine f_op rfl rfl (s_buildSlice (cs := [.str a0]) Tryz.underlying22 ty9 (by decide) (by decide) rfl (by decide) rfl) ?_
  refine f_op rfl rfl (s_mv (v := .sl a1) rfl) ?_
  refine o_bind ?_; intro x1 hx1
  refine o_ck fun g2 => ?_
  refine o_bind ?_; intro x3 hx3
  refine f_op rfl rfl (s_append rfl rfl Tryz.underlying22 Tryz.underlying22 ty9 (by decide) rfl (by decide) rfl rfl hx1 g2 hx3) ?_
  refine o_bind ?_; intro p4 hp4
  refine o_bind ?_; intro x5 hx5
  refine f_op rfl rfl (s_callA happ rfl hp4) ?_
  refine o_know 9 rfl (asStr_eq hx5) ?_
  refine o_ck fun g6 => ?_
  refine f_op rfl rfl (s_addStr rfl rfl g6) ?_
  refine o_bind ?_; intro p7 hp7
  refine o_bind ?_; intro x8 hx8
  refine o_ck fun g9 => ?_
  refine o_bind ?_; intro x10 hx10
  refine o_bind ?_; intro x11 hx11
  refine o_bind ?_; intro x12 hx12
  refine f_op rfl rfl (s_callA happ rfl hp7) ?_
  refine o_know 11 rfl (tupOf2 hx8 g9 (gete hx10 (asI_eq hx11)) (gete hx12 (rfl))) ?_
  refine f_nil ?_
  exact f_end (.nil) rfl

/- 198 (*congou/chest.state).find$1 -/
theorem ok198 : FnOk Tryz.prog 198 := ⟨⟨Tryz.f198, Tryz.func198, by kernel_rfl, rfl⟩⟩
theorem sim198 {a0_0 : ByteArray} {a0_1 : Int} {c0 : Nat} {H : Hp} {p : Bool × Hp} (h : r198 a0_0 a0_1 c0 H = some p) : CallSim Tryz.prog 198 [.agg [.str a0_0, .int .i64 a0_1], .ptr c0 0] H (.bool p.1) p.2 := by
  refine callSim (fn := Tryz.f198) (ret := ret198) Tryz.func198 rfl Tryz.ntmps198 rfl ?_ h
  unfold r198
  refine f_seq ?_
  refine f_region ?_
  refine f_op rfl rfl (s_box (v := .agg [.str a0_0, .int .i64 a0_1]) rfl rfl) ?_
  refine f_op rfl rfl (s_as (v := .bool false) rfl) ?_
  refine o_hp ?_; intro H1 hH1
  refine f_nil ?_
  refine f_seq ?_
  refine f_region ?_
  refine f_op rfl rfl (s_fieldAddr Tryz.underlying186 rfl ty9 rfl) ?_
  refine o_bind ?_; intro x2 hx2
  refine f_op rfl rfl (s_load Tryz.underlying9 rfl rfl (ldStr_eq hx2)) ?_
  refine o_bind ?_; intro x3 hx3
  refine f_op rfl rfl (s_load Tryz.underlying9 rfl rfl (ldStr_eq hx3)) ?_
  refine f_op rfl rfl (s_eqStr rfl rfl) ?_
  refine f_op rfl rfl (s_as (v := .bool (strEq x2 x3)) rfl) ?_
  refine f_nil ?_
  exact f_ret (.tmp rfl (.nil)) rfl

end Go.Lt.P10
