/- PRINTED BY A PROGRAM OF OURS: what each function that 'DealsCorners' reaches computes on the abstract heap, and that the translated code does just that. Nothing is asked of the input. -/
import Derived.Test.YtficeemoekikdaaG7P5
set_option linter.unusedVariables false
set_option linter.unusedSimpArgs false
set_option maxRecDepth 100000
set_option maxHeartbeats 4000000
namespace Go.Lt.P5
open Go Go.Lt Go.Proofs
/- 58 slices.Index[[][2]int,[2]int] -/
theorem ok58 : FnOk Try.prog 58 := ⟨⟨Try.f58, Try.func58, by kernel_rfl, rfl⟩⟩
theorem s58_l0 : ∀ (k_ : Nat) (v1 : Sl) (v2 : Nat) (v3 : Int) (v4 : Int) (H : Hp), Fin Try.prog Try.f58 ret58 19 (todoAt (bodyOf Try.f58) [1, 0, 1, 0, 0] []) [(0, .sl v1), (3, .ptr v2 0), (7, .int .i64 v3), (8, .int .i64 v4)] H (r58_l0 k_ v1 v2 v3 v4 H) := by
  intro k_
  induction k_ with
  | zero => intro _ _ _ _ _; exact f_none
  | succ k_ ih =>
    intro v1 v2 v3 v4 H
    rw [r58_l0]
    refine f_seq ?_
    refine f_region ?_
    refine f_op rfl rfl (s_lss rfl rfl) ?_
    refine f_nil ?_
    refine f_seq ?_
    refine f_if (fun h1 => ?_) (fun h1 => ?_)
    · skip
      refine f_know 9 rfl (dec_true h1) ?_
      refine f_condT rfl ?_
      refine f_skip ?_
      refine f_seq ?_
      refine f_block ?_
      refine f_seq ?_
      refine f_region ?_
      refine f_op rfl rfl (s_mv (v := .int .i64 v4) rfl) ?_
      refine f_op rfl rfl (s_as (v := .int .i64 v4) rfl) ?_
      refine f_nil ?_
      refine f_seq ?_
      refine f_bind ?_; intro x2 hx2
      refine f_bind ?_; intro x3 hx3
      refine f_ck fun g4 => ?_
      refine f_bind ?_; intro x5 hx5
      refine f_bind ?_; intro x6 hx6
      refine f_draw (Φ := fun _ => True) (lim := 1000000) [1, 0, 0, 0, 1, 0] (Trc.read rfl rfl rfl (s_loads Try.underlying49 rfl ty49 rfl (lds_cons (ldI_eq hx2) (lds_cons (ldI_eq hx3) (lds_nil)))) (Trc.pure rfl rfl rfl (.inl fun _ => s_mv (v := .sl v1) rfl) (Trc.pure rfl rfl rfl (.inl fun _ => s_mv (v := .int .i64 v4) rfl) (Trc.pure rfl rfl rfl (.inl fun _ => s_idx Try.underlying35 ty49 rfl rfl g4) (Trc.read rfl rfl rfl (s_loads Try.underlying49 rfl ty49 rfl (lds_cons (ldI_eq hx5) (lds_cons (ldI_eq hx6) (lds_nil)))) (Trc.pure rfl rfl rfl (.inl fun _ => s_eqArr eg49 Try.underlying49 Try.underlying3 ty3 rfl rfl rfl rfl rfl rfl) (Trc.nil (fun _ => trivial)))))))) rfl (by decide +kernel) mixed ?_
      refine f_if (fun h7 => ?_) (fun h7 => ?_)
      · skip
        refine f_know 16 rfl (bool_T h7) ?_
        refine f_condT rfl ?_
        refine f_seq ?_
        refine f_region ?_
        refine f_op rfl rfl (s_mv (v := .int .i64 v4) rfl) ?_
        refine f_op rfl rfl (s_as (v := .int .i64 v4) rfl) ?_
        refine f_nil ?_
        exact f_ret (.tmp rfl (.nil)) rfl
      · skip
        refine f_know 16 rfl (bool_F h7) ?_
        refine f_condF rfl ?_
        refine f_skip ?_
        refine f_inBlock ?_
        refine f_region ?_
        refine f_op rfl rfl (s_add rfl rfl) ?_
        refine f_op rfl rfl (s_mv (v := .int .i64 (w64 (v4 + 1))) rfl) ?_
        refine f_nil ?_
        refine f_inLoop ?_
        refine f_keep [0, 3, 7, 8] ?_
        exact ih v1 v2 v3 (w64 (v4 + 1)) H
    · skip
      refine f_know 9 rfl (dec_false h1) ?_
      refine f_condF rfl ?_
      refine f_exit rfl ?_
      refine f_seq ?_
      refine f_region ?_
      refine f_op rfl rfl (s_as (v := .int .i64 (-1)) rfl) ?_
      refine f_nil ?_
      exact f_ret (.tmp rfl (.nil)) rfl

theorem sim58 {a0 : Sl} {a1_0 : Int} {a1_1 : Int} {H : Hp} {p : Int × Hp} (h : r58 a0 a1_0 a1_1 H = some p) : CallSim Try.prog 58 [.sl a0, .agg [.int .i64 a1_0, .int .i64 a1_1]] H (.int .i64 p.1) p.2 := by
  refine callSim (fn := Try.f58) (ret := ret58) Try.func58 rfl Try.ntmps58 rfl ?_ h
  unfold r58
  refine f_seq ?_
  refine f_region ?_
  refine f_op rfl rfl (s_box (v := .agg [.int .i64 a1_0, .int .i64 a1_1]) rfl rfl) ?_
  refine f_op rfl rfl (s_as (v := .int .i64 0) rfl) ?_
  refine o_hp ?_; intro H1 hH1
  refine f_nil ?_
  refine f_seq ?_
  refine f_seq ?_
  refine f_region ?_
  refine f_op rfl rfl (s_mv (v := .sl a0) rfl) ?_
  refine f_op rfl rfl (s_lenS rfl Try.underlying35 rfl) ?_
  refine f_op rfl rfl (s_mv (v := .int .i64 0) rfl) ?_
  refine f_nil ?_
  refine f_block ?_
  refine f_loop ?_
  refine f_keep [0, 3, 7, 8] ?_
  exact s58_l0 FUEL a0 H.n (a0.len : Int) 0 H1

/- 32 slices.Contains[[][2]int,[2]int] -/
theorem ok32 : FnOk Try.prog 32 := ⟨⟨Try.f32, Try.func32, by kernel_rfl, rfl⟩⟩
theorem sim32 {a0 : Sl} {a1_0 : Int} {a1_1 : Int} {H : Hp} {p : Bool × Hp} (h : r32 a0 a1_0 a1_1 H = some p) : CallSim Try.prog 32 [.sl a0, .agg [.int .i64 a1_0, .int .i64 a1_1]] H (.bool p.1) p.2 := by
  refine callSim (fn := Try.f32) (ret := ret32) Try.func32 rfl Try.ntmps32 rfl ?_ h
  unfold r32
  refine f_seq ?_
  refine f_region ?_
  refine f_op rfl rfl (s_box (v := .agg [.int .i64 a1_0, .int .i64 a1_1]) rfl rfl) ?_
  refine f_op rfl rfl (s_as (v := .bool false) rfl) ?_
  refine o_hp ?_; intro H1 hH1
  refine f_nil ?_
  refine f_seq ?_
  refine f_region ?_
  refine f_op rfl rfl (s_mv (v := .sl a0) rfl) ?_
  refine o_bind ?_; intro x2 hx2
  refine o_bind ?_; intro x3 hx3
  refine f_op rfl rfl (s_loads Try.underlying49 rfl ty49 rfl (lds_cons (ldI_eq hx2) (lds_cons (ldI_eq hx3) (lds_nil)))) ?_
  refine o_bind ?_; intro p4 hp4
  refine f_op rfl rfl (s_callF rfl ok58 (sim58 hp4)) ?_
  refine f_op rfl rfl (s_geq rfl rfl) ?_
  refine f_op rfl rfl (s_as (v := .bool (decide (0 ≤ p4.1))) rfl) ?_
  refine f_nil ?_
  exact f_ret (.tmp rfl (.nil)) rfl

/- 7 congou/congoulaw05.DealsCorners -/
theorem ok7 : FnOk Try.prog 7 := ⟨⟨Try.f7, Try.func7, by kernel_rfl, rfl⟩⟩
theorem s7_j6 {app : App} (happ : AppSim Try.prog app) (kt4 : Sl → Sl → Nat → Sl → Int → Int → Sl → Int → Int → Hp → Option (Bool × Hp)) (hkt4 : ∀ (v1 : Sl) (v2 : Sl) (v3 : Nat) (v4 : Sl) (v5 : Int) (v6 : Int) (v7 : Sl) (v8 : Int) (v9 : Int) (H : Hp), Fin Try.prog Try.f7 ret7 180 (todoAt (bodyOf Try.f7) [1, 1, 1, 1, 0, 1, 0, 0, 1, 1, 0, 0, 1, 1, 1, 0, 1, 0, 0] []) [(0, .sl v1), (3, .sl v2), (6, .ptr v3 0), (36, .sl v4), (37, .int .i64 v5), (38, .int .i64 v6), (109, .sl v7), (110, .int .i64 v8), (111, .int .i64 v9)] H (kt4 v1 v2 v3 v4 v5 v6 v7 v8 v9 H)) (v1 : Sl) (v2 : Sl) (v3 : Nat) (v4 : Sl) (v5 : Int) (v6 : Int) (v7 : Sl) (v8 : Int) (v9 : Int) (v10 : Bool) (H : Hp) : Fin Try.prog Try.f7 ret7 180 (todoAt (bodyOf Try.f7) [1, 1, 1, 1, 0, 1, 0, 0, 1, 1, 0, 0, 1, 1, 1, 0, 1, 0, 0, 1, 1, 0, 0, 1, 1] []) [(0, .sl v1), (3, .sl v2), (6, .ptr v3 0), (36, .sl v4), (37, .int .i64 v5), (38, .int .i64 v6), (109, .sl v7), (110, .int .i64 v8), (111, .int .i64 v9), (131, .bool v10)] H (r7_j6 app kt4 v1 v2 v3 v4 v5 v6 v7 v8 v9 v10 H) := by
  unfold r7_j6
  refine f_if (fun h1 => ?_) (fun h1 => ?_)
  · skip
    refine f_know 131 rfl (bool_T h1) ?_
    refine f_condT rfl ?_
    refine f_seq ?_
    refine f_region ?_
    refine f_op rfl rfl (s_as (v := .bool false) rfl) ?_
    refine f_nil ?_
    exact f_ret (.tmp rfl (.nil)) rfl
  · skip
    refine f_know 131 rfl (bool_F h1) ?_
    refine f_condF rfl ?_
    refine f_skip ?_
    refine f_inBlock ?_
    refine f_region ?_
    refine f_op rfl rfl (s_add rfl rfl) ?_
    refine f_op rfl rfl (s_mv (v := .int .i64 (w64 (v9 + 1))) rfl) ?_
    refine f_nil ?_
    refine f_inLoop ?_
    refine f_keep [0, 3, 6, 36, 37, 38, 109, 110, 111] ?_
    exact hkt4 v1 v2 v3 v4 v5 v6 v7 v8 (w64 (v9 + 1)) H

theorem s7_j7 {app : App} (happ : AppSim Try.prog app) (kt1 : Sl → Sl → Sl → Int → Int → Hp → Option (Bool × Hp)) (hkt1 : ∀ (v1 : Sl) (v2 : Sl) (v3 : Sl) (v4 : Int) (v5 : Int) (H : Hp), Fin Try.prog Try.f7 ret7 180 (todoAt (bodyOf Try.f7) [1, 1, 1, 1, 0, 1, 0, 0] []) [(0, .sl v1), (3, .sl v2), (36, .sl v3), (37, .int .i64 v4), (38, .int .i64 v5)] H (kt1 v1 v2 v3 v4 v5 H)) (v1 : Sl) (v2 : Sl) (v3 : Sl) (v4 : Int) (v5 : Int) (v6 : Bool) (H : Hp) : Fin Try.prog Try.f7 ret7 180 (todoAt (bodyOf Try.f7) [1, 1, 1, 1, 0, 1, 0, 0, 1, 1, 0, 0, 1, 1, 1, 1, 1, 1] []) [(0, .sl v1), (3, .sl v2), (36, .sl v3), (37, .int .i64 v4), (38, .int .i64 v5), (151, .bool v6)] H (r7_j7 app kt1 v1 v2 v3 v4 v5 v6 H) := by
  unfold r7_j7
  refine f_if (fun h1 => ?_) (fun h1 => ?_)
  · skip
    refine f_know 151 rfl (bool_T h1) ?_
    refine f_condT rfl ?_
    refine f_seq ?_
    refine f_region ?_
    refine f_op rfl rfl (s_as (v := .bool false) rfl) ?_
    refine f_nil ?_
    exact f_ret (.tmp rfl (.nil)) rfl
  · skip
    refine f_know 151 rfl (bool_F h1) ?_
    refine f_condF rfl ?_
    refine f_skip ?_
    refine f_inBlock ?_
    refine f_region ?_
    refine f_op rfl rfl (s_add rfl rfl) ?_
    refine f_op rfl rfl (s_mv (v := .int .i64 (w64 (v5 + 1))) rfl) ?_
    refine f_nil ?_
    refine f_inLoop ?_
    refine f_keep [0, 3, 36, 37, 38] ?_
    exact hkt1 v1 v2 v3 v4 (w64 (v5 + 1)) H

theorem s7_l4 {app : App} (happ : AppSim Try.prog app) (kt1 : Sl → Sl → Sl → Int → Int → Hp → Option (Bool × Hp)) (hkt1 : ∀ (v1 : Sl) (v2 : Sl) (v3 : Sl) (v4 : Int) (v5 : Int) (H : Hp), Fin Try.prog Try.f7 ret7 180 (todoAt (bodyOf Try.f7) [1, 1, 1, 1, 0, 1, 0, 0] []) [(0, .sl v1), (3, .sl v2), (36, .sl v3), (37, .int .i64 v4), (38, .int .i64 v5)] H (kt1 v1 v2 v3 v4 v5 H)) : ∀ (k_ : Nat) (v1 : Sl) (v2 : Sl) (v3 : Nat) (v4 : Sl) (v5 : Int) (v6 : Int) (v7 : Sl) (v8 : Int) (v9 : Int) (H : Hp), Fin Try.prog Try.f7 ret7 180 (todoAt (bodyOf Try.f7) [1, 1, 1, 1, 0, 1, 0, 0, 1, 1, 0, 0, 1, 1, 1, 0, 1, 0, 0] []) [(0, .sl v1), (3, .sl v2), (6, .ptr v3 0), (36, .sl v4), (37, .int .i64 v5), (38, .int .i64 v6), (109, .sl v7), (110, .int .i64 v8), (111, .int .i64 v9)] H (r7_l4 app kt1 k_ v1 v2 v3 v4 v5 v6 v7 v8 v9 H) := by
  intro k_
  induction k_ with
  | zero => intro _ _ _ _ _ _ _ _ _ _; exact f_none
  | succ k_ ih =>
    intro v1 v2 v3 v4 v5 v6 v7 v8 v9 H
    rw [r7_l4]
    refine f_seq ?_
    refine f_region ?_
    refine f_op rfl rfl (s_lss rfl rfl) ?_
    refine f_nil ?_
    refine f_seq ?_
    refine f_if (fun h1 => ?_) (fun h1 => ?_)
    · skip
      refine f_know 112 rfl (dec_true h1) ?_
      refine f_condT rfl ?_
      refine f_skip ?_
      refine f_seq ?_
      refine f_block ?_
      refine f_seq ?_
      refine f_region ?_
      refine o_ck fun g2 => ?_
      refine f_op rfl rfl (s_idx Try.underlying35 ty49 rfl rfl g2) ?_
      refine o_bind ?_; intro x3 hx3
      refine o_bind ?_; intro x4 hx4
      refine f_op rfl rfl (s_loads Try.underlying49 rfl ty49 rfl (lds_cons (ldI_eq hx3) (lds_cons (ldI_eq hx4) (lds_nil)))) ?_
      refine f_op rfl rfl (s_alloc (zs := [.int .i64 0, .int .i64 0]) ty49 rfl rfl) ?_
      refine o_bind ?_; intro H5 hH5
      refine f_op rfl rfl (s_stores ty49 rfl rfl rfl rfl hH5 (Nat.le_of_eq (sts_mono hH5).symm)) ?_
      refine f_nil ?_
      refine f_seq ?_
      refine f_region ?_
      refine o_bind ?_; intro x6 hx6
      refine o_bind ?_; intro x7 hx7
      refine f_op rfl rfl (s_loads Try.underlying49 rfl ty49 rfl (lds_cons (ldI_eq hx6) (lds_cons (ldI_eq hx7) (lds_nil)))) ?_
      refine o_bind ?_; intro x8 hx8
      refine o_bind ?_; intro x9 hx9
      refine f_op rfl rfl (s_loads Try.underlying49 rfl ty49 rfl (lds_cons (ldI_eq hx8) (lds_cons (ldI_eq hx9) (lds_nil)))) ?_
      refine f_op rfl rfl (s_neArr eg49 Try.underlying49 Try.underlying3 ty3 rfl rfl rfl rfl rfl rfl) ?_
      refine f_op rfl rfl (s_mv (v := .bool (!(AV.keqs [.int .i64 x6, .int .i64 x7] [.int .i64 x8, .int .i64 x9]))) rfl) ?_
      refine o_if (fun h10 => ?_) (fun h10 => ?_)
      · skip
        refine o_know 118 rfl (bool_notT h10) ?_
        refine f_no rfl rfl ?_
        refine f_no rfl rfl ?_
        refine f_no rfl rfl ?_
        refine f_no rfl rfl ?_
        refine f_no rfl rfl ?_
        refine f_op rfl rfl (s_pickF (v := .bool false) rfl rfl) ?_
        refine f_op rfl rfl (s_mv (v := .bool false) rfl) ?_
        refine f_no rfl rfl ?_
        refine f_no rfl rfl ?_
        refine f_no rfl rfl ?_
        refine f_no rfl rfl ?_
        refine f_no rfl rfl ?_
        refine f_op rfl rfl (s_pickF (v := .bool false) rfl rfl) ?_
        refine f_nil ?_
        refine f_keep [0, 3, 6, 36, 37, 38, 109, 110, 111, 131] ?_
        exact s7_j6 happ _ (fun v1_ v2_ v3_ v4_ v5_ v6_ v7_ v8_ v9_ H_ => ih v1_ v2_ v3_ v4_ v5_ v6_ v7_ v8_ v9_ H_) v1 v2 v3 v4 v5 v6 v7 v8 v9 false H5
      · skip
        refine o_know 118 rfl (bool_notF h10) ?_
        refine f_op rfl rfl (s_idxA Try.underlying49 ty3 rfl rfl (by decide)) ?_
        refine o_bind ?_; intro x11 hx11
        refine f_op rfl rfl (s_load Try.underlying3 rfl rfl (ldI_eq hx11)) ?_
        refine f_op rfl rfl (s_idxA Try.underlying49 ty3 rfl rfl (by decide)) ?_
        refine o_bind ?_; intro x12 hx12
        refine f_op rfl rfl (s_load Try.underlying3 rfl rfl (ldI_eq hx12)) ?_
        refine f_op rfl rfl (s_geq rfl rfl) ?_
        refine f_op rfl rfl (s_pickT (v := .bool (decide (x12 ≤ x11))) rfl rfl) ?_
        refine f_op rfl rfl (s_mv (v := .bool (decide (x12 ≤ x11))) rfl) ?_
        refine o_if (fun h13 => ?_) (fun h13 => ?_)
        · skip
          refine o_know 125 rfl (dec_true h13) ?_
          refine f_op rfl rfl (s_idxA Try.underlying49 ty3 rfl rfl (by decide)) ?_
          refine o_bind ?_; intro x14 hx14
          refine f_op rfl rfl (s_load Try.underlying3 rfl rfl (ldI_eq hx14)) ?_
          refine f_op rfl rfl (s_idxA Try.underlying49 ty3 rfl rfl (by decide)) ?_
          refine o_bind ?_; intro x15 hx15
          refine f_op rfl rfl (s_load Try.underlying3 rfl rfl (ldI_eq hx15)) ?_
          refine f_op rfl rfl (s_geq rfl rfl) ?_
          refine f_op rfl rfl (s_pickT (v := .bool (decide (x15 ≤ x14))) rfl rfl) ?_
          refine f_nil ?_
          refine f_keep [0, 3, 6, 36, 37, 38, 109, 110, 111, 131] ?_
          exact s7_j6 happ _ (fun v1_ v2_ v3_ v4_ v5_ v6_ v7_ v8_ v9_ H_ => ih v1_ v2_ v3_ v4_ v5_ v6_ v7_ v8_ v9_ H_) v1 v2 v3 v4 v5 v6 v7 v8 v9 (decide (x15 ≤ x14)) H5
        · skip
          refine o_know 125 rfl (dec_false h13) ?_
          refine f_no rfl rfl ?_
          refine f_no rfl rfl ?_
          refine f_no rfl rfl ?_
          refine f_no rfl rfl ?_
          refine f_no rfl rfl ?_
          refine f_op rfl rfl (s_pickF (v := .bool false) rfl rfl) ?_
          refine f_nil ?_
          refine f_keep [0, 3, 6, 36, 37, 38, 109, 110, 111, 131] ?_
          exact s7_j6 happ _ (fun v1_ v2_ v3_ v4_ v5_ v6_ v7_ v8_ v9_ H_ => ih v1_ v2_ v3_ v4_ v5_ v6_ v7_ v8_ v9_ H_) v1 v2 v3 v4 v5 v6 v7 v8 v9 false H5
    · skip
      refine f_know 112 rfl (dec_false h1) ?_
      refine f_condF rfl ?_
      refine f_exit rfl ?_
      refine f_seq ?_
      refine f_bind ?_; intro p16 hp16
      refine f_bind ?_; intro x17 hx17
      refine f_bind ?_; intro x18 hx18
      refine f_bind ?_; intro p19 hp19
      refine f_ck fun g20 => ?_
      refine f_ck fun g21 => ?_
      refine f_draw (Φ := fun H_ => H_.ld v3 (0 + (0 : Int).toNat * 1) = some (.int .i64 x17) ∧ H_.ld v3 (0 + (1 : Int).toNat * 1) = some (.int .i64 x18)) (lim := 9) [0, 2, 0, 0, 0, 0, 0, 0, 0, 2, 0, 0, 0, 0, 0] (Trc.pure rfl rfl rfl (.inl fun _ => s_mv (v := .sl v1) rfl) (Trc.eff rfl rfl rfl (fun _ => ⟨ldI_eq g20, ldI_eq g21⟩) (s_callF rfl ok24 (sim24 hp16)) (Trc.pure rfl rfl rfl (.inl fun _ => s_idxA Try.underlying49 ty3 rfl rfl (by decide)) (Trc.pure rfl rfl rfl (.inr ⟨by decide +kernel, fun _ hp_ => s_load Try.underlying3 rfl rfl hp_.1⟩) (Trc.pure rfl rfl rfl (.inl fun _ => s_build (cs := [.int .i64 x17, .int .i64 1]) Try.underlying23 ty23 rfl pl23 rfl) (Trc.pure rfl rfl rfl (.inl fun _ => s_idxA Try.underlying49 ty3 rfl rfl (by decide)) (Trc.pure rfl rfl rfl (.inr ⟨by decide +kernel, fun _ hp_ => s_load Try.underlying3 rfl rfl hp_.2⟩) (Trc.pure rfl rfl rfl (.inl fun _ => s_build (cs := [.int .i64 x18, .int .i64 1]) Try.underlying23 ty23 rfl pl23 rfl) (Trc.pure rfl rfl rfl (.inl fun _ => s_build (cs := [.int .i64 x17, .int .i64 1, .int .i64 x18, .int .i64 1]) Try.underlying41 ty41 rfl pl41 rfl) (Trc.eff rfl rfl rfl (fun _ => ⟨ldI_eq hx17, ldI_eq hx18⟩) (s_callF rfl ok23 (sim23 happ hp19)) (Trc.pure rfl rfl rfl (.inl fun _ => s_mv (v := .tup [.bool p19.1.1, .int .i64 p19.1.2]) rfl) (Trc.pure rfl rfl rfl (.inl fun _ => s_extract (r := .bool p19.1.1) rfl rfl) (Trc.pure rfl rfl rfl (.inl fun _ => s_extract (r := .int .i64 p19.1.2) rfl rfl) (Trc.pure rfl rfl rfl (.inl fun _ => s_as (v := .bool p19.1.1) rfl) (Trc.pure rfl rfl rfl (.inl fun _ => s_as (v := .int .i64 p19.1.2) rfl) (Trc.nil (fun h_ => absurd h_ (by decide +kernel)))))))))))))))))) rfl (by decide +kernel) mixed ?_
      refine f_seq ?_
      refine f_region ?_
      refine f_op rfl rfl (s_mv (v := .bool p19.1.1) rfl) ?_
      refine f_op rfl rfl (s_not rfl) ?_
      refine f_op rfl rfl (s_mv (v := .bool (!p19.1.1)) rfl) ?_
      refine o_if (fun h22 => ?_) (fun h22 => ?_)
      · skip
        refine o_know 148 rfl (bool_notT h22) ?_
        refine f_op rfl rfl (s_mv (v := .int .i64 p19.1.2) rfl) ?_
        refine f_op rfl rfl (s_neq rfl rfl) ?_
        refine f_op rfl rfl (s_pickF (v := .bool (decide (p19.1.2 ≠ 0))) rfl rfl) ?_
        refine f_nil ?_
        refine f_keep [0, 3, 36, 37, 38, 151] ?_
        exact s7_j7 happ _ hkt1 v1 v2 v4 v5 v6 (decide (p19.1.2 ≠ 0)) p19.2
      · skip
        refine o_know 148 rfl (bool_notF h22) ?_
        refine f_no rfl rfl ?_
        refine f_no rfl rfl ?_
        refine f_op rfl rfl (s_pickT (v := .bool true) rfl rfl) ?_
        refine f_nil ?_
        refine f_keep [0, 3, 36, 37, 38, 151] ?_
        exact s7_j7 happ _ hkt1 v1 v2 v4 v5 v6 true p19.2

theorem s7_j5 {app : App} (happ : AppSim Try.prog app) (kt1 : Sl → Sl → Sl → Int → Int → Hp → Option (Bool × Hp)) (hkt1 : ∀ (v1 : Sl) (v2 : Sl) (v3 : Sl) (v4 : Int) (v5 : Int) (H : Hp), Fin Try.prog Try.f7 ret7 180 (todoAt (bodyOf Try.f7) [1, 1, 1, 1, 0, 1, 0, 0] []) [(0, .sl v1), (3, .sl v2), (36, .sl v3), (37, .int .i64 v4), (38, .int .i64 v5)] H (kt1 v1 v2 v3 v4 v5 H)) (v1 : Sl) (v2 : Sl) (v3 : Nat) (v4 : Sl) (v5 : Int) (v6 : Int) (H : Hp) : Fin Try.prog Try.f7 ret7 180 (todoAt (bodyOf Try.f7) [1, 1, 1, 1, 0, 1, 0, 0, 1, 1, 0, 0, 1, 1, 1] []) [(0, .sl v1), (3, .sl v2), (6, .ptr v3 0), (36, .sl v4), (37, .int .i64 v5), (38, .int .i64 v6)] H (r7_j5 app kt1 v1 v2 v3 v4 v5 v6 H) := by
  unfold r7_j5
  refine f_seq ?_
  refine f_seq ?_
  refine f_region ?_
  refine f_op rfl rfl (s_mv (v := .sl v1) rfl) ?_
  refine f_op rfl rfl (s_lenS rfl Try.underlying35 rfl) ?_
  refine f_op rfl rfl (s_mv (v := .int .i64 0) rfl) ?_
  refine f_nil ?_
  refine f_block ?_
  refine f_loop ?_
  refine f_keep [0, 3, 6, 36, 37, 38, 109, 110, 111] ?_
  exact s7_l4 happ _ hkt1 FUEL v1 v2 v3 v4 v5 v6 v1 (v1.len : Int) 0 H

theorem s7_j2 {app : App} (happ : AppSim Try.prog app) (kt1 : Sl → Sl → Sl → Int → Int → Hp → Option (Bool × Hp)) (hkt1 : ∀ (v1 : Sl) (v2 : Sl) (v3 : Sl) (v4 : Int) (v5 : Int) (H : Hp), Fin Try.prog Try.f7 ret7 180 (todoAt (bodyOf Try.f7) [1, 1, 1, 1, 0, 1, 0, 0] []) [(0, .sl v1), (3, .sl v2), (36, .sl v3), (37, .int .i64 v4), (38, .int .i64 v5)] H (kt1 v1 v2 v3 v4 v5 H)) (v1 : Sl) (v2 : Sl) (v3 : Int) (v4 : Nat) (v5 : Sl) (v6 : Int) (v7 : Int) (v8 : Bool) (H : Hp) : Fin Try.prog Try.f7 ret7 180 (todoAt (bodyOf Try.f7) [1, 1, 1, 1, 0, 1, 0, 0, 1, 1, 0, 0, 1, 0, 1] []) [(0, .sl v1), (3, .sl v2), (5, .int .i64 v3), (6, .ptr v4 0), (36, .sl v5), (37, .int .i64 v6), (38, .int .i64 v7), (72, .bool v8)] H (r7_j2 app kt1 v1 v2 v3 v4 v5 v6 v7 v8 H) := by
  unfold r7_j2
  refine f_if (fun h1 => ?_) (fun h1 => ?_)
  · skip
    refine f_know 72 rfl (bool_T h1) ?_
    refine f_condT rfl ?_
    refine f_seq ?_
    refine f_region ?_
    refine f_op rfl rfl (s_as (v := .bool false) rfl) ?_
    refine f_nil ?_
    exact f_ret (.tmp rfl (.nil)) rfl
  · skip
    refine f_know 72 rfl (bool_F h1) ?_
    refine f_condF rfl ?_
    refine f_skip ?_
    refine f_seq ?_
    refine f_seq ?_
    refine f_region ?_
    refine f_op rfl rfl (s_mv (v := .int .i64 v3) rfl) ?_
    refine f_op rfl rfl (s_gtr rfl rfl) ?_
    refine f_nil ?_
    refine f_if (fun h2 => ?_) (fun h2 => ?_)
    · skip
      refine f_know 74 rfl (dec_true h2) ?_
      refine f_condT rfl ?_
      refine f_seq ?_
      refine f_ck fun g3 => ?_
      refine f_bind ?_; intro x4 hx4
      refine f_bind ?_; intro x5 hx5
      refine f_ck fun g6 => ?_
      refine f_bind ?_; intro x7 hx7
      refine f_bind ?_; intro x8 hx8
      refine f_bind ?_; intro H9 hH9
      refine f_bind ?_; intro H10 hH10
      refine f_ck fun g11 => ?_
      refine f_ck fun g12 => ?_
      refine f_ck fun g13 => ?_
      refine f_ck fun g14 => ?_
      refine f_ck fun g15 => ?_
      refine f_ck fun g16 => ?_
      refine f_drawF (Φ := fun H_ => H_.ld v2.b (v2.o + (w64 (v3 - 1) : Int).toNat * 2) = some (.int .i64 x7) ∧ H_.ld v2.b ((v2.o + (w64 (v3 - 1) : Int).toNat * 2) + 1) = some (.int .i64 x8)) (lim := 13) [0, 0, 0, 0, 1, 0, 0, 0, 0, 0, 2, 2, 2, 2] [false, false, false, false, false, false, false, false, false, false, true, true, false, false] 10 12 (Trc.pure rfl rfl rfl (.inl fun _ => s_mv (v := .sl v2) rfl) (Trc.pure rfl rfl rfl (.inl fun _ => s_mv (v := .int .i64 v3) rfl) (Trc.pure rfl rfl rfl (.inl fun _ => s_sub rfl rfl) (Trc.pure rfl rfl rfl (.inl fun _ => s_idx Try.underlying35 ty49 rfl rfl g3) (Trc.read rfl rfl rfl (s_loads Try.underlying49 rfl ty49 rfl (lds_cons (ldI_eq hx4) (lds_cons (ldI_eq hx5) (lds_nil)))) (Trc.pure rfl rfl rfl (.inl fun _ => s_mv (v := .sl v2) rfl) (Trc.pure rfl rfl rfl (.inl fun _ => s_mv (v := .int .i64 v3) rfl) (Trc.pure rfl rfl rfl (.inl fun _ => s_sub rfl rfl) (Trc.pure rfl rfl rfl (.inl fun _ => s_idx Try.underlying35 ty49 rfl rfl g6) (Trc.pure rfl rfl rfl (.inr ⟨by decide +kernel, fun _ hp_ => s_loads Try.underlying49 rfl ty49 rfl (lds_cons hp_.1 (lds_cons hp_.2 (lds_nil)))⟩) (Trc.fl rfl rfl rfl (fun _ => ⟨ldI_eq hx7, ldI_eq hx8⟩) rfl rfl (by rfl) (fun _ _ => s_alloc (zs := [.int .i64 0, .int .i64 0]) ty49 rfl rfl) (Trc.fl rfl rfl rfl (fun _ => ⟨ldI_eq g11, ldI_eq g12⟩) rfl rfl (by rfl) (fun _ _ => s_alloc (zs := [.int .i64 0, .int .i64 0]) ty49 rfl rfl) (Trc.eff rfl rfl rfl (fun _ => ⟨ldI_eq g13, ldI_eq g14⟩) (s_stores ty49 rfl rfl rfl rfl hH9 (Nat.le_of_eq (sts_mono hH9).symm)) (Trc.eff rfl rfl rfl (fun _ => ⟨ldI_eq g15, ldI_eq g16⟩) (s_stores ty49 rfl rfl rfl rfl hH10 (Nat.le_of_eq (sts_mono hH10).symm)) (Trc.nil (fun h_ => absurd h_ (by decide +kernel))))))))))))))))) rfl rfl (by decide +kernel) mixed ?_
      refine f_seq ?_
      refine f_region ?_
      refine f_op rfl rfl (s_idxA Try.underlying49 ty3 rfl rfl (by decide)) ?_
      refine o_bind ?_; intro x17 hx17
      refine f_op rfl rfl (s_load Try.underlying3 rfl rfl (ldI_eq hx17)) ?_
      refine f_op rfl rfl (s_idxA Try.underlying49 ty3 rfl rfl (by decide)) ?_
      refine o_bind ?_; intro x18 hx18
      refine f_op rfl rfl (s_load Try.underlying3 rfl rfl (ldI_eq hx18)) ?_
      refine f_op rfl rfl (s_sub rfl rfl) ?_
      refine f_op rfl rfl (s_idxA Try.underlying49 ty3 rfl rfl (by decide)) ?_
      refine o_bind ?_; intro x19 hx19
      refine f_op rfl rfl (s_load Try.underlying3 rfl rfl (ldI_eq hx19)) ?_
      refine f_op rfl rfl (s_idxA Try.underlying49 ty3 rfl rfl (by decide)) ?_
      refine o_bind ?_; intro x20 hx20
      refine f_op rfl rfl (s_load Try.underlying3 rfl rfl (ldI_eq hx20)) ?_
      refine f_op rfl rfl (s_sub rfl rfl) ?_
      refine f_op rfl rfl (s_mul rfl rfl) ?_
      refine f_op rfl rfl (s_idxA Try.underlying49 ty3 rfl rfl (by decide)) ?_
      refine o_bind ?_; intro x21 hx21
      refine f_op rfl rfl (s_load Try.underlying3 rfl rfl (ldI_eq hx21)) ?_
      refine f_op rfl rfl (s_idxA Try.underlying49 ty3 rfl rfl (by decide)) ?_
      refine o_bind ?_; intro x22 hx22
      refine f_op rfl rfl (s_load Try.underlying3 rfl rfl (ldI_eq hx22)) ?_
      refine f_op rfl rfl (s_sub rfl rfl) ?_
      refine f_op rfl rfl (s_idxA Try.underlying49 ty3 rfl rfl (by decide)) ?_
      refine o_bind ?_; intro x23 hx23
      refine f_op rfl rfl (s_load Try.underlying3 rfl rfl (ldI_eq hx23)) ?_
      refine f_op rfl rfl (s_idxA Try.underlying49 ty3 rfl rfl (by decide)) ?_
      refine o_bind ?_; intro x24 hx24
      refine f_op rfl rfl (s_load Try.underlying3 rfl rfl (ldI_eq hx24)) ?_
      refine f_op rfl rfl (s_sub rfl rfl) ?_
      refine f_op rfl rfl (s_mul rfl rfl) ?_
      refine f_op rfl rfl (s_sub rfl rfl) ?_
      refine f_op rfl rfl (s_geq rfl rfl) ?_
      refine f_nil ?_
      refine f_if (fun h25 => ?_) (fun h25 => ?_)
      · skip
        refine f_know 108 rfl (dec_true h25) ?_
        refine f_condT rfl ?_
        refine f_seq ?_
        refine f_region ?_
        refine f_op rfl rfl (s_as (v := .bool false) rfl) ?_
        refine f_nil ?_
        exact f_ret (.tmp rfl (.nil)) rfl
      · skip
        refine f_know 108 rfl (dec_false h25) ?_
        refine f_condF rfl ?_
        refine f_skip ?_
        refine f_keep [0, 3, 6, 36, 37, 38] ?_
        exact s7_j5 happ _ hkt1 v1 v2 v4 v5 v6 v7 H10
    · skip
      refine f_know 74 rfl (dec_false h2) ?_
      refine f_condF rfl ?_
      refine f_skip ?_
      refine f_keep [0, 3, 6, 36, 37, 38] ?_
      exact s7_j5 happ _ hkt1 v1 v2 v4 v5 v6 v7 H

theorem s7_j8 {app : App} (happ : AppSim Try.prog app) (kt3 : Sl → Sl → Int → Int → Hp → Option (Bool × Hp)) (hkt3 : ∀ (v1 : Sl) (v2 : Sl) (v3 : Int) (v4 : Int) (H : Hp), Fin Try.prog Try.f7 ret7 180 (todoAt (bodyOf Try.f7) [1, 1, 1, 1, 1, 0, 1, 0, 0] []) [(3, .sl v1), (153, .sl v2), (154, .int .i64 v3), (155, .int .i64 v4)] H (kt3 v1 v2 v3 v4 H)) (v1 : Sl) (v2 : Sl) (v3 : Int) (v4 : Int) (v5 : Bool) (H : Hp) : Fin Try.prog Try.f7 ret7 180 (todoAt (bodyOf Try.f7) [1, 1, 1, 1, 1, 0, 1, 0, 0, 1, 1, 0, 0, 1, 1] []) [(3, .sl v1), (153, .sl v2), (154, .int .i64 v3), (155, .int .i64 v4), (177, .bool v5)] H (r7_j8 app kt3 v1 v2 v3 v4 v5 H) := by
  unfold r7_j8
  refine f_if (fun h1 => ?_) (fun h1 => ?_)
  · skip
    refine f_know 177 rfl (bool_T h1) ?_
    refine f_condT rfl ?_
    refine f_seq ?_
    refine f_region ?_
    refine f_op rfl rfl (s_as (v := .bool false) rfl) ?_
    refine f_nil ?_
    exact f_ret (.tmp rfl (.nil)) rfl
  · skip
    refine f_know 177 rfl (bool_F h1) ?_
    refine f_condF rfl ?_
    refine f_skip ?_
    refine f_inBlock ?_
    refine f_region ?_
    refine f_op rfl rfl (s_add rfl rfl) ?_
    refine f_op rfl rfl (s_mv (v := .int .i64 (w64 (v4 + 1))) rfl) ?_
    refine f_nil ?_
    refine f_inLoop ?_
    refine f_keep [3, 153, 154, 155] ?_
    exact hkt3 v1 v2 v3 (w64 (v4 + 1)) H

theorem s7_l3 {app : App} (happ : AppSim Try.prog app) : ∀ (k_ : Nat) (v1 : Sl) (v2 : Sl) (v3 : Int) (v4 : Int) (H : Hp), Fin Try.prog Try.f7 ret7 180 (todoAt (bodyOf Try.f7) [1, 1, 1, 1, 1, 0, 1, 0, 0] []) [(3, .sl v1), (153, .sl v2), (154, .int .i64 v3), (155, .int .i64 v4)] H (r7_l3 app k_ v1 v2 v3 v4 H) := by
  intro k_
  induction k_ with
  | zero => intro _ _ _ _ _; exact f_none
  | succ k_ ih =>
    intro v1 v2 v3 v4 H
    rw [r7_l3]
    refine f_seq ?_
    refine f_region ?_
    refine f_op rfl rfl (s_lss rfl rfl) ?_
    refine f_nil ?_
    refine f_seq ?_
    refine f_if (fun h1 => ?_) (fun h1 => ?_)
    · skip
      refine f_know 156 rfl (dec_true h1) ?_
      refine f_condT rfl ?_
      refine f_skip ?_
      refine f_seq ?_
      refine f_block ?_
      refine f_seq ?_
      refine f_region ?_
      refine o_ck fun g2 => ?_
      refine f_op rfl rfl (s_idx Try.underlying35 ty49 rfl rfl g2) ?_
      refine o_bind ?_; intro x3 hx3
      refine o_bind ?_; intro x4 hx4
      refine f_op rfl rfl (s_loads Try.underlying49 rfl ty49 rfl (lds_cons (ldI_eq hx3) (lds_cons (ldI_eq hx4) (lds_nil)))) ?_
      refine f_op rfl rfl (s_alloc (zs := [.int .i64 0, .int .i64 0]) ty49 rfl rfl) ?_
      refine o_bind ?_; intro H5 hH5
      refine f_op rfl rfl (s_stores ty49 rfl rfl rfl rfl hH5 (Nat.le_of_eq (sts_mono hH5).symm)) ?_
      refine f_nil ?_
      refine f_seq ?_
      refine f_bind ?_; intro x6 hx6
      refine f_ck fun g7 => ?_
      refine f_bind ?_; intro x8 hx8
      refine f_if (fun h9 => ?_) (fun h9 => ?_)
      · skip
        refine f_draw (Φ := fun _ => True) (lim := 1000000) [0, 1, 0, 0, 0, 1, 0, 0, 0, 0, 0, 0, 0, 0, 0, 0, 0, 0, 0] (Trc.pure rfl rfl rfl (.inl fun _ => s_idxA Try.underlying49 ty3 rfl rfl (by decide)) (Trc.read rfl rfl rfl (s_load Try.underlying3 rfl rfl (ldI_eq hx6)) (Trc.pure rfl rfl rfl (.inl fun _ => s_mv (v := .sl v1) rfl) (Trc.pure rfl rfl rfl (.inl fun _ => s_idx Try.underlying35 ty49 rfl rfl g7) (Trc.pure rfl rfl rfl (.inl fun _ => s_idxA Try.underlying49 ty3 rfl rfl (by decide)) (Trc.read rfl rfl rfl (s_load Try.underlying3 rfl rfl (ldI_eq hx8)) (Trc.pure rfl rfl rfl (.inl fun _ => s_gtr rfl rfl) (Trc.pure rfl rfl rfl (.inl fun _ => s_mv (v := .bool (decide (x8 < x6))) rfl) (Trc.know 166 rfl (dec_true h9) (Trc.no rfl rfl rfl (Trc.no rfl rfl rfl (Trc.no rfl rfl rfl (Trc.no rfl rfl rfl (Trc.no rfl rfl rfl (Trc.no rfl rfl rfl (Trc.no rfl rfl rfl (Trc.no rfl rfl rfl (Trc.no rfl rfl rfl (Trc.no rfl rfl rfl (Trc.pure rfl rfl rfl (.inl fun _ => s_pickT (v := .bool true) rfl rfl) (Trc.nil (fun _ => trivial)))))))))))))))))))))) rfl (by decide +kernel) mixed ?_
        refine f_keep [3, 153, 154, 155, 177] ?_
        exact s7_j8 happ _ (fun v1_ v2_ v3_ v4_ H_ => ih v1_ v2_ v3_ v4_ H_) v1 v2 v3 v4 true H5
      · skip
        refine f_bind ?_; intro x10 hx10
        refine f_ck fun g11 => ?_
        refine f_bind ?_; intro x12 hx12
        refine f_draw (Φ := fun _ => True) (lim := 1000000) [0, 1, 0, 0, 0, 1, 0, 0, 0, 1, 0, 0, 0, 0, 0, 0, 1, 0, 0] (Trc.pure rfl rfl rfl (.inl fun _ => s_idxA Try.underlying49 ty3 rfl rfl (by decide)) (Trc.read rfl rfl rfl (s_load Try.underlying3 rfl rfl (ldI_eq hx6)) (Trc.pure rfl rfl rfl (.inl fun _ => s_mv (v := .sl v1) rfl) (Trc.pure rfl rfl rfl (.inl fun _ => s_idx Try.underlying35 ty49 rfl rfl g7) (Trc.pure rfl rfl rfl (.inl fun _ => s_idxA Try.underlying49 ty3 rfl rfl (by decide)) (Trc.read rfl rfl rfl (s_load Try.underlying3 rfl rfl (ldI_eq hx8)) (Trc.pure rfl rfl rfl (.inl fun _ => s_gtr rfl rfl) (Trc.pure rfl rfl rfl (.inl fun _ => s_mv (v := .bool (decide (x8 < x6))) rfl) (Trc.know 166 rfl (dec_false h9) (Trc.pure rfl rfl rfl (.inl fun _ => s_idxA Try.underlying49 ty3 rfl rfl (by decide)) (Trc.read rfl rfl rfl (s_load Try.underlying3 rfl rfl (ldI_eq hx10)) (Trc.pure rfl rfl rfl (.inl fun _ => s_mv (v := .sl v1) rfl) (Trc.pure rfl rfl rfl (.inl fun _ => s_mv (v := .sl v1) rfl) (Trc.pure rfl rfl rfl (.inl fun _ => s_lenS rfl Try.underlying35 rfl) (Trc.pure rfl rfl rfl (.inl fun _ => s_sub rfl rfl) (Trc.pure rfl rfl rfl (.inl fun _ => s_idx Try.underlying35 ty49 rfl rfl g11) (Trc.pure rfl rfl rfl (.inl fun _ => s_idxA Try.underlying49 ty3 rfl rfl (by decide)) (Trc.read rfl rfl rfl (s_load Try.underlying3 rfl rfl (ldI_eq hx12)) (Trc.pure rfl rfl rfl (.inl fun _ => s_gtr rfl rfl) (Trc.pure rfl rfl rfl (.inl fun _ => s_pickF (v := .bool (decide (x12 < x10))) rfl rfl) (Trc.nil (fun _ => trivial)))))))))))))))))))))) rfl (by decide +kernel) mixed ?_
        refine f_keep [3, 153, 154, 155, 177] ?_
        exact s7_j8 happ _ (fun v1_ v2_ v3_ v4_ H_ => ih v1_ v2_ v3_ v4_ H_) v1 v2 v3 v4 (decide (x12 < x10)) H5
    · skip
      refine f_know 156 rfl (dec_false h1) ?_
      refine f_condF rfl ?_
      refine f_exit rfl ?_
      refine f_seq ?_
      refine f_region ?_
      refine o_bind ?_; intro p13 hp13
      refine o_bind ?_; intro x14 hx14
      refine f_op rfl rfl (s_callA happ rfl hp13) ?_
      refine o_know 179 rfl (asB_eq hx14) ?_
      refine f_op rfl rfl (s_as (v := .bool x14) rfl) ?_
      refine f_nil ?_
      exact f_ret (.tmp rfl (.nil)) rfl

theorem s7_l1 {app : App} (happ : AppSim Try.prog app) : ∀ (k_ : Nat) (v1 : Sl) (v2 : Sl) (v3 : Sl) (v4 : Int) (v5 : Int) (H : Hp), Fin Try.prog Try.f7 ret7 180 (todoAt (bodyOf Try.f7) [1, 1, 1, 1, 0, 1, 0, 0] []) [(0, .sl v1), (3, .sl v2), (36, .sl v3), (37, .int .i64 v4), (38, .int .i64 v5)] H (r7_l1 app k_ v1 v2 v3 v4 v5 H) := by
  intro k_
  induction k_ with
  | zero => intro _ _ _ _ _ _; exact f_none
  | succ k_ ih =>
    intro v1 v2 v3 v4 v5 H
    rw [r7_l1]
    refine f_seq ?_
    refine f_region ?_
    refine f_op rfl rfl (s_lss rfl rfl) ?_
    refine f_nil ?_
    refine f_seq ?_
    refine f_if (fun h1 => ?_) (fun h1 => ?_)
    · skip
      refine f_know 39 rfl (dec_true h1) ?_
      refine f_condT rfl ?_
      refine f_skip ?_
      refine f_seq ?_
      refine f_block ?_
      refine f_seq ?_
      refine f_region ?_
      refine f_op rfl rfl (s_mv (v := .int .i64 v5) rfl) ?_
      refine o_ck fun g2 => ?_
      refine f_op rfl rfl (s_idx Try.underlying35 ty49 rfl rfl g2) ?_
      refine o_bind ?_; intro x3 hx3
      refine o_bind ?_; intro x4 hx4
      refine f_op rfl rfl (s_loads Try.underlying49 rfl ty49 rfl (lds_cons (ldI_eq hx3) (lds_cons (ldI_eq hx4) (lds_nil)))) ?_
      refine f_op rfl rfl (s_alloc (zs := [.int .i64 0, .int .i64 0]) ty49 rfl rfl) ?_
      refine f_op rfl rfl (s_as (v := .int .i64 v5) rfl) ?_
      refine o_bind ?_; intro H5 hH5
      refine f_op rfl rfl (s_stores ty49 rfl rfl rfl rfl hH5 (Nat.le_of_eq (sts_mono hH5).symm)) ?_
      refine f_nil ?_
      refine f_seq ?_
      refine f_seq ?_
      refine f_bind ?_; intro x6 hx6
      refine f_bind ?_; intro x7 hx7
      refine f_bind ?_; intro p8 hp8
      refine f_if (fun h9 => ?_) (fun h9 => ?_)
      · skip
        refine f_if (fun h10 => ?_) (fun h10 => ?_)
        · skip
          refine f_ck fun g11 => ?_
          refine f_bind ?_; intro x12 hx12
          refine f_bind ?_; intro x13 hx13
          refine f_if (fun h14 => ?_) (fun h14 => ?_)
          · skip
            refine f_draw (Φ := fun _ => True) (lim := 1000000) [0, 1, 2, 0, 0, 0, 0, 0, 0, 0, 0, 0, 0, 1, 0, 1, 0, 0, 0, 0, 0, 0, 0, 0, 0, 0, 0, 0, 0, 0] (Trc.pure rfl rfl rfl (.inl fun _ => s_mv (v := .sl v1) rfl) (Trc.read rfl rfl rfl (s_loads Try.underlying49 rfl ty49 rfl (lds_cons (ldI_eq hx6) (lds_cons (ldI_eq hx7) (lds_nil)))) (Trc.eff rfl rfl rfl (fun _ => trivial) (s_callF rfl ok32 (sim32 hp8)) (Trc.pure rfl rfl rfl (.inl fun _ => s_not rfl) (Trc.pure rfl rfl rfl (.inl fun _ => s_mv (v := .bool (!p8.1)) rfl) (Trc.know 47 rfl (bool_notT h9) (Trc.pure rfl rfl rfl (.inl fun _ => s_mv (v := .int .i64 v5) rfl) (Trc.pure rfl rfl rfl (.inl fun _ => s_gtr rfl rfl) (Trc.pure rfl rfl rfl (.inl fun _ => s_mv (v := .bool (decide (0 < v5))) rfl) (Trc.know 50 rfl (dec_true h10) (Trc.pure rfl rfl rfl (.inl fun _ => s_mv (v := .sl v2) rfl) (Trc.pure rfl rfl rfl (.inl fun _ => s_mv (v := .int .i64 v5) rfl) (Trc.pure rfl rfl rfl (.inl fun _ => s_sub rfl rfl) (Trc.pure rfl rfl rfl (.inl fun _ => s_idx Try.underlying35 ty49 rfl rfl g11) (Trc.pure rfl rfl rfl (.inl fun _ => s_idxA Try.underlying49 ty3 rfl rfl (by decide)) (Trc.read rfl rfl rfl (s_load Try.underlying3 rfl rfl (ldI_eq hx12)) (Trc.pure rfl rfl rfl (.inl fun _ => s_idxA Try.underlying49 ty3 rfl rfl (by decide)) (Trc.read rfl rfl rfl (s_load Try.underlying3 rfl rfl (ldI_eq hx13)) (Trc.pure rfl rfl rfl (.inl fun _ => s_geq rfl rfl) (Trc.pure rfl rfl rfl (.inl fun _ => s_mv (v := .bool (decide (x13 ≤ x12))) rfl) (Trc.know 60 rfl (dec_true h14) (Trc.no rfl rfl rfl (Trc.no rfl rfl rfl (Trc.no rfl rfl rfl (Trc.no rfl rfl rfl (Trc.no rfl rfl rfl (Trc.no rfl rfl rfl (Trc.no rfl rfl rfl (Trc.no rfl rfl rfl (Trc.no rfl rfl rfl (Trc.pure rfl rfl rfl (.inl fun _ => s_pickT (v := .bool true) rfl rfl) (Trc.pure rfl rfl rfl (.inl fun _ => s_pickT (v := .bool true) rfl rfl) (Trc.pure rfl rfl rfl (.inl fun _ => s_pickF (v := .bool true) rfl rfl) (Trc.nil (fun _ => trivial))))))))))))))))))))))))))))))))))) rfl (by decide +kernel) mixed ?_
            refine f_keep [0, 3, 5, 6, 36, 37, 38, 72] ?_
            exact s7_j2 happ _ (fun v1_ v2_ v3_ v4_ v5_ H_ => ih v1_ v2_ v3_ v4_ v5_ H_) v1 v2 v5 H.n v3 v4 v5 true p8.2
          · skip
            refine f_ck fun g15 => ?_
            refine f_bind ?_; intro x16 hx16
            refine f_bind ?_; intro x17 hx17
            refine f_draw (Φ := fun _ => True) (lim := 1000000) [0, 1, 2, 0, 0, 0, 0, 0, 0, 0, 0, 0, 0, 1, 0, 1, 0, 0, 0, 0, 0, 0, 0, 1, 0, 1, 0, 0, 0, 0] (Trc.pure rfl rfl rfl (.inl fun _ => s_mv (v := .sl v1) rfl) (Trc.read rfl rfl rfl (s_loads Try.underlying49 rfl ty49 rfl (lds_cons (ldI_eq hx6) (lds_cons (ldI_eq hx7) (lds_nil)))) (Trc.eff rfl rfl rfl (fun _ => trivial) (s_callF rfl ok32 (sim32 hp8)) (Trc.pure rfl rfl rfl (.inl fun _ => s_not rfl) (Trc.pure rfl rfl rfl (.inl fun _ => s_mv (v := .bool (!p8.1)) rfl) (Trc.know 47 rfl (bool_notT h9) (Trc.pure rfl rfl rfl (.inl fun _ => s_mv (v := .int .i64 v5) rfl) (Trc.pure rfl rfl rfl (.inl fun _ => s_gtr rfl rfl) (Trc.pure rfl rfl rfl (.inl fun _ => s_mv (v := .bool (decide (0 < v5))) rfl) (Trc.know 50 rfl (dec_true h10) (Trc.pure rfl rfl rfl (.inl fun _ => s_mv (v := .sl v2) rfl) (Trc.pure rfl rfl rfl (.inl fun _ => s_mv (v := .int .i64 v5) rfl) (Trc.pure rfl rfl rfl (.inl fun _ => s_sub rfl rfl) (Trc.pure rfl rfl rfl (.inl fun _ => s_idx Try.underlying35 ty49 rfl rfl g11) (Trc.pure rfl rfl rfl (.inl fun _ => s_idxA Try.underlying49 ty3 rfl rfl (by decide)) (Trc.read rfl rfl rfl (s_load Try.underlying3 rfl rfl (ldI_eq hx12)) (Trc.pure rfl rfl rfl (.inl fun _ => s_idxA Try.underlying49 ty3 rfl rfl (by decide)) (Trc.read rfl rfl rfl (s_load Try.underlying3 rfl rfl (ldI_eq hx13)) (Trc.pure rfl rfl rfl (.inl fun _ => s_geq rfl rfl) (Trc.pure rfl rfl rfl (.inl fun _ => s_mv (v := .bool (decide (x13 ≤ x12))) rfl) (Trc.know 60 rfl (dec_false h14) (Trc.pure rfl rfl rfl (.inl fun _ => s_mv (v := .sl v2) rfl) (Trc.pure rfl rfl rfl (.inl fun _ => s_mv (v := .int .i64 v5) rfl) (Trc.pure rfl rfl rfl (.inl fun _ => s_sub rfl rfl) (Trc.pure rfl rfl rfl (.inl fun _ => s_idx Try.underlying35 ty49 rfl rfl g15) (Trc.pure rfl rfl rfl (.inl fun _ => s_idxA Try.underlying49 ty3 rfl rfl (by decide)) (Trc.read rfl rfl rfl (s_load Try.underlying3 rfl rfl (ldI_eq hx16)) (Trc.pure rfl rfl rfl (.inl fun _ => s_idxA Try.underlying49 ty3 rfl rfl (by decide)) (Trc.read rfl rfl rfl (s_load Try.underlying3 rfl rfl (ldI_eq hx17)) (Trc.pure rfl rfl rfl (.inl fun _ => s_leq rfl rfl) (Trc.pure rfl rfl rfl (.inl fun _ => s_pickF (v := .bool (decide (x16 ≤ x17))) rfl rfl) (Trc.pure rfl rfl rfl (.inl fun _ => s_pickT (v := .bool (decide (x16 ≤ x17))) rfl rfl) (Trc.pure rfl rfl rfl (.inl fun _ => s_pickF (v := .bool (decide (x16 ≤ x17))) rfl rfl) (Trc.nil (fun _ => trivial))))))))))))))))))))))))))))))))))) rfl (by decide +kernel) mixed ?_
            refine f_keep [0, 3, 5, 6, 36, 37, 38, 72] ?_
            exact s7_j2 happ _ (fun v1_ v2_ v3_ v4_ v5_ H_ => ih v1_ v2_ v3_ v4_ v5_ H_) v1 v2 v5 H.n v3 v4 v5 (decide (x16 ≤ x17)) p8.2
        · skip
          refine f_draw (Φ := fun _ => True) (lim := 1000000) [0, 1, 2, 0, 0, 0, 0, 0, 0, 0, 0, 0, 0, 0, 0, 0, 0, 0, 0, 0, 0, 0, 0, 0, 0, 0, 0, 0, 0, 0] (Trc.pure rfl rfl rfl (.inl fun _ => s_mv (v := .sl v1) rfl) (Trc.read rfl rfl rfl (s_loads Try.underlying49 rfl ty49 rfl (lds_cons (ldI_eq hx6) (lds_cons (ldI_eq hx7) (lds_nil)))) (Trc.eff rfl rfl rfl (fun _ => trivial) (s_callF rfl ok32 (sim32 hp8)) (Trc.pure rfl rfl rfl (.inl fun _ => s_not rfl) (Trc.pure rfl rfl rfl (.inl fun _ => s_mv (v := .bool (!p8.1)) rfl) (Trc.know 47 rfl (bool_notT h9) (Trc.pure rfl rfl rfl (.inl fun _ => s_mv (v := .int .i64 v5) rfl) (Trc.pure rfl rfl rfl (.inl fun _ => s_gtr rfl rfl) (Trc.pure rfl rfl rfl (.inl fun _ => s_mv (v := .bool (decide (0 < v5))) rfl) (Trc.know 50 rfl (dec_false h10) (Trc.no rfl rfl rfl (Trc.no rfl rfl rfl (Trc.no rfl rfl rfl (Trc.no rfl rfl rfl (Trc.no rfl rfl rfl (Trc.no rfl rfl rfl (Trc.no rfl rfl rfl (Trc.no rfl rfl rfl (Trc.no rfl rfl rfl (Trc.no rfl rfl rfl (Trc.no rfl rfl rfl (Trc.no rfl rfl rfl (Trc.no rfl rfl rfl (Trc.no rfl rfl rfl (Trc.no rfl rfl rfl (Trc.no rfl rfl rfl (Trc.no rfl rfl rfl (Trc.no rfl rfl rfl (Trc.no rfl rfl rfl (Trc.no rfl rfl rfl (Trc.pure rfl rfl rfl (.inl fun _ => s_pickF (v := .bool false) rfl rfl) (Trc.pure rfl rfl rfl (.inl fun _ => s_pickF (v := .bool false) rfl rfl) (Trc.nil (fun _ => trivial)))))))))))))))))))))))))))))))))) rfl (by decide +kernel) mixed ?_
          refine f_keep [0, 3, 5, 6, 36, 37, 38, 72] ?_
          exact s7_j2 happ _ (fun v1_ v2_ v3_ v4_ v5_ H_ => ih v1_ v2_ v3_ v4_ v5_ H_) v1 v2 v5 H.n v3 v4 v5 false p8.2
      · skip
        refine f_draw (Φ := fun _ => True) (lim := 1000000) [0, 1, 2, 0, 0, 0, 0, 0, 0, 0, 0, 0, 0, 0, 0, 0, 0, 0, 0, 0, 0, 0, 0, 0, 0, 0, 0, 0, 0, 0] (Trc.pure rfl rfl rfl (.inl fun _ => s_mv (v := .sl v1) rfl) (Trc.read rfl rfl rfl (s_loads Try.underlying49 rfl ty49 rfl (lds_cons (ldI_eq hx6) (lds_cons (ldI_eq hx7) (lds_nil)))) (Trc.eff rfl rfl rfl (fun _ => trivial) (s_callF rfl ok32 (sim32 hp8)) (Trc.pure rfl rfl rfl (.inl fun _ => s_not rfl) (Trc.pure rfl rfl rfl (.inl fun _ => s_mv (v := .bool (!p8.1)) rfl) (Trc.know 47 rfl (bool_notF h9) (Trc.no rfl rfl rfl (Trc.no rfl rfl rfl (Trc.no rfl rfl rfl (Trc.no rfl rfl rfl (Trc.no rfl rfl rfl (Trc.no rfl rfl rfl (Trc.no rfl rfl rfl (Trc.no rfl rfl rfl (Trc.no rfl rfl rfl (Trc.no rfl rfl rfl (Trc.no rfl rfl rfl (Trc.no rfl rfl rfl (Trc.no rfl rfl rfl (Trc.no rfl rfl rfl (Trc.no rfl rfl rfl (Trc.no rfl rfl rfl (Trc.no rfl rfl rfl (Trc.no rfl rfl rfl (Trc.no rfl rfl rfl (Trc.no rfl rfl rfl (Trc.no rfl rfl rfl (Trc.no rfl rfl rfl (Trc.no rfl rfl rfl (Trc.no rfl rfl rfl (Trc.pure rfl rfl rfl (.inl fun _ => s_pickT (v := .bool true) rfl rfl) (Trc.nil (fun _ => trivial))))))))))))))))))))))))))))))))) rfl (by decide +kernel) mixed ?_
        refine f_keep [0, 3, 5, 6, 36, 37, 38, 72] ?_
        exact s7_j2 happ _ (fun v1_ v2_ v3_ v4_ v5_ H_ => ih v1_ v2_ v3_ v4_ v5_ H_) v1 v2 v5 H.n v3 v4 v5 true p8.2
    · skip
      refine f_know 39 rfl (dec_false h1) ?_
      refine f_condF rfl ?_
      refine f_exit rfl ?_
      refine f_seq ?_
      refine f_seq ?_
      refine f_region ?_
      refine f_op rfl rfl (s_mv (v := .sl v1) rfl) ?_
      refine f_op rfl rfl (s_lenS rfl Try.underlying35 rfl) ?_
      refine f_op rfl rfl (s_mv (v := .int .i64 0) rfl) ?_
      refine f_nil ?_
      refine f_block ?_
      refine f_loop ?_
      refine f_keep [3, 153, 154, 155] ?_
      exact s7_l3 happ FUEL v2 v1 (v1.len : Int) 0 H

theorem s7_j0 {app : App} (happ : AppSim Try.prog app) (v1 : Sl) (v2 : Sl) (v3 : Int) (v4 : Bool) (H : Hp) : Fin Try.prog Try.f7 ret7 180 (todoAt (bodyOf Try.f7) [1, 1, 0, 1] []) [(0, .sl v1), (3, .sl v2), (4, .int .i64 v3), (27, .bool v4)] H (r7_j0 app v1 v2 v3 v4 H) := by
  unfold r7_j0
  refine f_if (fun h1 => ?_) (fun h1 => ?_)
  · skip
    refine f_know 27 rfl (bool_T h1) ?_
    refine f_condT rfl ?_
    refine f_seq ?_
    refine f_region ?_
    refine f_op rfl rfl (s_mv (v := .int .i64 v3) rfl) ?_
    refine f_op rfl rfl (s_eql rfl rfl) ?_
    refine f_op rfl rfl (s_mv (v := .bool (decide (v3 = 2))) rfl) ?_
    refine o_if (fun h2 => ?_) (fun h2 => ?_)
    · skip
      refine o_know 30 rfl (dec_true h2) ?_
      refine o_bind ?_; intro p3 hp3
      refine o_bind ?_; intro x4 hx4
      refine f_op rfl rfl (s_callA happ rfl hp3) ?_
      refine o_know 31 rfl (asB_eq hx4) ?_
      refine f_op rfl rfl (s_pickT (v := .bool x4) rfl rfl) ?_
      refine f_op rfl rfl (s_as (v := .bool x4) rfl) ?_
      refine f_nil ?_
      exact f_ret (.tmp rfl (.nil)) rfl
    · skip
      refine o_know 30 rfl (dec_false h2) ?_
      refine f_no rfl rfl ?_
      refine f_op rfl rfl (s_pickF (v := .bool false) rfl rfl) ?_
      refine f_op rfl rfl (s_as (v := .bool false) rfl) ?_
      refine f_nil ?_
      exact f_ret (.tmp rfl (.nil)) rfl
  · skip
    refine f_know 27 rfl (bool_F h1) ?_
    refine f_condF rfl ?_
    refine f_skip ?_
    refine f_seq ?_
    refine f_seq ?_
    refine f_region ?_
    refine f_op rfl rfl (s_mv (v := .sl v2) rfl) ?_
    refine f_op rfl rfl (s_lenS rfl Try.underlying35 rfl) ?_
    refine f_op rfl rfl (s_eql rfl rfl) ?_
    refine f_nil ?_
    refine f_if (fun h5 => ?_) (fun h5 => ?_)
    · skip
      refine f_know 35 rfl (dec_true h5) ?_
      refine f_condT rfl ?_
      refine f_seq ?_
      refine f_region ?_
      refine f_op rfl rfl (s_as (v := .bool false) rfl) ?_
      refine f_nil ?_
      exact f_ret (.tmp rfl (.nil)) rfl
    · skip
      refine f_know 35 rfl (dec_false h5) ?_
      refine f_condF rfl ?_
      refine f_skip ?_
      refine f_seq ?_
      refine f_seq ?_
      refine f_region ?_
      refine f_op rfl rfl (s_mv (v := .sl v2) rfl) ?_
      refine f_op rfl rfl (s_lenS rfl Try.underlying35 rfl) ?_
      refine f_op rfl rfl (s_mv (v := .int .i64 0) rfl) ?_
      refine f_nil ?_
      refine f_block ?_
      refine f_loop ?_
      refine f_keep [0, 3, 36, 37, 38] ?_
      exact s7_l1 happ FUEL v1 v2 v2 (v2.len : Int) 0 H

theorem sim7 {app : App} (happ : AppSim Try.prog app) {a0 : Sl} {H : Hp} {p : Bool × Hp} (h : r7 app a0 H = some p) : CallSim Try.prog 7 [.sl a0] H (.bool p.1) p.2 := by
  refine callSim (fn := Try.f7) (ret := ret7) Try.func7 rfl Try.ntmps7 rfl ?_ h
  unfold r7
  refine f_seq ?_
  refine f_region ?_
  refine f_op rfl rfl (s_as (v := .bool false) rfl) ?_
  refine f_nil ?_
  refine f_seq ?_
  refine f_region ?_
  refine f_op rfl rfl (s_mv (v := .sl a0) rfl) ?_
  refine o_bind ?_; intro p1 hp1
  refine f_op rfl rfl (s_callF rfl ok24 (sim24 hp1)) ?_
  refine o_bind ?_; intro p2 hp2
  refine f_op rfl rfl (s_callF rfl ok29 (sim29 happ hp2)) ?_
  refine f_op rfl rfl (s_mv (v := .tup [.sl p2.1.1, .int .i64 p2.1.2]) rfl) ?_
  refine f_op rfl rfl (s_extract (r := .sl p2.1.1) rfl rfl) ?_
  refine f_op rfl rfl (s_extract (r := .int .i64 p2.1.2) rfl rfl) ?_
  refine f_op rfl rfl (s_as (v := .sl p2.1.1) rfl) ?_
  refine f_op rfl rfl (s_as (v := .int .i64 p2.1.2) rfl) ?_
  refine f_nil ?_
  refine f_seq ?_
  refine f_seq ?_
  refine f_region ?_
  refine f_op rfl rfl (s_mv (v := .int .i64 p2.1.2) rfl) ?_
  refine f_op rfl rfl (s_neq rfl rfl) ?_
  refine f_op rfl rfl (s_mv (v := .bool (decide (p2.1.2 ≠ 0))) rfl) ?_
  refine o_if (fun h3 => ?_) (fun h3 => ?_)
  · skip
    refine o_know 23 rfl (dec_true h3) ?_
    refine f_no rfl rfl ?_
    refine f_no rfl rfl ?_
    refine f_no rfl rfl ?_
    refine f_op rfl rfl (s_pickT (v := .bool true) rfl rfl) ?_
    refine f_nil ?_
    refine f_keep [0, 3, 4, 27] ?_
    exact s7_j0 happ a0 p2.1.1 p2.1.2 true p2.2
  · skip
    refine o_know 23 rfl (dec_false h3) ?_
    refine f_op rfl rfl (s_mv (v := .sl a0) rfl) ?_
    refine o_bind ?_; intro p4 hp4
    refine f_op rfl rfl (s_callF rfl ok26 (sim26 hp4)) ?_
    refine f_op rfl rfl (s_not rfl) ?_
    refine f_op rfl rfl (s_pickF (v := .bool (!p4.1)) rfl rfl) ?_
    refine f_nil ?_
    refine f_keep [0, 3, 4, 27] ?_
    exact s7_j0 happ a0 p2.1.1 p2.1.2 (!p4.1) p4.2

/- 84 slices.Values[congou/deals.offers,[2]int]$1 -/
theorem ok84 : FnOk Try.prog 84 := ⟨⟨Try.f84, Try.func84, by kernel_rfl, rfl⟩⟩
theorem s84_l0 {app : App} (happ : AppSim Try.prog app) : ∀ (k_ : Nat) (v1 : AV) (v2 : Sl) (v3 : Int) (v4 : Int) (H : Hp), Fin Try.prog Try.f84 ret84 16 (todoAt (bodyOf Try.f84) [1, 0, 0] []) [(0, v1), (5, .sl v2), (6, .int .i64 v3), (7, .int .i64 v4)] H (r84_l0 app k_ v1 v2 v3 v4 H) := by
  intro k_
  induction k_ with
  | zero => intro _ _ _ _ _; exact f_none
  | succ k_ ih =>
    intro v1 v2 v3 v4 H
    rw [r84_l0]
    refine f_seq ?_
    refine f_region ?_
    refine f_op rfl rfl (s_lss rfl rfl) ?_
    refine f_nil ?_
    refine f_seq ?_
    refine f_if (fun h1 => ?_) (fun h1 => ?_)
    · skip
      refine f_know 8 rfl (dec_true h1) ?_
      refine f_condT rfl ?_
      refine f_skip ?_
      refine f_seq ?_
      refine f_block ?_
      refine f_seq ?_
      refine f_region ?_
      refine o_ck fun g2 => ?_
      refine f_op rfl rfl (s_idx Try.underlying72 ty49 rfl rfl g2) ?_
      refine o_bind ?_; intro x3 hx3
      refine o_bind ?_; intro x4 hx4
      refine f_op rfl rfl (s_loads Try.underlying49 rfl ty49 rfl (lds_cons (ldI_eq hx3) (lds_cons (ldI_eq hx4) (lds_nil)))) ?_
      refine f_op rfl rfl (s_alloc (zs := [.int .i64 0, .int .i64 0]) ty49 rfl rfl) ?_
      refine o_bind ?_; intro H5 hH5
      refine f_op rfl rfl (s_stores ty49 rfl rfl rfl rfl hH5 (Nat.le_of_eq (sts_mono hH5).symm)) ?_
      refine f_nil ?_
      refine f_seq ?_
      refine f_region ?_
      refine f_op rfl rfl (s_mv (v := v1) rfl) ?_
      refine o_bind ?_; intro x6 hx6
      refine o_bind ?_; intro x7 hx7
      refine f_op rfl rfl (s_loads Try.underlying49 rfl ty49 rfl (lds_cons (ldI_eq hx6) (lds_cons (ldI_eq hx7) (lds_nil)))) ?_
      refine o_bind ?_; intro p8 hp8
      refine o_bind ?_; intro x9 hx9
      refine f_op rfl rfl (s_callv happ rfl rfl hp8) ?_
      refine o_know 13 rfl (asB_eq hx9) ?_
      refine f_op rfl rfl (s_not rfl) ?_
      refine f_nil ?_
      refine f_if (fun h10 => ?_) (fun h10 => ?_)
      · skip
        refine f_know 14 rfl (bool_notT h10) ?_
        refine f_condF rfl ?_
        refine f_skip ?_
        refine f_inBlock ?_
        refine f_region ?_
        refine f_op rfl rfl (s_add rfl rfl) ?_
        refine f_op rfl rfl (s_mv (v := .int .i64 (w64 (v4 + 1))) rfl) ?_
        refine f_nil ?_
        refine f_inLoop ?_
        refine f_keep [0, 5, 6, 7] ?_
        exact ih v1 v2 v3 (w64 (v4 + 1)) p8.2
      · skip
        refine f_know 14 rfl (bool_notF h10) ?_
        refine f_condT rfl ?_
        exact f_ret (.nil) rfl
    · skip
      refine f_know 8 rfl (dec_false h1) ?_
      refine f_condF rfl ?_
      refine f_exit rfl ?_
      exact f_end (.nil) rfl

theorem sim84 {app : App} (happ : AppSim Try.prog app) {a0 : AV} {c0 : Nat} {H : Hp} {p : Unit × Hp} (h : r84 app a0 c0 H = some p) : CallSim Try.prog 84 [a0, .ptr c0 0] H (.tup []) p.2 := by
  refine callSim (fn := Try.f84) (ret := ret84) Try.func84 rfl Try.ntmps84 rfl ?_ h
  unfold r84
  refine f_seq ?_
  refine f_region ?_
  refine o_bind ?_; intro x1 hx1
  refine f_op rfl rfl (s_load Try.underlying72 rfl rfl (ldSl_eq hx1)) ?_
  refine f_op rfl rfl (s_lenS rfl Try.underlying72 rfl) ?_
  refine f_op rfl rfl (s_mv (v := .int .i64 0) rfl) ?_
  refine f_nil ?_
  refine f_block ?_
  refine f_loop ?_
  refine f_keep [0, 5, 6, 7] ?_
  exact s84_l0 happ FUEL a0 x1 (x1.len : Int) 0 H

end Go.Lt.P5
