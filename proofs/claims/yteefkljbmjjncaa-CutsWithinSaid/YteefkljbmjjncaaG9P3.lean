/- PRINTED BY A PROGRAM OF OURS: what each function that 'CutsWithin' reaches computes on the abstract heap, and that the translated code does just that. Nothing is asked of the input. -/
import Derived.Test.YteefkljbmjjncaaG9P2
set_option linter.unusedVariables false
set_option linter.unusedSimpArgs false
set_option maxRecDepth 100000
set_option maxHeartbeats 4000000
namespace Go.Lt.P2
open Go Go.Lt Go.Proofs
/- 46 congou/congoulaw02.between -/
theorem ok46 : FnOk Try.prog 46 := ⟨⟨Try.f46, Try.func46, by kernel_rfl, rfl⟩⟩
theorem sim46 {a0_0 : Int} {a0_1 : Int} {a1_0 : Int} {a1_1 : Int} {a2_0 : Int} {a2_1 : Int} {H : Hp} {p : Bool × Hp} (h : r46 a0_0 a0_1 a1_0 a1_1 a2_0 a2_1 H = some p) : CallSim Try.prog 46 [.agg [.int .i64 a0_0, .int .i64 a0_1], .agg [.int .i64 a1_0, .int .i64 a1_1], .agg [.int .i64 a2_0, .int .i64 a2_1]] H (.bool p.1) p.2 := by
  refine callSim (fn := Try.f46) (ret := ret46) Try.func46 rfl Try.ntmps46 rfl ?_ h
  unfold r46
  refine f_seq ?_
  refine f_region ?_
  refine f_op rfl rfl (s_box (v := .agg [.int .i64 a0_0, .int .i64 a0_1]) rfl rfl) ?_
  refine f_op rfl rfl (s_box (v := .agg [.int .i64 a1_0, .int .i64 a1_1]) rfl rfl) ?_
  refine f_op rfl rfl (s_box (v := .agg [.int .i64 a2_0, .int .i64 a2_1]) rfl rfl) ?_
  refine f_op rfl rfl (s_as (v := .bool false) rfl) ?_
  refine o_hp ?_; intro H1 hH1
  refine f_nil ?_
  refine f_seq ?_
  refine f_region ?_
  refine f_op rfl rfl (s_idxA Try.underlying43 ty3 rfl rfl (by decide)) ?_
  refine o_bind ?_; intro x2 hx2
  refine f_op rfl rfl (s_load Try.underlying3 rfl rfl (ldI_eq hx2)) ?_
  refine f_op rfl rfl (s_idxA Try.underlying43 ty3 rfl rfl (by decide)) ?_
  refine o_bind ?_; intro x3 hx3
  refine f_op rfl rfl (s_load Try.underlying3 rfl rfl (ldI_eq hx3)) ?_
  refine f_op rfl rfl (s_min2 rfl rfl) ?_
  refine f_op rfl rfl (s_idxA Try.underlying43 ty3 rfl rfl (by decide)) ?_
  refine o_bind ?_; intro x4 hx4
  refine f_op rfl rfl (s_load Try.underlying3 rfl rfl (ldI_eq hx4)) ?_
  refine f_op rfl rfl (s_leq rfl rfl) ?_
  refine f_op rfl rfl (s_mv (v := .bool (decide ((if x3 < x2 then x3 else x2) ≤ x4))) rfl) ?_
  refine o_if (fun h5 => ?_) (fun h5 => ?_)
  · skip
    refine o_know 15 rfl (dec_true h5) ?_
    refine f_op rfl rfl (s_idxA Try.underlying43 ty3 rfl rfl (by decide)) ?_
    refine o_bind ?_; intro x6 hx6
    refine f_op rfl rfl (s_load Try.underlying3 rfl rfl (ldI_eq hx6)) ?_
    refine f_op rfl rfl (s_idxA Try.underlying43 ty3 rfl rfl (by decide)) ?_
    refine o_bind ?_; intro x7 hx7
    refine f_op rfl rfl (s_load Try.underlying3 rfl rfl (ldI_eq hx7)) ?_
    refine f_op rfl rfl (s_idxA Try.underlying43 ty3 rfl rfl (by decide)) ?_
    refine o_bind ?_; intro x8 hx8
    refine f_op rfl rfl (s_load Try.underlying3 rfl rfl (ldI_eq hx8)) ?_
    refine f_op rfl rfl (s_max2 rfl rfl) ?_
    refine f_op rfl rfl (s_leq rfl rfl) ?_
    refine f_op rfl rfl (s_pickT (v := .bool (decide (x6 ≤ (if x7 < x8 then x8 else x7)))) rfl rfl) ?_
    refine f_op rfl rfl (s_mv (v := .bool (decide (x6 ≤ (if x7 < x8 then x8 else x7)))) rfl) ?_
    refine o_if (fun h9 => ?_) (fun h9 => ?_)
    · skip
      refine o_know 25 rfl (dec_true h9) ?_
      refine f_op rfl rfl (s_idxA Try.underlying43 ty3 rfl rfl (by decide)) ?_
      refine o_bind ?_; intro x10 hx10
      refine f_op rfl rfl (s_load Try.underlying3 rfl rfl (ldI_eq hx10)) ?_
      refine f_op rfl rfl (s_idxA Try.underlying43 ty3 rfl rfl (by decide)) ?_
      refine o_bind ?_; intro x11 hx11
      refine f_op rfl rfl (s_load Try.underlying3 rfl rfl (ldI_eq hx11)) ?_
      refine f_op rfl rfl (s_min2 rfl rfl) ?_
      refine f_op rfl rfl (s_idxA Try.underlying43 ty3 rfl rfl (by decide)) ?_
      refine o_bind ?_; intro x12 hx12
      refine f_op rfl rfl (s_load Try.underlying3 rfl rfl (ldI_eq hx12)) ?_
      refine f_op rfl rfl (s_leq rfl rfl) ?_
      refine f_op rfl rfl (s_pickT (v := .bool (decide ((if x11 < x10 then x11 else x10) ≤ x12))) rfl rfl) ?_
      refine f_op rfl rfl (s_mv (v := .bool (decide ((if x11 < x10 then x11 else x10) ≤ x12))) rfl) ?_
      refine o_if (fun h13 => ?_) (fun h13 => ?_)
      · skip
        refine o_know 35 rfl (dec_true h13) ?_
        refine f_op rfl rfl (s_idxA Try.underlying43 ty3 rfl rfl (by decide)) ?_
        refine o_bind ?_; intro x14 hx14
        refine f_op rfl rfl (s_load Try.underlying3 rfl rfl (ldI_eq hx14)) ?_
        refine f_op rfl rfl (s_idxA Try.underlying43 ty3 rfl rfl (by decide)) ?_
        refine o_bind ?_; intro x15 hx15
        refine f_op rfl rfl (s_load Try.underlying3 rfl rfl (ldI_eq hx15)) ?_
        refine f_op rfl rfl (s_idxA Try.underlying43 ty3 rfl rfl (by decide)) ?_
        refine o_bind ?_; intro x16 hx16
        refine f_op rfl rfl (s_load Try.underlying3 rfl rfl (ldI_eq hx16)) ?_
        refine f_op rfl rfl (s_max2 rfl rfl) ?_
        refine f_op rfl rfl (s_leq rfl rfl) ?_
        refine f_op rfl rfl (s_pickT (v := .bool (decide (x14 ≤ (if x15 < x16 then x16 else x15)))) rfl rfl) ?_
        refine f_op rfl rfl (s_as (v := .bool (decide (x14 ≤ (if x15 < x16 then x16 else x15)))) rfl) ?_
        refine f_nil ?_
        exact f_ret (.tmp rfl (.nil)) rfl
      · skip
        refine o_know 35 rfl (dec_false h13) ?_
        refine f_no rfl rfl ?_
        refine f_no rfl rfl ?_
        refine f_no rfl rfl ?_
        refine f_no rfl rfl ?_
        refine f_no rfl rfl ?_
        refine f_no rfl rfl ?_
        refine f_no rfl rfl ?_
        refine f_no rfl rfl ?_
        refine f_op rfl rfl (s_pickF (v := .bool false) rfl rfl) ?_
        refine f_op rfl rfl (s_as (v := .bool false) rfl) ?_
        refine f_nil ?_
        exact f_ret (.tmp rfl (.nil)) rfl
    · skip
      refine o_know 25 rfl (dec_false h9) ?_
      refine f_no rfl rfl ?_
      refine f_no rfl rfl ?_
      refine f_no rfl rfl ?_
      refine f_no rfl rfl ?_
      refine f_no rfl rfl ?_
      refine f_no rfl rfl ?_
      refine f_no rfl rfl ?_
      refine f_no rfl rfl ?_
      refine f_op rfl rfl (s_pickF (v := .bool false) rfl rfl) ?_
      refine f_op rfl rfl (s_mv (v := .bool false) rfl) ?_
      refine f_no rfl rfl ?_
      refine f_no rfl rfl ?_
      refine f_no rfl rfl ?_
      refine f_no rfl rfl ?_
      refine f_no rfl rfl ?_
      refine f_no rfl rfl ?_
      refine f_no rfl rfl ?_
      refine f_no rfl rfl ?_
      refine f_op rfl rfl (s_pickF (v := .bool false) rfl rfl) ?_
      refine f_op rfl rfl (s_as (v := .bool false) rfl) ?_
      refine f_nil ?_
      exact f_ret (.tmp rfl (.nil)) rfl
  · skip
    refine o_know 15 rfl (dec_false h5) ?_
    refine f_no rfl rfl ?_
    refine f_no rfl rfl ?_
    refine f_no rfl rfl ?_
    refine f_no rfl rfl ?_
    refine f_no rfl rfl ?_
    refine f_no rfl rfl ?_
    refine f_no rfl rfl ?_
    refine f_no rfl rfl ?_
    refine f_op rfl rfl (s_pickF (v := .bool false) rfl rfl) ?_
    refine f_op rfl rfl (s_mv (v := .bool false) rfl) ?_
    refine f_no rfl rfl ?_
    refine f_no rfl rfl ?_
    refine f_no rfl rfl ?_
    refine f_no rfl rfl ?_
    refine f_no rfl rfl ?_
    refine f_no rfl rfl ?_
    refine f_no rfl rfl ?_
    refine f_no rfl rfl ?_
    refine f_op rfl rfl (s_pickF (v := .bool false) rfl rfl) ?_
    refine f_op rfl rfl (s_mv (v := .bool false) rfl) ?_
    refine f_no rfl rfl ?_
    refine f_no rfl rfl ?_
    refine f_no rfl rfl ?_
    refine f_no rfl rfl ?_
    refine f_no rfl rfl ?_
    refine f_no rfl rfl ?_
    refine f_no rfl rfl ?_
    refine f_no rfl rfl ?_
    refine f_op rfl rfl (s_pickF (v := .bool false) rfl rfl) ?_
    refine f_op rfl rfl (s_as (v := .bool false) rfl) ?_
    refine f_nil ?_
    exact f_ret (.tmp rfl (.nil)) rfl

/- 85 slices.Index[[][2]int,[2]int] -/
theorem ok85 : FnOk Try.prog 85 := ⟨⟨Try.f85, Try.func85, by kernel_rfl, rfl⟩⟩
theorem s85_l0 : ∀ (k_ : Nat) (v1 : Sl) (v2 : Nat) (v3 : Int) (v4 : Int) (H : Hp), Fin Try.prog Try.f85 ret85 19 (todoAt (bodyOf Try.f85) [1, 0, 1, 0, 0] []) [(0, .sl v1), (3, .ptr v2 0), (7, .int .i64 v3), (8, .int .i64 v4)] H (r85_l0 k_ v1 v2 v3 v4 H) := by
  intro k_
  induction k_ with
  | zero => intro _ _ _ _ _; exact f_none
  | succ k_ ih =>
    intro v1 v2 v3 v4 H
    rw [r85_l0]
    refine f_seq ?_
    refine f_region ?_
    refine f_op rfl rfl (s_lss rfl rfl) ?_
    refine f_nil ?_
    refine f_seq ?_
    refine f_if (fun h1 => ?_) (fun h1 => ?_)
    · skip
      refine f_know 9 rfl (dec_true h1) ?_
      refine f_condT rfl ?_
      refine f_skip ?_
      refine f_seq ?_
      refine f_block ?_
      refine f_seq ?_
      refine f_region ?_
      refine f_op rfl rfl (s_mv (v := .int .i64 v4) rfl) ?_
      refine f_op rfl rfl (s_as (v := .int .i64 v4) rfl) ?_
      refine f_nil ?_
      refine f_seq ?_
      refine f_bind ?_; intro x2 hx2
      refine f_bind ?_; intro x3 hx3
      refine f_ck fun g4 => ?_
      refine f_bind ?_; intro x5 hx5
      refine f_bind ?_; intro x6 hx6
      refine f_draw (Φ := fun _ => True) (lim := 1000000) [1, 0, 0, 0, 1, 0] (Trc.read rfl rfl rfl (s_loads Try.underlying43 rfl ty43 rfl (lds_cons (ldI_eq hx2) (lds_cons (ldI_eq hx3) (lds_nil)))) (Trc.pure rfl rfl rfl (.inl fun _ => s_mv (v := .sl v1) rfl) (Trc.pure rfl rfl rfl (.inl fun _ => s_mv (v := .int .i64 v4) rfl) (Trc.pure rfl rfl rfl (.inl fun _ => s_idx Try.underlying37 ty43 rfl rfl g4) (Trc.read rfl rfl rfl (s_loads Try.underlying43 rfl ty43 rfl (lds_cons (ldI_eq hx5) (lds_cons (ldI_eq hx6) (lds_nil)))) (Trc.pure rfl rfl rfl (.inl fun _ => s_eqArr eg43 Try.underlying43 Try.underlying3 ty3 rfl rfl rfl rfl rfl rfl) (Trc.nil (fun _ => trivial)))))))) rfl (by decide +kernel) mixed ?_
      refine f_if (fun h7 => ?_) (fun h7 => ?_)
      · skip
        refine f_know 16 rfl (bool_T h7) ?_
        refine f_condT rfl ?_
        refine f_seq ?_
        refine f_region ?_
        refine f_op rfl rfl (s_mv (v := .int .i64 v4) rfl) ?_
        refine f_op rfl rfl (s_as (v := .int .i64 v4) rfl) ?_
        refine f_nil ?_
        exact f_ret (.tmp rfl (.nil)) rfl
      · skip
        refine f_know 16 rfl (bool_F h7) ?_
        refine f_condF rfl ?_
        refine f_skip ?_
        refine f_inBlock ?_
        refine f_region ?_
        refine f_op rfl rfl (s_add rfl rfl) ?_
        refine f_op rfl rfl (s_mv (v := .int .i64 (w64 (v4 + 1))) rfl) ?_
        refine f_nil ?_
        refine f_inLoop ?_
        refine f_keep [0, 3, 7, 8] ?_
        exact ih v1 v2 v3 (w64 (v4 + 1)) H
    · skip
      refine f_know 9 rfl (dec_false h1) ?_
      refine f_condF rfl ?_
      refine f_exit rfl ?_
      refine f_seq ?_
      refine f_region ?_
      refine f_op rfl rfl (s_as (v := .int .i64 (-1)) rfl) ?_
      refine f_nil ?_
      exact f_ret (.tmp rfl (.nil)) rfl

theorem sim85 {a0 : Sl} {a1_0 : Int} {a1_1 : Int} {H : Hp} {p : Int × Hp} (h : r85 a0 a1_0 a1_1 H = some p) : CallSim Try.prog 85 [.sl a0, .agg [.int .i64 a1_0, .int .i64 a1_1]] H (.int .i64 p.1) p.2 := by
  refine callSim (fn := Try.f85) (ret := ret85) Try.func85 rfl Try.ntmps85 rfl ?_ h
  unfold r85
  refine f_seq ?_
  refine f_region ?_
  refine f_op rfl rfl (s_box (v := .agg [.int .i64 a1_0, .int .i64 a1_1]) rfl rfl) ?_
  refine f_op rfl rfl (s_as (v := .int .i64 0) rfl) ?_
  refine o_hp ?_; intro H1 hH1
  refine f_nil ?_
  refine f_seq ?_
  refine f_seq ?_
  refine f_region ?_
  refine f_op rfl rfl (s_mv (v := .sl a0) rfl) ?_
  refine f_op rfl rfl (s_lenS rfl Try.underlying37 rfl) ?_
  refine f_op rfl rfl (s_mv (v := .int .i64 0) rfl) ?_
  refine f_nil ?_
  refine f_block ?_
  refine f_loop ?_
  refine f_keep [0, 3, 7, 8] ?_
  exact s85_l0 FUEL a0 H.n (a0.len : Int) 0 H1

/- 47 slices.Contains[[][2]int,[2]int] -/
theorem ok47 : FnOk Try.prog 47 := ⟨⟨Try.f47, Try.func47, by kernel_rfl, rfl⟩⟩
theorem sim47 {a0 : Sl} {a1_0 : Int} {a1_1 : Int} {H : Hp} {p : Bool × Hp} (h : r47 a0 a1_0 a1_1 H = some p) : CallSim Try.prog 47 [.sl a0, .agg [.int .i64 a1_0, .int .i64 a1_1]] H (.bool p.1) p.2 := by
  refine callSim (fn := Try.f47) (ret := ret47) Try.func47 rfl Try.ntmps47 rfl ?_ h
  unfold r47
  refine f_seq ?_
  refine f_region ?_
  refine f_op rfl rfl (s_box (v := .agg [.int .i64 a1_0, .int .i64 a1_1]) rfl rfl) ?_
  refine f_op rfl rfl (s_as (v := .bool false) rfl) ?_
  refine o_hp ?_; intro H1 hH1
  refine f_nil ?_
  refine f_seq ?_
  refine f_region ?_
  refine f_op rfl rfl (s_mv (v := .sl a0) rfl) ?_
  refine o_bind ?_; intro x2 hx2
  refine o_bind ?_; intro x3 hx3
  refine f_op rfl rfl (s_loads Try.underlying43 rfl ty43 rfl (lds_cons (ldI_eq hx2) (lds_cons (ldI_eq hx3) (lds_nil)))) ?_
  refine o_bind ?_; intro p4 hp4
  refine f_op rfl rfl (s_callF rfl ok85 (sim85 hp4)) ?_
  refine f_op rfl rfl (s_geq rfl rfl) ?_
  refine f_op rfl rfl (s_as (v := .bool (decide (0 ≤ p4.1))) rfl) ?_
  refine f_nil ?_
  exact f_ret (.tmp rfl (.nil)) rfl

/- 48 congou/congoulaw02.near -/
theorem ok48 : FnOk Try.prog 48 := ⟨⟨Try.f48, Try.func48, by kernel_rfl, rfl⟩⟩
theorem sim48 {a0 : Int} {a1 : Int} {H : Hp} {p : Bool × Hp} (h : r48 a0 a1 H = some p) : CallSim Try.prog 48 [.int .i64 a0, .int .i64 a1] H (.bool p.1) p.2 := by
  refine callSim (fn := Try.f48) (ret := ret48) Try.func48 rfl Try.ntmps48 rfl ?_ h
  unfold r48
  refine f_seq ?_
  refine f_region ?_
  refine f_op rfl rfl (s_as (v := .bool false) rfl) ?_
  refine f_nil ?_
  refine f_seq ?_
  refine f_region ?_
  refine f_op rfl rfl (s_mv (v := .int .i64 a0) rfl) ?_
  refine f_op rfl rfl (s_geq rfl rfl) ?_
  refine f_op rfl rfl (s_mv (v := .bool (decide ((-9) ≤ a0))) rfl) ?_
  refine o_if (fun h1 => ?_) (fun h1 => ?_)
  · skip
    refine o_know 7 rfl (dec_true h1) ?_
    refine f_op rfl rfl (s_mv (v := .int .i64 a0) rfl) ?_
    refine f_op rfl rfl (s_leq rfl rfl) ?_
    refine f_op rfl rfl (s_pickT (v := .bool (decide (a0 ≤ 9))) rfl rfl) ?_
    refine f_op rfl rfl (s_mv (v := .bool (decide (a0 ≤ 9))) rfl) ?_
    refine o_if (fun h2 => ?_) (fun h2 => ?_)
    · skip
      refine o_know 11 rfl (dec_true h2) ?_
      refine f_op rfl rfl (s_mv (v := .int .i64 a1) rfl) ?_
      refine f_op rfl rfl (s_geq rfl rfl) ?_
      refine f_op rfl rfl (s_pickT (v := .bool (decide ((-9) ≤ a1))) rfl rfl) ?_
      refine f_op rfl rfl (s_mv (v := .bool (decide ((-9) ≤ a1))) rfl) ?_
      refine o_if (fun h3 => ?_) (fun h3 => ?_)
      · skip
        refine o_know 15 rfl (dec_true h3) ?_
        refine f_op rfl rfl (s_mv (v := .int .i64 a1) rfl) ?_
        refine f_op rfl rfl (s_leq rfl rfl) ?_
        refine f_op rfl rfl (s_pickT (v := .bool (decide (a1 ≤ 9))) rfl rfl) ?_
        refine f_op rfl rfl (s_as (v := .bool (decide (a1 ≤ 9))) rfl) ?_
        refine f_nil ?_
        exact f_ret (.tmp rfl (.nil)) rfl
      · skip
        refine o_know 15 rfl (dec_false h3) ?_
        refine f_no rfl rfl ?_
        refine f_no rfl rfl ?_
        refine f_op rfl rfl (s_pickF (v := .bool false) rfl rfl) ?_
        refine f_op rfl rfl (s_as (v := .bool false) rfl) ?_
        refine f_nil ?_
        exact f_ret (.tmp rfl (.nil)) rfl
    · skip
      refine o_know 11 rfl (dec_false h2) ?_
      refine f_no rfl rfl ?_
      refine f_no rfl rfl ?_
      refine f_op rfl rfl (s_pickF (v := .bool false) rfl rfl) ?_
      refine f_op rfl rfl (s_mv (v := .bool false) rfl) ?_
      refine f_no rfl rfl ?_
      refine f_no rfl rfl ?_
      refine f_op rfl rfl (s_pickF (v := .bool false) rfl rfl) ?_
      refine f_op rfl rfl (s_as (v := .bool false) rfl) ?_
      refine f_nil ?_
      exact f_ret (.tmp rfl (.nil)) rfl
  · skip
    refine o_know 7 rfl (dec_false h1) ?_
    refine f_no rfl rfl ?_
    refine f_no rfl rfl ?_
    refine f_op rfl rfl (s_pickF (v := .bool false) rfl rfl) ?_
    refine f_op rfl rfl (s_mv (v := .bool false) rfl) ?_
    refine f_no rfl rfl ?_
    refine f_no rfl rfl ?_
    refine f_op rfl rfl (s_pickF (v := .bool false) rfl rfl) ?_
    refine f_op rfl rfl (s_mv (v := .bool false) rfl) ?_
    refine f_no rfl rfl ?_
    refine f_no rfl rfl ?_
    refine f_op rfl rfl (s_pickF (v := .bool false) rfl rfl) ?_
    refine f_op rfl rfl (s_as (v := .bool false) rfl) ?_
    refine f_nil ?_
    exact f_ret (.tmp rfl (.nil)) rfl

end Go.Lt.P2
