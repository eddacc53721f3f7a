/- PRINTED BY A PROGRAM OF OURS: what each function that 'PairsCosts' reaches computes on the abstract heap, and that the translated code does just that. Nothing is asked of the input. -/
import Derived.Test.YthmhdbmpeepmaaaG15P0
set_option linter.unusedVariables false
set_option linter.unusedSimpArgs false
set_option maxRecDepth 100000
set_option maxHeartbeats 4000000
namespace Go.Lt.P8
open Go Go.Lt Go.Proofs
/- 47 congou/pairs.Pins -/
theorem ok47 : FnOk Try.prog 47 := ⟨⟨Try.f47, Try.func47, by kernel_rfl, rfl⟩⟩
theorem s47_l3 {app : App} (happ : AppSim Try.prog app) (kt2 : Int → Sl → Int → Int → Sl → Int → Int → Hp → Option ((Sl × Int) × Hp)) (hkt2 : ∀ (v1 : Int) (v2 : Sl) (v3 : Int) (v4 : Int) (v5 : Sl) (v6 : Int) (v7 : Int) (H : Hp), Fin Try.prog Try.f47 ret47 51 (todoAt (bodyOf Try.f47) [1, 1, 1, 0, 1, 0, 0, 1, 1, 0, 0, 1, 0, 1, 0, 0] []) [(0, .int .i64 v1), (5, .sl v2), (16, .int .i64 v3), (17, .int .i64 v4), (19, .sl v5), (20, .int .i64 v6), (21, .int .i64 v7)] H (kt2 v1 v2 v3 v4 v5 v6 v7 H)) : ∀ (k_ : Nat) (v1 : Int) (v2 : Sl) (v3 : Sl) (v4 : Int) (v5 : Int) (v6 : Sl) (v7 : Int) (v8 : Int) (v9 : Int) (v10 : Int) (H : Hp), Fin Try.prog Try.f47 ret47 51 (todoAt (bodyOf Try.f47) [1, 1, 1, 0, 1, 0, 0, 1, 1, 0, 0, 1, 0, 1, 0, 0, 1, 1, 0, 0, 1, 1, 0, 0] []) [(0, .int .i64 v1), (5, .sl v2), (7, .sl v3), (16, .int .i64 v4), (17, .int .i64 v5), (19, .sl v6), (20, .int .i64 v7), (21, .int .i64 v8), (25, .int .i64 v9), (26, .int .i64 v10)] H (r47_l3 app kt2 k_ v1 v2 v3 v4 v5 v6 v7 v8 v9 v10 H) := by
  intro k_
  induction k_ with
  | zero => intro _ _ _ _ _ _ _ _ _ _ _; exact f_none
  | succ k_ ih =>
    intro v1 v2 v3 v4 v5 v6 v7 v8 v9 v10 H
    rw [r47_l3]
    refine f_seq ?_
    refine f_region ?_
    refine f_op rfl rfl (s_lss rfl rfl) ?_
    refine f_nil ?_
    refine f_seq ?_
    refine f_if (fun h1 => ?_) (fun h1 => ?_)
    · skip
      refine f_know 27 rfl (dec_true h1) ?_
      refine f_condT rfl ?_
      refine f_skip ?_
      refine f_seq ?_
      refine f_block ?_
      refine f_seq ?_
      refine f_region ?_
      refine f_op rfl rfl (s_mv (v := .int .i64 v10) rfl) ?_
      refine f_op rfl rfl (s_as (v := .int .i64 v10) rfl) ?_
      refine f_nil ?_
      refine f_seq ?_
      refine f_region ?_
      refine f_op rfl rfl (s_mv (v := .sl v3) rfl) ?_
      refine f_op rfl rfl (s_mv (v := .int .i64 v10) rfl) ?_
      refine o_bind ?_; intro p2 hp2
      refine f_op rfl rfl (s_callF rfl ok77 (sim77 hp2)) ?_
      refine f_op rfl rfl (s_not rfl) ?_
      refine f_nil ?_
      refine f_if (fun h3 => ?_) (fun h3 => ?_)
      · skip
        refine f_know 32 rfl (bool_notT h3) ?_
        refine f_condF rfl ?_
        refine f_skip ?_
        refine f_inBlock ?_
        refine f_region ?_
        refine f_op rfl rfl (s_add rfl rfl) ?_
        refine f_op rfl rfl (s_mv (v := .int .i64 (w64 (v10 + 1))) rfl) ?_
        refine f_nil ?_
        refine f_inLoop ?_
        refine f_keep [0, 5, 7, 16, 17, 19, 20, 21, 25, 26] ?_
        exact ih v1 v2 v3 v4 v5 v6 v7 v8 v9 (w64 (v10 + 1)) p2.2
      · skip
        refine f_know 32 rfl (bool_notF h3) ?_
        refine f_condT rfl ?_
        refine f_region ?_
        refine f_op rfl rfl (s_mv (v := .sl v2) rfl) ?_
        refine f_op rfl rfl (s_mv (v := .sl v3) rfl) ?_
        refine f_op rfl rfl (s_mv (v := .sl v3) rfl) ?_
        refine f_op rfl rfl (s_lenS rfl Try.underlying22 rfl) ?_
        refine f_op rfl rfl (s_mv (v := .sl v3) rfl) ?_
        refine f_op rfl rfl (s_lenS rfl Try.underlying22 rfl) ?_
        refine o_ck fun g4 => ?_
        refine f_op rfl rfl (s_slice3 Try.underlying22 ty3 rfl rfl rfl rfl g4) ?_
        refine f_op rfl rfl (s_mv (v := .int .i64 v10) rfl) ?_
        refine f_op rfl rfl (s_buildSlice (cs := [.int .i64 v10]) Try.underlying22 ty3 (by decide) (by decide) rfl (by decide) rfl) ?_
        refine o_bind ?_; intro x5 hx5
        refine f_op rfl rfl (s_ap rfl rfl Try.underlying22 Try.underlying22 ty3 rfl rfl rfl rfl rfl rfl rfl hx5) ?_
        refine f_op rfl rfl (s_buildSlice (cs := [.sl x5.1]) Try.underlying51 ty22 (by decide) (by decide) rfl (by decide) rfl) ?_
        refine o_bind ?_; intro x6 hx6
        refine f_op rfl rfl (s_ap rfl rfl Try.underlying51 Try.underlying51 ty22 rfl rfl rfl rfl rfl rfl rfl hx6) ?_
        refine f_op rfl rfl (s_as (v := .sl x6.1) rfl) ?_
        refine f_nil ?_
        refine f_inBlock ?_
        refine f_region ?_
        refine f_op rfl rfl (s_add rfl rfl) ?_
        refine f_op rfl rfl (s_mv (v := .int .i64 (w64 (v10 + 1))) rfl) ?_
        refine f_nil ?_
        refine f_inLoop ?_
        refine f_keep [0, 5, 7, 16, 17, 19, 20, 21, 25, 26] ?_
        exact ih v1 x6.1 v3 v4 v5 v6 v7 v8 v9 (w64 (v10 + 1)) x6.2
    · skip
      refine f_know 27 rfl (dec_false h1) ?_
      refine f_condF rfl ?_
      refine f_exit rfl ?_
      refine f_inBlock ?_
      refine f_region ?_
      refine f_op rfl rfl (s_add rfl rfl) ?_
      refine f_op rfl rfl (s_mv (v := .int .i64 (w64 (v8 + 1))) rfl) ?_
      refine f_nil ?_
      refine f_inLoop ?_
      refine f_keep [0, 5, 16, 17, 19, 20, 21] ?_
      exact hkt2 v1 v2 v4 v5 v6 v7 (w64 (v8 + 1)) H

theorem s47_l2 {app : App} (happ : AppSim Try.prog app) (kt1 : Int → Sl → Int → Int → Hp → Option ((Sl × Int) × Hp)) (hkt1 : ∀ (v1 : Int) (v2 : Sl) (v3 : Int) (v4 : Int) (H : Hp), Fin Try.prog Try.f47 ret47 51 (todoAt (bodyOf Try.f47) [1, 1, 1, 0, 1, 0, 0] []) [(0, .int .i64 v1), (4, .sl v2), (16, .int .i64 v3), (17, .int .i64 v4)] H (kt1 v1 v2 v3 v4 H)) : ∀ (k_ : Nat) (v1 : Int) (v2 : Sl) (v3 : Int) (v4 : Int) (v5 : Sl) (v6 : Int) (v7 : Int) (H : Hp), Fin Try.prog Try.f47 ret47 51 (todoAt (bodyOf Try.f47) [1, 1, 1, 0, 1, 0, 0, 1, 1, 0, 0, 1, 0, 1, 0, 0] []) [(0, .int .i64 v1), (5, .sl v2), (16, .int .i64 v3), (17, .int .i64 v4), (19, .sl v5), (20, .int .i64 v6), (21, .int .i64 v7)] H (r47_l2 app kt1 k_ v1 v2 v3 v4 v5 v6 v7 H) := by
  intro k_
  induction k_ with
  | zero => intro _ _ _ _ _ _ _ _; exact f_none
  | succ k_ ih =>
    intro v1 v2 v3 v4 v5 v6 v7 H
    rw [r47_l2]
    refine f_seq ?_
    refine f_region ?_
    refine f_op rfl rfl (s_lss rfl rfl) ?_
    refine f_nil ?_
    refine f_seq ?_
    refine f_if (fun h1 => ?_) (fun h1 => ?_)
    · skip
      refine f_know 22 rfl (dec_true h1) ?_
      refine f_condT rfl ?_
      refine f_skip ?_
      refine f_seq ?_
      refine f_block ?_
      refine f_seq ?_
      refine f_region ?_
      refine o_ck fun g2 => ?_
      refine f_op rfl rfl (s_idx Try.underlying51 ty22 rfl rfl g2) ?_
      refine o_bind ?_; intro x3 hx3
      refine f_op rfl rfl (s_load Try.underlying22 rfl rfl (ldSl_eq hx3)) ?_
      refine f_op rfl rfl (s_as (v := .sl x3) rfl) ?_
      refine f_nil ?_
      refine f_seq ?_
      refine f_region ?_
      refine f_op rfl rfl (s_mv (v := .int .i64 v1) rfl) ?_
      refine f_op rfl rfl (s_mv (v := .int .i64 0) rfl) ?_
      refine f_nil ?_
      refine f_block ?_
      refine f_loop ?_
      refine f_keep [0, 5, 7, 16, 17, 19, 20, 21, 25, 26] ?_
      exact s47_l3 happ _ (fun v1_ v2_ v3_ v4_ v5_ v6_ v7_ H_ => ih v1_ v2_ v3_ v4_ v5_ v6_ v7_ H_) FUEL v1 v2 x3 v3 v4 v5 v6 v7 v1 0 H
    · skip
      refine f_know 22 rfl (dec_false h1) ?_
      refine f_condF rfl ?_
      refine f_exit rfl ?_
      refine f_region ?_
      refine f_op rfl rfl (s_mv (v := .sl v2) rfl) ?_
      refine f_op rfl rfl (s_as (v := .sl v2) rfl) ?_
      refine f_nil ?_
      refine f_inBlock ?_
      refine f_region ?_
      refine f_op rfl rfl (s_add rfl rfl) ?_
      refine f_op rfl rfl (s_mv (v := .int .i64 (w64 (v4 + 1))) rfl) ?_
      refine f_nil ?_
      refine f_inLoop ?_
      refine f_keep [0, 4, 16, 17] ?_
      exact hkt1 v1 v2 v3 (w64 (v4 + 1)) H

theorem s47_l1 {app : App} (happ : AppSim Try.prog app) : ∀ (k_ : Nat) (v1 : Int) (v2 : Sl) (v3 : Int) (v4 : Int) (H : Hp), Fin Try.prog Try.f47 ret47 51 (todoAt (bodyOf Try.f47) [1, 1, 1, 0, 1, 0, 0] []) [(0, .int .i64 v1), (4, .sl v2), (16, .int .i64 v3), (17, .int .i64 v4)] H (r47_l1 app k_ v1 v2 v3 v4 H) := by
  intro k_
  induction k_ with
  | zero => intro _ _ _ _ _; exact f_none
  | succ k_ ih =>
    intro v1 v2 v3 v4 H
    rw [r47_l1]
    refine f_seq ?_
    refine f_region ?_
    refine f_op rfl rfl (s_lss rfl rfl) ?_
    refine f_nil ?_
    refine f_seq ?_
    refine f_if (fun h1 => ?_) (fun h1 => ?_)
    · skip
      refine f_know 18 rfl (dec_true h1) ?_
      refine f_condT rfl ?_
      refine f_skip ?_
      refine f_seq ?_
      refine f_block ?_
      refine f_seq ?_
      refine f_region ?_
      refine f_op rfl rfl (s_as (v := .sl ⟨true, 0, 0, 0, 0, 0⟩) rfl) ?_
      refine f_nil ?_
      refine f_seq ?_
      refine f_seq ?_
      refine f_region ?_
      refine f_op rfl rfl (s_mv (v := .sl v2) rfl) ?_
      refine f_op rfl rfl (s_lenS rfl Try.underlying51 rfl) ?_
      refine f_op rfl rfl (s_mv (v := .int .i64 0) rfl) ?_
      refine f_nil ?_
      refine f_block ?_
      refine f_loop ?_
      refine f_keep [0, 5, 16, 17, 19, 20, 21] ?_
      exact s47_l2 happ _ (fun v1_ v2_ v3_ v4_ H_ => ih v1_ v2_ v3_ v4_ H_) FUEL v1 ⟨true, 0, 0, 0, 0, 0⟩ v3 v4 v2 (v2.len : Int) 0 H
    · skip
      refine f_know 18 rfl (dec_false h1) ?_
      refine f_condF rfl ?_
      refine f_exit rfl ?_
      refine f_seq ?_
      refine f_region ?_
      refine f_op rfl rfl (s_mv (v := .sl v2) rfl) ?_
      refine o_bind ?_; intro p2 hp2
      refine f_op rfl rfl (s_callF rfl ok83 (sim83 happ hp2)) ?_
      refine f_op rfl rfl (s_as (v := .sl p2.1) rfl) ?_
      refine f_op rfl rfl (s_as (v := .int .i64 0) rfl) ?_
      refine f_nil ?_
      exact f_ret (.tmp rfl (.tmp rfl (.nil))) rfl

theorem s47_j0 {app : App} (happ : AppSim Try.prog app) (v1 : Int) (v2 : Bool) (H : Hp) : Fin Try.prog Try.f47 ret47 51 (todoAt (bodyOf Try.f47) [1, 0, 1] []) [(0, .int .i64 v1), (14, .bool v2)] H (r47_j0 app v1 v2 H) := by
  unfold r47_j0
  refine f_if (fun h1 => ?_) (fun h1 => ?_)
  · skip
    refine f_know 14 rfl (bool_T h1) ?_
    refine f_condT rfl ?_
    refine f_seq ?_
    refine f_region ?_
    refine f_op rfl rfl (s_as (v := .sl ⟨true, 0, 0, 0, 0, 0⟩) rfl) ?_
    refine f_op rfl rfl (s_as (v := .int .i64 2) rfl) ?_
    refine f_nil ?_
    exact f_ret (.tmp rfl (.tmp rfl (.nil))) rfl
  · skip
    refine f_know 14 rfl (bool_F h1) ?_
    refine f_condF rfl ?_
    refine f_skip ?_
    refine f_seq ?_
    refine f_region ?_
    refine f_op rfl rfl (s_buildSlice (cs := [.sl ⟨true, 0, 0, 0, 0, 0⟩]) Try.underlying51 ty22 (by decide) (by decide) rfl (by decide) rfl) ?_
    refine f_op rfl rfl (s_as (v := .sl ⟨false, H.n, 0, 1, 1, 0⟩) rfl) ?_
    refine o_hp ?_; intro H2 hH2
    refine f_nil ?_
    refine f_seq ?_
    refine f_seq ?_
    refine f_region ?_
    refine f_op rfl rfl (s_mv (v := .int .i64 v1) rfl) ?_
    refine f_op rfl rfl (s_mv (v := .int .i64 0) rfl) ?_
    refine f_nil ?_
    refine f_block ?_
    refine f_loop ?_
    refine f_keep [0, 4, 16, 17] ?_
    exact s47_l1 happ FUEL v1 ⟨false, H.n, 0, 1, 1, 0⟩ v1 0 H2

theorem sim47 {app : App} (happ : AppSim Try.prog app) {a0 : Int} {H : Hp} {p : (Sl × Int) × Hp} (h : r47 app a0 H = some p) : CallSim Try.prog 47 [.int .i64 a0] H (.tup [.sl p.1.1, .int .i64 p.1.2]) p.2 := by
  refine callSim (fn := Try.f47) (ret := ret47) Try.func47 rfl Try.ntmps47 rfl ?_ h
  unfold r47
  refine f_seq ?_
  refine f_region ?_
  refine f_op rfl rfl (s_as (v := .sl ⟨true, 0, 0, 0, 0, 0⟩) rfl) ?_
  refine f_op rfl rfl (s_as (v := .int .i64 0) rfl) ?_
  refine f_nil ?_
  refine f_seq ?_
  refine f_seq ?_
  refine f_region ?_
  refine f_op rfl rfl (s_mv (v := .int .i64 a0) rfl) ?_
  refine f_op rfl rfl (s_lss rfl rfl) ?_
  refine f_op rfl rfl (s_mv (v := .bool (decide (a0 < 1))) rfl) ?_
  refine o_if (fun h1 => ?_) (fun h1 => ?_)
  · skip
    refine o_know 11 rfl (dec_true h1) ?_
    refine f_no rfl rfl ?_
    refine f_no rfl rfl ?_
    refine f_op rfl rfl (s_pickT (v := .bool true) rfl rfl) ?_
    refine f_nil ?_
    refine f_keep [0, 14] ?_
    exact s47_j0 happ a0 true H
  · skip
    refine o_know 11 rfl (dec_false h1) ?_
    refine f_op rfl rfl (s_mv (v := .int .i64 a0) rfl) ?_
    refine f_op rfl rfl (s_gtr rfl rfl) ?_
    refine f_op rfl rfl (s_pickF (v := .bool (decide (6 < a0))) rfl rfl) ?_
    refine f_nil ?_
    refine f_keep [0, 14] ?_
    exact s47_j0 happ a0 (decide (6 < a0)) H

/- 109 cmp.isNaN[int] -/
theorem ok109 : FnOk Try.prog 109 := ⟨⟨Try.f109, Try.func109, by kernel_rfl, rfl⟩⟩
theorem sim109 {a0 : Int} {H : Hp} {p : Bool × Hp} (h : r109 a0 H = some p) : CallSim Try.prog 109 [.int .i64 a0] H (.bool p.1) p.2 := by
  refine callSim (fn := Try.f109) (ret := ret109) Try.func109 rfl Try.ntmps109 rfl ?_ h
  unfold r109
  refine f_seq ?_
  refine f_region ?_
  refine f_op rfl rfl (s_as (v := .bool false) rfl) ?_
  refine f_nil ?_
  refine f_seq ?_
  refine f_region ?_
  refine f_op rfl rfl (s_mv (v := .int .i64 a0) rfl) ?_
  refine f_op rfl rfl (s_mv (v := .int .i64 a0) rfl) ?_
  refine f_op rfl rfl (s_neq rfl rfl) ?_
  refine f_op rfl rfl (s_as (v := .bool (decide (a0 ≠ a0))) rfl) ?_
  refine f_nil ?_
  exact f_ret (.tmp rfl (.nil)) rfl

/- 87 cmp.Compare[int] -/
theorem ok87 : FnOk Try.prog 87 := ⟨⟨Try.f87, Try.func87, by kernel_rfl, rfl⟩⟩
theorem sim87 {a0 : Int} {a1 : Int} {H : Hp} {p : Int × Hp} (h : r87 a0 a1 H = some p) : CallSim Try.prog 87 [.int .i64 a0, .int .i64 a1] H (.int .i64 p.1) p.2 := by
  refine callSim (fn := Try.f87) (ret := ret87) Try.func87 rfl Try.ntmps87 rfl ?_ h
  unfold r87
  refine f_seq ?_
  refine f_region ?_
  refine f_op rfl rfl (s_as (v := .int .i64 0) rfl) ?_
  refine f_nil ?_
  refine f_seq ?_
  refine f_region ?_
  refine f_op rfl rfl (s_mv (v := .int .i64 a0) rfl) ?_
  refine o_bind ?_; intro p1 hp1
  refine f_op rfl rfl (s_callF rfl ok109 (sim109 hp1)) ?_
  refine f_op rfl rfl (s_as (v := .bool p1.1) rfl) ?_
  refine f_nil ?_
  refine f_seq ?_
  refine f_region ?_
  refine f_op rfl rfl (s_mv (v := .int .i64 a1) rfl) ?_
  refine o_bind ?_; intro p2 hp2
  refine f_op rfl rfl (s_callF rfl ok109 (sim109 hp2)) ?_
  refine f_op rfl rfl (s_as (v := .bool p2.1) rfl) ?_
  refine f_nil ?_
  refine f_seq ?_
  refine f_seq ?_
  refine f_region ?_
  refine f_op rfl rfl (s_mv (v := .bool p1.1) rfl) ?_
  refine f_nil ?_
  refine f_if (fun h3 => ?_) (fun h3 => ?_)
  · skip
    refine f_know 11 rfl (bool_T h3) ?_
    refine f_condT rfl ?_
    refine f_seq ?_
    refine f_seq ?_
    refine f_region ?_
    refine f_op rfl rfl (s_mv (v := .bool p2.1) rfl) ?_
    refine f_nil ?_
    refine f_if (fun h4 => ?_) (fun h4 => ?_)
    · skip
      refine f_know 12 rfl (bool_T h4) ?_
      refine f_condT rfl ?_
      refine f_seq ?_
      refine f_region ?_
      refine f_op rfl rfl (s_as (v := .int .i64 0) rfl) ?_
      refine f_nil ?_
      exact f_ret (.tmp rfl (.nil)) rfl
    · skip
      refine f_know 12 rfl (bool_F h4) ?_
      refine f_condF rfl ?_
      refine f_skip ?_
      refine f_seq ?_
      refine f_region ?_
      refine f_op rfl rfl (s_as (v := .int .i64 (-1)) rfl) ?_
      refine f_nil ?_
      exact f_ret (.tmp rfl (.nil)) rfl
  · skip
    refine f_know 11 rfl (bool_F h3) ?_
    refine f_condF rfl ?_
    refine f_skip ?_
    refine f_seq ?_
    refine f_seq ?_
    refine f_region ?_
    refine f_op rfl rfl (s_mv (v := .bool p2.1) rfl) ?_
    refine f_nil ?_
    refine f_if (fun h5 => ?_) (fun h5 => ?_)
    · skip
      refine f_know 13 rfl (bool_T h5) ?_
      refine f_condT rfl ?_
      refine f_seq ?_
      refine f_region ?_
      refine f_op rfl rfl (s_as (v := .int .i64 1) rfl) ?_
      refine f_nil ?_
      exact f_ret (.tmp rfl (.nil)) rfl
    · skip
      refine f_know 13 rfl (bool_F h5) ?_
      refine f_condF rfl ?_
      refine f_skip ?_
      refine f_seq ?_
      refine f_seq ?_
      refine f_region ?_
      refine f_op rfl rfl (s_mv (v := .int .i64 a0) rfl) ?_
      refine f_op rfl rfl (s_mv (v := .int .i64 a1) rfl) ?_
      refine f_op rfl rfl (s_lss rfl rfl) ?_
      refine f_nil ?_
      refine f_if (fun h6 => ?_) (fun h6 => ?_)
      · skip
        refine f_know 16 rfl (dec_true h6) ?_
        refine f_condT rfl ?_
        refine f_seq ?_
        refine f_region ?_
        refine f_op rfl rfl (s_as (v := .int .i64 (-1)) rfl) ?_
        refine f_nil ?_
        exact f_ret (.tmp rfl (.nil)) rfl
      · skip
        refine f_know 16 rfl (dec_false h6) ?_
        refine f_condF rfl ?_
        refine f_skip ?_
        refine f_seq ?_
        refine f_seq ?_
        refine f_region ?_
        refine f_op rfl rfl (s_mv (v := .int .i64 a0) rfl) ?_
        refine f_op rfl rfl (s_mv (v := .int .i64 a1) rfl) ?_
        refine f_op rfl rfl (s_gtr rfl rfl) ?_
        refine f_nil ?_
        refine f_if (fun h7 => ?_) (fun h7 => ?_)
        · skip
          refine f_know 19 rfl (dec_true h7) ?_
          refine f_condT rfl ?_
          refine f_seq ?_
          refine f_region ?_
          refine f_op rfl rfl (s_as (v := .int .i64 1) rfl) ?_
          refine f_nil ?_
          exact f_ret (.tmp rfl (.nil)) rfl
        · skip
          refine f_know 19 rfl (dec_false h7) ?_
          refine f_condF rfl ?_
          refine f_skip ?_
          refine f_seq ?_
          refine f_region ?_
          refine f_op rfl rfl (s_as (v := .int .i64 0) rfl) ?_
          refine f_nil ?_
          exact f_ret (.tmp rfl (.nil)) rfl

/- 50 slices.Compare[[]int,int] -/
theorem ok50 : FnOk Try.prog 50 := ⟨⟨Try.f50, Try.func50, by kernel_rfl, rfl⟩⟩
theorem s50_l0 : ∀ (k_ : Nat) (v1 : Sl) (v2 : Sl) (v3 : Sl) (v4 : Int) (v5 : Int) (H : Hp), Fin Try.prog Try.f50 ret50 36 (todoAt (bodyOf Try.f50) [1, 0, 1, 0, 0] []) [(0, .sl v1), (1, .sl v2), (9, .sl v3), (10, .int .i64 v4), (11, .int .i64 v5)] H (r50_l0 k_ v1 v2 v3 v4 v5 H) := by
  intro k_
  induction k_ with
  | zero => intro _ _ _ _ _ _; exact f_none
  | succ k_ ih =>
    intro v1 v2 v3 v4 v5 H
    rw [r50_l0]
    refine f_seq ?_
    refine f_region ?_
    refine f_op rfl rfl (s_lss rfl rfl) ?_
    refine f_nil ?_
    refine f_seq ?_
    refine f_if (fun h1 => ?_) (fun h1 => ?_)
    · skip
      refine f_know 12 rfl (dec_true h1) ?_
      refine f_condT rfl ?_
      refine f_skip ?_
      refine f_seq ?_
      refine f_block ?_
      refine f_seq ?_
      refine f_region ?_
      refine f_op rfl rfl (s_mv (v := .int .i64 v5) rfl) ?_
      refine o_ck fun g2 => ?_
      refine f_op rfl rfl (s_idx Try.underlying22 ty3 rfl rfl g2) ?_
      refine o_bind ?_; intro x3 hx3
      refine f_op rfl rfl (s_load Try.underlying3 rfl rfl (ldI_eq hx3)) ?_
      refine f_op rfl rfl (s_as (v := .int .i64 v5) rfl) ?_
      refine f_op rfl rfl (s_as (v := .int .i64 x3) rfl) ?_
      refine f_nil ?_
      refine f_seq ?_
      refine f_seq ?_
      refine f_region ?_
      refine f_op rfl rfl (s_mv (v := .int .i64 v5) rfl) ?_
      refine f_op rfl rfl (s_mv (v := .sl v2) rfl) ?_
      refine f_op rfl rfl (s_lenS rfl Try.underlying22 rfl) ?_
      refine f_op rfl rfl (s_geq rfl rfl) ?_
      refine f_nil ?_
      refine f_if (fun h4 => ?_) (fun h4 => ?_)
      · skip
        refine f_know 19 rfl (dec_true h4) ?_
        refine f_condT rfl ?_
        refine f_seq ?_
        refine f_region ?_
        refine f_op rfl rfl (s_as (v := .int .i64 1) rfl) ?_
        refine f_nil ?_
        exact f_ret (.tmp rfl (.nil)) rfl
      · skip
        refine f_know 19 rfl (dec_false h4) ?_
        refine f_condF rfl ?_
        refine f_skip ?_
        refine f_seq ?_
        refine f_region ?_
        refine f_op rfl rfl (s_mv (v := .sl v2) rfl) ?_
        refine f_op rfl rfl (s_mv (v := .int .i64 v5) rfl) ?_
        refine o_ck fun g5 => ?_
        refine f_op rfl rfl (s_idx Try.underlying22 ty3 rfl rfl g5) ?_
        refine o_bind ?_; intro x6 hx6
        refine f_op rfl rfl (s_load Try.underlying3 rfl rfl (ldI_eq hx6)) ?_
        refine f_op rfl rfl (s_as (v := .int .i64 x6) rfl) ?_
        refine f_nil ?_
        refine f_seq ?_
        refine f_region ?_
        refine f_op rfl rfl (s_mv (v := .int .i64 x3) rfl) ?_
        refine f_op rfl rfl (s_mv (v := .int .i64 x6) rfl) ?_
        refine o_bind ?_; intro p7 hp7
        refine f_op rfl rfl (s_callF rfl ok87 (sim87 hp7)) ?_
        refine f_op rfl rfl (s_as (v := .int .i64 p7.1) rfl) ?_
        refine f_nil ?_
        refine f_seq ?_
        refine f_region ?_
        refine f_op rfl rfl (s_mv (v := .int .i64 p7.1) rfl) ?_
        refine f_op rfl rfl (s_neq rfl rfl) ?_
        refine f_nil ?_
        refine f_if (fun h8 => ?_) (fun h8 => ?_)
        · skip
          refine f_know 28 rfl (dec_true h8) ?_
          refine f_condT rfl ?_
          refine f_seq ?_
          refine f_region ?_
          refine f_op rfl rfl (s_mv (v := .int .i64 p7.1) rfl) ?_
          refine f_op rfl rfl (s_as (v := .int .i64 p7.1) rfl) ?_
          refine f_nil ?_
          exact f_ret (.tmp rfl (.nil)) rfl
        · skip
          refine f_know 28 rfl (dec_false h8) ?_
          refine f_condF rfl ?_
          refine f_skip ?_
          refine f_inBlock ?_
          refine f_region ?_
          refine f_op rfl rfl (s_add rfl rfl) ?_
          refine f_op rfl rfl (s_mv (v := .int .i64 (w64 (v5 + 1))) rfl) ?_
          refine f_nil ?_
          refine f_inLoop ?_
          refine f_keep [0, 1, 9, 10, 11] ?_
          exact ih v1 v2 v3 v4 (w64 (v5 + 1)) p7.2
    · skip
      refine f_know 12 rfl (dec_false h1) ?_
      refine f_condF rfl ?_
      refine f_exit rfl ?_
      refine f_seq ?_
      refine f_seq ?_
      refine f_region ?_
      refine f_op rfl rfl (s_mv (v := .sl v1) rfl) ?_
      refine f_op rfl rfl (s_lenS rfl Try.underlying22 rfl) ?_
      refine f_op rfl rfl (s_mv (v := .sl v2) rfl) ?_
      refine f_op rfl rfl (s_lenS rfl Try.underlying22 rfl) ?_
      refine f_op rfl rfl (s_lss rfl rfl) ?_
      refine f_nil ?_
      refine f_if (fun h9 => ?_) (fun h9 => ?_)
      · skip
        refine f_know 35 rfl (dec_true h9) ?_
        refine f_condT rfl ?_
        refine f_seq ?_
        refine f_region ?_
        refine f_op rfl rfl (s_as (v := .int .i64 (-1)) rfl) ?_
        refine f_nil ?_
        exact f_ret (.tmp rfl (.nil)) rfl
      · skip
        refine f_know 35 rfl (dec_false h9) ?_
        refine f_condF rfl ?_
        refine f_skip ?_
        refine f_seq ?_
        refine f_region ?_
        refine f_op rfl rfl (s_as (v := .int .i64 0) rfl) ?_
        refine f_nil ?_
        exact f_ret (.tmp rfl (.nil)) rfl

theorem sim50 {a0 : Sl} {a1 : Sl} {H : Hp} {p : Int × Hp} (h : r50 a0 a1 H = some p) : CallSim Try.prog 50 [.sl a0, .sl a1] H (.int .i64 p.1) p.2 := by
  refine callSim (fn := Try.f50) (ret := ret50) Try.func50 rfl Try.ntmps50 rfl ?_ h
  unfold r50
  refine f_seq ?_
  refine f_region ?_
  refine f_op rfl rfl (s_as (v := .int .i64 0) rfl) ?_
  refine f_nil ?_
  refine f_seq ?_
  refine f_seq ?_
  refine f_region ?_
  refine f_op rfl rfl (s_mv (v := .sl a0) rfl) ?_
  refine f_op rfl rfl (s_lenS rfl Try.underlying22 rfl) ?_
  refine f_op rfl rfl (s_mv (v := .int .i64 0) rfl) ?_
  refine f_nil ?_
  refine f_block ?_
  refine f_loop ?_
  refine f_keep [0, 1, 9, 10, 11] ?_
  exact s50_l0 FUEL a0 a1 a0 (a0.len : Int) 0 H

/- 59 slices.ContainsFunc[[][]int,[]int] -/
theorem ok59 : FnOk Try.prog 59 := ⟨⟨Try.f59, Try.func59, by kernel_rfl, rfl⟩⟩
theorem sim59 {app : App} (happ : AppSim Try.prog app) {a0 : Sl} {a1 : AV} {H : Hp} {p : Bool × Hp} (h : r59 app a0 a1 H = some p) : CallSim Try.prog 59 [.sl a0, a1] H (.bool p.1) p.2 := by
  refine callSim (fn := Try.f59) (ret := ret59) Try.func59 rfl Try.ntmps59 rfl ?_ h
  unfold r59
  refine f_seq ?_
  refine f_region ?_
  refine f_op rfl rfl (s_as (v := .bool false) rfl) ?_
  refine f_nil ?_
  refine f_seq ?_
  refine f_region ?_
  refine f_op rfl rfl (s_mv (v := .sl a0) rfl) ?_
  refine f_op rfl rfl (s_mv (v := a1) rfl) ?_
  refine o_bind ?_; intro p1 hp1
  refine f_op rfl rfl (s_callF rfl ok99 (sim99 happ hp1)) ?_
  refine f_op rfl rfl (s_geq rfl rfl) ?_
  refine f_op rfl rfl (s_as (v := .bool (decide (0 ≤ p1.1))) rfl) ?_
  refine f_nil ?_
  exact f_ret (.tmp rfl (.nil)) rfl

/- 15 congou/congoulaw08.PairsCosts -/
theorem ok15 : FnOk Try.prog 15 := ⟨⟨Try.f15, Try.func15, by kernel_rfl, rfl⟩⟩
theorem s15_j2 {app : App} (happ : AppSim Try.prog app) (kt1 : Int → Int → Int → Nat → Sl → Sl → Int → Int → Hp → Option (Bool × Hp)) (hkt1 : ∀ (v1 : Int) (v2 : Int) (v3 : Int) (v4 : Nat) (v5 : Sl) (v6 : Sl) (v7 : Int) (v8 : Int) (H : Hp), Fin Try.prog Try.f15 ret15 133 (todoAt (bodyOf Try.f15) [1, 1, 1, 1, 0, 1, 0, 0] []) [(0, .int .i64 v1), (2, .int .i64 v2), (3, .int .i64 v3), (5, .ptr v4 0), (9, .sl v5), (40, .sl v6), (41, .int .i64 v7), (42, .int .i64 v8)] H (kt1 v1 v2 v3 v4 v5 v6 v7 v8 H)) (v1 : Int) (v2 : Int) (v3 : Int) (v4 : Nat) (v5 : Sl) (v6 : Sl) (v7 : Int) (v8 : Int) (v9 : Bool) (H : Hp) : Fin Try.prog Try.f15 ret15 133 (todoAt (bodyOf Try.f15) [1, 1, 1, 1, 0, 1, 0, 0, 1, 1, 0, 0, 1, 1, 1] []) [(0, .int .i64 v1), (2, .int .i64 v2), (3, .int .i64 v3), (5, .ptr v4 0), (9, .sl v5), (40, .sl v6), (41, .int .i64 v7), (42, .int .i64 v8), (78, .bool v9)] H (r15_j2 app kt1 v1 v2 v3 v4 v5 v6 v7 v8 v9 H) := by
  unfold r15_j2
  refine f_if (fun h1 => ?_) (fun h1 => ?_)
  · skip
    refine f_know 78 rfl (bool_T h1) ?_
    refine f_condT rfl ?_
    refine f_seq ?_
    refine f_region ?_
    refine f_op rfl rfl (s_as (v := .bool false) rfl) ?_
    refine f_nil ?_
    exact f_ret (.tmp rfl (.nil)) rfl
  · skip
    refine f_know 78 rfl (bool_F h1) ?_
    refine f_condF rfl ?_
    refine f_skip ?_
    refine f_inBlock ?_
    refine f_region ?_
    refine f_op rfl rfl (s_add rfl rfl) ?_
    refine f_op rfl rfl (s_mv (v := .int .i64 (w64 (v8 + 1))) rfl) ?_
    refine f_nil ?_
    refine f_inLoop ?_
    refine f_keep [0, 2, 3, 5, 9, 40, 41, 42] ?_
    exact hkt1 v1 v2 v3 v4 v5 v6 v7 (w64 (v8 + 1)) H

theorem s15_j4 {app : App} (happ : AppSim Try.prog app) (v1 : Int) (v2 : Int) (H : Hp) : Fin Try.prog Try.f15 ret15 133 (todoAt (bodyOf Try.f15) [1, 1, 1, 1, 1, 1] []) [(2, .int .i64 v1), (3, .int .i64 v2)] H (r15_j4 app v1 v2 H) := by
  unfold r15_j4
  refine f_seq ?_
  refine f_region ?_
  refine f_op rfl rfl (s_mv (v := .int .i64 v1) rfl) ?_
  refine f_op rfl rfl (s_mv (v := .int .i64 v2) rfl) ?_
  refine o_bind ?_; intro p1 hp1
  refine f_op rfl rfl (s_callF rfl ok27 (sim27 hp1)) ?_
  refine f_op rfl rfl (s_mv (v := .tup [.sl p1.1.1, .int .i64 p1.1.2]) rfl) ?_
  refine f_op rfl rfl (s_extract (r := .sl p1.1.1) rfl rfl) ?_
  refine f_op rfl rfl (s_extract (r := .int .i64 p1.1.2) rfl rfl) ?_
  refine f_op rfl rfl (s_as (v := .sl p1.1.1) rfl) ?_
  refine f_op rfl rfl (s_as (v := .int .i64 p1.1.2) rfl) ?_
  refine f_nil ?_
  refine f_seq ?_
  refine f_seq ?_
  refine f_region ?_
  refine f_op rfl rfl (s_mv (v := .int .i64 p1.1.2) rfl) ?_
  refine f_op rfl rfl (s_neq rfl rfl) ?_
  refine f_nil ?_
  refine f_if (fun h2 => ?_) (fun h2 => ?_)
  · skip
    refine f_know 106 rfl (dec_true h2) ?_
    refine f_condT rfl ?_
    refine f_seq ?_
    refine f_region ?_
    refine f_op rfl rfl (s_mv (v := .int .i64 p1.1.2) rfl) ?_
    refine f_op rfl rfl (s_eql rfl rfl) ?_
    refine f_op rfl rfl (s_mv (v := .bool (decide (p1.1.2 = 2))) rfl) ?_
    refine o_if (fun h3 => ?_) (fun h3 => ?_)
    · skip
      refine o_know 109 rfl (dec_true h3) ?_
      refine o_bind ?_; intro p4 hp4
      refine f_op rfl rfl (s_callF rfl ok23 (sim23 happ hp4)) ?_
      refine f_op rfl rfl (s_pickT (v := .bool p4.1) rfl rfl) ?_
      refine f_op rfl rfl (s_as (v := .bool p4.1) rfl) ?_
      refine f_nil ?_
      exact f_ret (.tmp rfl (.nil)) rfl
    · skip
      refine o_know 109 rfl (dec_false h3) ?_
      refine f_no rfl rfl ?_
      refine f_op rfl rfl (s_pickF (v := .bool false) rfl rfl) ?_
      refine f_op rfl rfl (s_as (v := .bool false) rfl) ?_
      refine f_nil ?_
      exact f_ret (.tmp rfl (.nil)) rfl
  · skip
    refine f_know 106 rfl (dec_false h2) ?_
    refine f_condF rfl ?_
    refine f_skip ?_
    refine f_seq ?_
    refine f_region ?_
    refine f_op rfl rfl (s_mv (v := .sl p1.1.1) rfl) ?_
    refine o_bind ?_; intro p5 hp5
    refine f_op rfl rfl (s_callF rfl ok36 (sim36 hp5)) ?_
    refine o_bind ?_; intro p6 hp6
    refine f_op rfl rfl (s_callF rfl ok38 (sim38 hp6)) ?_
    refine f_op rfl rfl (s_mv (v := .tup [.bool p6.1.1, .int .i64 p6.1.2]) rfl) ?_
    refine f_op rfl rfl (s_extract (r := .bool p6.1.1) rfl rfl) ?_
    refine f_op rfl rfl (s_extract (r := .int .i64 p6.1.2) rfl rfl) ?_
    refine f_op rfl rfl (s_as (v := .bool p6.1.1) rfl) ?_
    refine f_op rfl rfl (s_as (v := .int .i64 p6.1.2) rfl) ?_
    refine f_nil ?_
    refine f_seq ?_
    refine f_region ?_
    refine f_op rfl rfl (s_mv (v := .bool p6.1.1) rfl) ?_
    refine f_op rfl rfl (s_mv (v := .bool p6.1.1) rfl) ?_
    refine o_if (fun h7 => ?_) (fun h7 => ?_)
    · skip
      refine o_know 119 rfl (bool_T h7) ?_
      refine f_op rfl rfl (s_mv (v := .int .i64 p6.1.2) rfl) ?_
      refine f_op rfl rfl (s_eql rfl rfl) ?_
      refine f_op rfl rfl (s_pickT (v := .bool (decide (p6.1.2 = 0))) rfl rfl) ?_
      refine f_op rfl rfl (s_mv (v := .bool (decide (p6.1.2 = 0))) rfl) ?_
      refine o_if (fun h8 => ?_) (fun h8 => ?_)
      · skip
        refine o_know 123 rfl (dec_true h8) ?_
        refine f_op rfl rfl (s_mv (v := .sl p1.1.1) rfl) ?_
        refine f_op rfl rfl (s_lenS rfl Try.underlying22 rfl) ?_
        refine f_op rfl rfl (s_mv (v := .int .i64 v1) rfl) ?_
        refine f_op rfl rfl (s_sub rfl rfl) ?_
        refine f_op rfl rfl (s_eql rfl rfl) ?_
        refine f_op rfl rfl (s_pickT (v := .bool (decide ((p1.1.1.len : Int) = (w64 (v1 - 1))))) rfl rfl) ?_
        refine f_op rfl rfl (s_mv (v := .bool (decide ((p1.1.1.len : Int) = (w64 (v1 - 1))))) rfl) ?_
        refine o_if (fun h9 => ?_) (fun h9 => ?_)
        · skip
          refine o_know 130 rfl (dec_true h9) ?_
          refine o_bind ?_; intro p10 hp10
          refine f_op rfl rfl (s_callF rfl ok23 (sim23 happ hp10)) ?_
          refine f_op rfl rfl (s_pickT (v := .bool p10.1) rfl rfl) ?_
          refine f_op rfl rfl (s_as (v := .bool p10.1) rfl) ?_
          refine f_nil ?_
          exact f_ret (.tmp rfl (.nil)) rfl
        · skip
          refine o_know 130 rfl (dec_false h9) ?_
          refine f_no rfl rfl ?_
          refine f_op rfl rfl (s_pickF (v := .bool false) rfl rfl) ?_
          refine f_op rfl rfl (s_as (v := .bool false) rfl) ?_
          refine f_nil ?_
          exact f_ret (.tmp rfl (.nil)) rfl
      · skip
        refine o_know 123 rfl (dec_false h8) ?_
        refine f_no rfl rfl ?_
        refine f_no rfl rfl ?_
        refine f_no rfl rfl ?_
        refine f_no rfl rfl ?_
        refine f_no rfl rfl ?_
        refine f_op rfl rfl (s_pickF (v := .bool false) rfl rfl) ?_
        refine f_op rfl rfl (s_mv (v := .bool false) rfl) ?_
        refine f_no rfl rfl ?_
        refine f_op rfl rfl (s_pickF (v := .bool false) rfl rfl) ?_
        refine f_op rfl rfl (s_as (v := .bool false) rfl) ?_
        refine f_nil ?_
        exact f_ret (.tmp rfl (.nil)) rfl
    · skip
      refine o_know 119 rfl (bool_F h7) ?_
      refine f_no rfl rfl ?_
      refine f_no rfl rfl ?_
      refine f_op rfl rfl (s_pickF (v := .bool false) rfl rfl) ?_
      refine f_op rfl rfl (s_mv (v := .bool false) rfl) ?_
      refine f_no rfl rfl ?_
      refine f_no rfl rfl ?_
      refine f_no rfl rfl ?_
      refine f_no rfl rfl ?_
      refine f_no rfl rfl ?_
      refine f_op rfl rfl (s_pickF (v := .bool false) rfl rfl) ?_
      refine f_op rfl rfl (s_mv (v := .bool false) rfl) ?_
      refine f_no rfl rfl ?_
      refine f_op rfl rfl (s_pickF (v := .bool false) rfl rfl) ?_
      refine f_op rfl rfl (s_as (v := .bool false) rfl) ?_
      refine f_nil ?_
      exact f_ret (.tmp rfl (.nil)) rfl

theorem s15_j3 {app : App} (happ : AppSim Try.prog app) (v1 : Int) (v2 : Int) (v3 : Bool) (H : Hp) : Fin Try.prog Try.f15 ret15 133 (todoAt (bodyOf Try.f15) [1, 1, 1, 1, 1, 0, 1, 0, 1, 1] []) [(2, .int .i64 v1), (3, .int .i64 v2), (98, .bool v3)] H (r15_j3 app v1 v2 v3 H) := by
  unfold r15_j3
  refine f_if (fun h1 => ?_) (fun h1 => ?_)
  · skip
    refine f_know 98 rfl (bool_T h1) ?_
    refine f_condT rfl ?_
    refine f_seq ?_
    refine f_region ?_
    refine f_op rfl rfl (s_as (v := .bool false) rfl) ?_
    refine f_nil ?_
    exact f_ret (.tmp rfl (.nil)) rfl
  · skip
    refine f_know 98 rfl (bool_F h1) ?_
    refine f_condF rfl ?_
    refine f_skip ?_
    refine f_keep [2, 3] ?_
    exact s15_j4 happ v1 v2 H

theorem s15_l1 {app : App} (happ : AppSim Try.prog app) : ∀ (k_ : Nat) (v1 : Int) (v2 : Int) (v3 : Int) (v4 : Nat) (v5 : Sl) (v6 : Sl) (v7 : Int) (v8 : Int) (H : Hp), Fin Try.prog Try.f15 ret15 133 (todoAt (bodyOf Try.f15) [1, 1, 1, 1, 0, 1, 0, 0] []) [(0, .int .i64 v1), (2, .int .i64 v2), (3, .int .i64 v3), (5, .ptr v4 0), (9, .sl v5), (40, .sl v6), (41, .int .i64 v7), (42, .int .i64 v8)] H (r15_l1 app k_ v1 v2 v3 v4 v5 v6 v7 v8 H) := by
  intro k_
  induction k_ with
  | zero => intro _ _ _ _ _ _ _ _ _; exact f_none
  | succ k_ ih =>
    intro v1 v2 v3 v4 v5 v6 v7 v8 H
    rw [r15_l1]
    refine f_seq ?_
    refine f_region ?_
    refine f_op rfl rfl (s_lss rfl rfl) ?_
    refine f_nil ?_
    refine f_seq ?_
    refine f_if (fun h1 => ?_) (fun h1 => ?_)
    · skip
      refine f_know 43 rfl (dec_true h1) ?_
      refine f_condT rfl ?_
      refine f_skip ?_
      refine f_seq ?_
      refine f_block ?_
      refine f_seq ?_
      refine f_region ?_
      refine f_op rfl rfl (s_mv (v := .int .i64 v8) rfl) ?_
      refine o_ck fun g2 => ?_
      refine f_op rfl rfl (s_idx Try.underlying51 ty22 rfl rfl g2) ?_
      refine o_bind ?_; intro x3 hx3
      refine f_op rfl rfl (s_load Try.underlying22 rfl rfl (ldSl_eq hx3)) ?_
      refine f_op rfl rfl (s_as (v := .int .i64 v8) rfl) ?_
      refine f_op rfl rfl (s_as (v := .sl x3) rfl) ?_
      refine f_nil ?_
      refine f_seq ?_
      refine f_region ?_
      refine f_op rfl rfl (s_mv (v := .sl x3) rfl) ?_
      refine o_bind ?_; intro p4 hp4
      refine f_op rfl rfl (s_callF rfl ok36 (sim36 hp4)) ?_
      refine o_bind ?_; intro p5 hp5
      refine f_op rfl rfl (s_callF rfl ok38 (sim38 hp5)) ?_
      refine f_op rfl rfl (s_mv (v := .tup [.bool p5.1.1, .int .i64 p5.1.2]) rfl) ?_
      refine f_op rfl rfl (s_extract (r := .bool p5.1.1) rfl rfl) ?_
      refine f_op rfl rfl (s_extract (r := .int .i64 p5.1.2) rfl rfl) ?_
      refine f_op rfl rfl (s_as (v := .bool p5.1.1) rfl) ?_
      refine f_op rfl rfl (s_as (v := .int .i64 p5.1.2) rfl) ?_
      refine f_nil ?_
      refine f_seq ?_
      refine f_region ?_
      refine f_op rfl rfl (s_mv (v := .bool p5.1.1) rfl) ?_
      refine f_op rfl rfl (s_not rfl) ?_
      refine f_op rfl rfl (s_mv (v := .bool (!p5.1.1)) rfl) ?_
      refine o_if (fun h6 => ?_) (fun h6 => ?_)
      · skip
        refine o_know 55 rfl (bool_notT h6) ?_
        refine f_op rfl rfl (s_mv (v := .int .i64 p5.1.2) rfl) ?_
        refine f_op rfl rfl (s_neq rfl rfl) ?_
        refine f_op rfl rfl (s_pickF (v := .bool (decide (p5.1.2 ≠ 0))) rfl rfl) ?_
        refine f_op rfl rfl (s_mv (v := .bool (decide (p5.1.2 ≠ 0))) rfl) ?_
        refine o_if (fun h7 => ?_) (fun h7 => ?_)
        · skip
          refine o_know 59 rfl (dec_true h7) ?_
          refine f_no rfl rfl ?_
          refine f_no rfl rfl ?_
          refine f_no rfl rfl ?_
          refine f_no rfl rfl ?_
          refine f_op rfl rfl (s_pickT (v := .bool true) rfl rfl) ?_
          refine f_op rfl rfl (s_mv (v := .bool true) rfl) ?_
          refine f_no rfl rfl ?_
          refine f_no rfl rfl ?_
          refine f_no rfl rfl ?_
          refine f_no rfl rfl ?_
          refine f_no rfl rfl ?_
          refine f_no rfl rfl ?_
          refine f_no rfl rfl ?_
          refine f_no rfl rfl ?_
          refine f_no rfl rfl ?_
          refine f_no rfl rfl ?_
          refine f_no rfl rfl ?_
          refine f_no rfl rfl ?_
          refine f_op rfl rfl (s_pickT (v := .bool true) rfl rfl) ?_
          refine f_nil ?_
          refine f_keep [0, 2, 3, 5, 9, 40, 41, 42, 78] ?_
          exact s15_j2 happ _ (fun v1_ v2_ v3_ v4_ v5_ v6_ v7_ v8_ H_ => ih v1_ v2_ v3_ v4_ v5_ v6_ v7_ v8_ H_) v1 v2 v3 v4 v5 v6 v7 v8 true p5.2
        · skip
          refine o_know 59 rfl (dec_false h7) ?_
          refine f_op rfl rfl (s_mv (v := .sl x3) rfl) ?_
          refine f_op rfl rfl (s_lenS rfl Try.underlying22 rfl) ?_
          refine f_op rfl rfl (s_mv (v := .int .i64 v1) rfl) ?_
          refine f_op rfl rfl (s_neq rfl rfl) ?_
          refine f_op rfl rfl (s_pickF (v := .bool (decide ((x3.len : Int) ≠ v1))) rfl rfl) ?_
          refine f_op rfl rfl (s_mv (v := .bool (decide ((x3.len : Int) ≠ v1))) rfl) ?_
          refine o_if (fun h8 => ?_) (fun h8 => ?_)
          · skip
            refine o_know 65 rfl (dec_true h8) ?_
            refine f_no rfl rfl ?_
            refine f_no rfl rfl ?_
            refine f_no rfl rfl ?_
            refine f_no rfl rfl ?_
            refine f_no rfl rfl ?_
            refine f_no rfl rfl ?_
            refine f_no rfl rfl ?_
            refine f_no rfl rfl ?_
            refine f_no rfl rfl ?_
            refine f_no rfl rfl ?_
            refine f_no rfl rfl ?_
            refine f_no rfl rfl ?_
            refine f_op rfl rfl (s_pickT (v := .bool true) rfl rfl) ?_
            refine f_nil ?_
            refine f_keep [0, 2, 3, 5, 9, 40, 41, 42, 78] ?_
            exact s15_j2 happ _ (fun v1_ v2_ v3_ v4_ v5_ v6_ v7_ v8_ H_ => ih v1_ v2_ v3_ v4_ v5_ v6_ v7_ v8_ H_) v1 v2 v3 v4 v5 v6 v7 v8 true p5.2
          · skip
            refine o_know 65 rfl (dec_false h8) ?_
            refine f_op rfl rfl (s_mv (v := .int .i64 v8) rfl) ?_
            refine f_op rfl rfl (s_gtr rfl rfl) ?_
            refine f_op rfl rfl (s_mv (v := .bool (decide (0 < v8))) rfl) ?_
            refine o_if (fun h9 => ?_) (fun h9 => ?_)
            · skip
              refine o_know 68 rfl (dec_true h9) ?_
              refine f_op rfl rfl (s_mv (v := .sl v5) rfl) ?_
              refine f_op rfl rfl (s_mv (v := .int .i64 v8) rfl) ?_
              refine f_op rfl rfl (s_sub rfl rfl) ?_
              refine o_ck fun g10 => ?_
              refine f_op rfl rfl (s_idx Try.underlying51 ty22 rfl rfl g10) ?_
              refine o_bind ?_; intro x11 hx11
              refine f_op rfl rfl (s_load Try.underlying22 rfl rfl (ldSl_eq hx11)) ?_
              refine f_op rfl rfl (s_mv (v := .sl x3) rfl) ?_
              refine o_bind ?_; intro p12 hp12
              refine f_op rfl rfl (s_callF rfl ok50 (sim50 hp12)) ?_
              refine f_op rfl rfl (s_geq rfl rfl) ?_
              refine f_op rfl rfl (s_pickT (v := .bool (decide (0 ≤ p12.1))) rfl rfl) ?_
              refine f_op rfl rfl (s_pickF (v := .bool (decide (0 ≤ p12.1))) rfl rfl) ?_
              refine f_nil ?_
              refine f_keep [0, 2, 3, 5, 9, 40, 41, 42, 78] ?_
              exact s15_j2 happ _ (fun v1_ v2_ v3_ v4_ v5_ v6_ v7_ v8_ H_ => ih v1_ v2_ v3_ v4_ v5_ v6_ v7_ v8_ H_) v1 v2 v3 v4 v5 v6 v7 v8 (decide (0 ≤ p12.1)) p12.2
            · skip
              refine o_know 68 rfl (dec_false h9) ?_
              refine f_no rfl rfl ?_
              refine f_no rfl rfl ?_
              refine f_no rfl rfl ?_
              refine f_no rfl rfl ?_
              refine f_no rfl rfl ?_
              refine f_no rfl rfl ?_
              refine f_no rfl rfl ?_
              refine f_no rfl rfl ?_
              refine f_op rfl rfl (s_pickF (v := .bool false) rfl rfl) ?_
              refine f_op rfl rfl (s_pickF (v := .bool false) rfl rfl) ?_
              refine f_nil ?_
              refine f_keep [0, 2, 3, 5, 9, 40, 41, 42, 78] ?_
              exact s15_j2 happ _ (fun v1_ v2_ v3_ v4_ v5_ v6_ v7_ v8_ H_ => ih v1_ v2_ v3_ v4_ v5_ v6_ v7_ v8_ H_) v1 v2 v3 v4 v5 v6 v7 v8 false p5.2
      · skip
        refine o_know 55 rfl (bool_notF h6) ?_
        refine f_no rfl rfl ?_
        refine f_no rfl rfl ?_
        refine f_op rfl rfl (s_pickT (v := .bool true) rfl rfl) ?_
        refine f_op rfl rfl (s_mv (v := .bool true) rfl) ?_
        refine f_no rfl rfl ?_
        refine f_no rfl rfl ?_
        refine f_no rfl rfl ?_
        refine f_no rfl rfl ?_
        refine f_op rfl rfl (s_pickT (v := .bool true) rfl rfl) ?_
        refine f_op rfl rfl (s_mv (v := .bool true) rfl) ?_
        refine f_no rfl rfl ?_
        refine f_no rfl rfl ?_
        refine f_no rfl rfl ?_
        refine f_no rfl rfl ?_
        refine f_no rfl rfl ?_
        refine f_no rfl rfl ?_
        refine f_no rfl rfl ?_
        refine f_no rfl rfl ?_
        refine f_no rfl rfl ?_
        refine f_no rfl rfl ?_
        refine f_no rfl rfl ?_
        refine f_no rfl rfl ?_
        refine f_op rfl rfl (s_pickT (v := .bool true) rfl rfl) ?_
        refine f_nil ?_
        refine f_keep [0, 2, 3, 5, 9, 40, 41, 42, 78] ?_
        exact s15_j2 happ _ (fun v1_ v2_ v3_ v4_ v5_ v6_ v7_ v8_ H_ => ih v1_ v2_ v3_ v4_ v5_ v6_ v7_ v8_ H_) v1 v2 v3 v4 v5 v6 v7 v8 true p5.2
    · skip
      refine f_know 43 rfl (dec_false h1) ?_
      refine f_condF rfl ?_
      refine f_exit rfl ?_
      refine f_seq ?_
      refine f_seq ?_
      refine f_region ?_
      refine o_bind ?_; intro x13 hx13
      refine f_op rfl rfl (s_load Try.underlying22 rfl rfl (ldSl_eq hx13)) ?_
      refine f_op rfl rfl (s_lenS rfl Try.underlying22 rfl) ?_
      refine f_op rfl rfl (s_mv (v := .int .i64 v1) rfl) ?_
      refine f_op rfl rfl (s_eql rfl rfl) ?_
      refine f_nil ?_
      refine f_if (fun h14 => ?_) (fun h14 => ?_)
      · skip
        refine f_know 83 rfl (dec_true h14) ?_
        refine f_condT rfl ?_
        refine f_seq ?_
        refine f_region ?_
        refine o_bind ?_; intro x15 hx15
        refine f_op rfl rfl (s_load Try.underlying22 rfl rfl (ldSl_eq hx15)) ?_
        refine o_bind ?_; intro p16 hp16
        refine f_op rfl rfl (s_callF rfl ok31 (sim31 hp16)) ?_
        refine o_bind ?_; intro p17 hp17
        refine f_op rfl rfl (s_callF rfl ok38 (sim38 hp17)) ?_
        refine f_op rfl rfl (s_mv (v := .tup [.bool p17.1.1, .int .i64 p17.1.2]) rfl) ?_
        refine f_op rfl rfl (s_extract (r := .bool p17.1.1) rfl rfl) ?_
        refine f_op rfl rfl (s_extract (r := .int .i64 p17.1.2) rfl rfl) ?_
        refine f_op rfl rfl (s_as (v := .bool p17.1.1) rfl) ?_
        refine f_op rfl rfl (s_as (v := .int .i64 p17.1.2) rfl) ?_
        refine f_nil ?_
        refine f_seq ?_
        refine f_region ?_
        refine f_op rfl rfl (s_mv (v := .int .i64 p17.1.2) rfl) ?_
        refine f_op rfl rfl (s_neq rfl rfl) ?_
        refine f_op rfl rfl (s_mv (v := .bool (decide (p17.1.2 ≠ 0))) rfl) ?_
        refine o_if (fun h18 => ?_) (fun h18 => ?_)
        · skip
          refine o_know 92 rfl (dec_true h18) ?_
          refine f_no rfl rfl ?_
          refine f_no rfl rfl ?_
          refine f_no rfl rfl ?_
          refine f_no rfl rfl ?_
          refine f_no rfl rfl ?_
          refine f_op rfl rfl (s_pickT (v := .bool true) rfl rfl) ?_
          refine f_nil ?_
          refine f_keep [2, 3, 98] ?_
          exact s15_j3 happ v2 v3 true p17.2
        · skip
          refine o_know 92 rfl (dec_false h18) ?_
          refine f_op rfl rfl (s_mv (v := .bool p17.1.1) rfl) ?_
          refine f_op rfl rfl (s_mv (v := .sl v5) rfl) ?_
          refine f_op rfl rfl (s_makeFunc rfl rfl) ?_
          refine o_bind ?_; intro p19 hp19
          refine f_op rfl rfl (s_callF rfl ok59 (sim59 happ hp19)) ?_
          refine f_op rfl rfl (s_neB Try.underlying4 rfl rfl) ?_
          refine f_op rfl rfl (s_pickF (v := .bool (!(p17.1.1 == p19.1))) rfl rfl) ?_
          refine f_nil ?_
          refine f_keep [2, 3, 98] ?_
          exact s15_j3 happ v2 v3 (!(p17.1.1 == p19.1)) p19.2
      · skip
        refine f_know 83 rfl (dec_false h14) ?_
        refine f_condF rfl ?_
        refine f_skip ?_
        refine f_keep [2, 3] ?_
        exact s15_j4 happ v2 v3 H

theorem s15_j0 {app : App} (happ : AppSim Try.prog app) (v1 : Int) (v2 : Int) (v3 : Int) (v4 : Nat) (v5 : Sl) (v6 : Bool) (H : Hp) : Fin Try.prog Try.f15 ret15 133 (todoAt (bodyOf Try.f15) [1, 1, 1, 0, 1] []) [(0, .int .i64 v1), (2, .int .i64 v2), (3, .int .i64 v3), (5, .ptr v4 0), (9, .sl v5), (39, .bool v6)] H (r15_j0 app v1 v2 v3 v4 v5 v6 H) := by
  unfold r15_j0
  refine f_if (fun h1 => ?_) (fun h1 => ?_)
  · skip
    refine f_know 39 rfl (bool_T h1) ?_
    refine f_condT rfl ?_
    refine f_seq ?_
    refine f_region ?_
    refine f_op rfl rfl (s_as (v := .bool false) rfl) ?_
    refine f_nil ?_
    exact f_ret (.tmp rfl (.nil)) rfl
  · skip
    refine f_know 39 rfl (bool_F h1) ?_
    refine f_condF rfl ?_
    refine f_skip ?_
    refine f_seq ?_
    refine f_seq ?_
    refine f_region ?_
    refine f_op rfl rfl (s_mv (v := .sl v5) rfl) ?_
    refine f_op rfl rfl (s_lenS rfl Try.underlying51 rfl) ?_
    refine f_op rfl rfl (s_mv (v := .int .i64 0) rfl) ?_
    refine f_nil ?_
    refine f_block ?_
    refine f_loop ?_
    refine f_keep [0, 2, 3, 5, 9, 40, 41, 42] ?_
    exact s15_l1 happ FUEL v1 v2 v3 v4 v5 v5 (v5.len : Int) 0 H

theorem sim15 {app : App} (happ : AppSim Try.prog app) {a0 : Int} {a1 : Sl} {a2 : Int} {a3 : Int} {H : Hp} {p : Bool × Hp} (h : r15 app a0 a1 a2 a3 H = some p) : CallSim Try.prog 15 [.int .i64 a0, .sl a1, .int .i64 a2, .int .i64 a3] H (.bool p.1) p.2 := by
  refine callSim (fn := Try.f15) (ret := ret15) Try.func15 rfl Try.ntmps15 rfl ?_ h
  unfold r15
  refine f_seq ?_
  refine f_region ?_
  refine f_op rfl rfl (s_box1 (v := .sl a1) rfl rfl) ?_
  refine f_op rfl rfl (s_as (v := .bool false) rfl) ?_
  refine o_hp ?_; intro H1 hH1
  refine f_nil ?_
  refine f_seq ?_
  refine f_region ?_
  refine f_op rfl rfl (s_mv (v := .int .i64 a0) rfl) ?_
  refine f_op rfl rfl (s_convInt Try.underlying3 Try.underlying39 rfl) ?_
  refine f_op rfl rfl (s_rem rfl rfl (by decide)) ?_
  refine f_op rfl rfl (s_convInt Try.underlying39 Try.underlying3 rfl) ?_
  refine f_op rfl rfl (s_add rfl rfl) ?_
  refine f_op rfl rfl (s_as (v := .int .i64 (w64 (1 + (w64 (Int.tmod (IntKind.wrap .u64 (a0)) 6))))) rfl) ?_
  refine f_nil ?_
  refine f_seq ?_
  refine f_region ?_
  refine f_op rfl rfl (s_mv (v := .int .i64 (w64 (1 + (w64 (Int.tmod (IntKind.wrap .u64 (a0)) 6))))) rfl) ?_
  refine o_bind ?_; intro p2 hp2
  refine f_op rfl rfl (s_callF rfl ok47 (sim47 happ hp2)) ?_
  refine f_op rfl rfl (s_mv (v := .tup [.sl p2.1.1, .int .i64 p2.1.2]) rfl) ?_
  refine f_op rfl rfl (s_extract (r := .sl p2.1.1) rfl rfl) ?_
  refine f_op rfl rfl (s_extract (r := .int .i64 p2.1.2) rfl rfl) ?_
  refine f_op rfl rfl (s_as (v := .sl p2.1.1) rfl) ?_
  refine f_op rfl rfl (s_as (v := .int .i64 p2.1.2) rfl) ?_
  refine f_nil ?_
  refine f_seq ?_
  refine f_seq ?_
  refine f_region ?_
  refine f_op rfl rfl (s_mv (v := .int .i64 p2.1.2) rfl) ?_
  refine f_op rfl rfl (s_neq rfl rfl) ?_
  refine f_op rfl rfl (s_mv (v := .bool (decide (p2.1.2 ≠ 0))) rfl) ?_
  refine o_if (fun h3 => ?_) (fun h3 => ?_)
  · skip
    refine o_know 32 rfl (dec_true h3) ?_
    refine f_no rfl rfl ?_
    refine f_no rfl rfl ?_
    refine f_no rfl rfl ?_
    refine f_no rfl rfl ?_
    refine f_no rfl rfl ?_
    refine f_no rfl rfl ?_
    refine f_op rfl rfl (s_pickT (v := .bool true) rfl rfl) ?_
    refine f_nil ?_
    refine f_keep [0, 2, 3, 5, 9, 39] ?_
    exact s15_j0 happ (w64 (1 + (w64 (Int.tmod (IntKind.wrap .u64 (a0)) 6)))) a2 a3 H.n p2.1.1 true p2.2
  · skip
    refine o_know 32 rfl (dec_false h3) ?_
    refine f_op rfl rfl (s_mv (v := .sl p2.1.1) rfl) ?_
    refine f_op rfl rfl (s_lenS rfl Try.underlying51 rfl) ?_
    refine f_op rfl rfl (s_buildA (cs := [.int .i64 0, .int .i64 1, .int .i64 2, .int .i64 4, .int .i64 12, .int .i64 40, .int .i64 116]) Try.underlying68 ty68 ty3 rfl rfl) ?_
    refine f_op rfl rfl (s_mv (v := .int .i64 (w64 (1 + (w64 (Int.tmod (IntKind.wrap .u64 (a0)) 6))))) rfl) ?_
    refine o_ck fun g4 => ?_
    refine o_bind ?_; intro x5 hx5
    refine o_bind ?_; intro x6 hx6
    refine f_op rfl rfl (s_index Try.underlying68 Try.underlying3 ty3 rfl rfl g4 hx5) ?_
    refine o_know 37 rfl (asI_eq hx6) ?_
    refine f_op rfl rfl (s_neq rfl rfl) ?_
    refine f_op rfl rfl (s_pickF (v := .bool (decide ((p2.1.1.len : Int) ≠ x6))) rfl rfl) ?_
    refine f_nil ?_
    refine f_keep [0, 2, 3, 5, 9, 39] ?_
    exact s15_j0 happ (w64 (1 + (w64 (Int.tmod (IntKind.wrap .u64 (a0)) 6)))) a2 a3 H.n p2.1.1 (decide ((p2.1.1.len : Int) ≠ x6)) p2.2

/- 60 congou/congoulaw08.PairsCosts$1 -/
theorem ok60 : FnOk Try.prog 60 := ⟨⟨Try.f60, Try.func60, by kernel_rfl, rfl⟩⟩
theorem sim60 {a0 : Sl} {c0 : Nat} {H : Hp} {p : Bool × Hp} (h : r60 a0 c0 H = some p) : CallSim Try.prog 60 [.sl a0, .ptr c0 0] H (.bool p.1) p.2 := by
  refine callSim (fn := Try.f60) (ret := ret60) Try.func60 rfl Try.ntmps60 rfl ?_ h
  unfold r60
  refine f_seq ?_
  refine f_region ?_
  refine f_op rfl rfl (s_as (v := .bool false) rfl) ?_
  refine f_nil ?_
  refine f_seq ?_
  refine f_region ?_
  refine f_op rfl rfl (s_mv (v := .sl a0) rfl) ?_
  refine o_bind ?_; intro x1 hx1
  refine f_op rfl rfl (s_load Try.underlying22 rfl rfl (ldSl_eq hx1)) ?_
  refine o_bind ?_; intro p2 hp2
  refine f_op rfl rfl (s_callF rfl ok25 (sim25 hp2)) ?_
  refine f_op rfl rfl (s_as (v := .bool p2.1) rfl) ?_
  refine f_nil ?_
  exact f_ret (.tmp rfl (.nil)) rfl

/- 74 congou/pairs.First$1 -/
theorem ok74 : FnOk Try.prog 74 := ⟨⟨Try.f74, Try.func74, by kernel_rfl, rfl⟩⟩
theorem sim74 {a0 : Sl} {c0 : Nat} {H : Hp} {p : Bool × Hp} (h : r74 a0 c0 H = some p) : CallSim Try.prog 74 [.sl a0, .ptr c0 0] H (.bool p.1) p.2 := by
  refine callSim (fn := Try.f74) (ret := ret74) Try.func74 rfl Try.ntmps74 rfl ?_ h
  unfold r74
  refine f_seq ?_
  refine f_region ?_
  refine f_op rfl rfl (s_as (v := .bool false) rfl) ?_
  refine f_nil ?_
  refine f_seq ?_
  refine f_region ?_
  refine f_op rfl rfl (s_mv (v := .sl a0) rfl) ?_
  refine o_bind ?_; intro p1 hp1
  refine f_op rfl rfl (s_callF rfl ok36 (sim36 hp1)) ?_
  refine o_bind ?_; intro H2 hH2
  refine f_op rfl rfl (s_store (s := 1) ty22 rfl rfl rfl hH2) ?_
  refine f_nil ?_
  refine f_seq ?_
  refine f_region ?_
  refine f_op rfl rfl (s_as (v := .bool false) rfl) ?_
  refine f_nil ?_
  exact f_ret (.tmp rfl (.nil)) rfl

end Go.Lt.P8
