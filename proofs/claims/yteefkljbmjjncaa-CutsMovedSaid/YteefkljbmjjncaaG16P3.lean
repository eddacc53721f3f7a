/- PRINTED BY A PROGRAM OF OURS: what each function that 'CutsMoved' reaches computes on the abstract heap, and that the translated code does just that. Nothing is asked of the input. -/
import Derived.Test.YteefkljbmjjncaaG16P2
set_option linter.unusedVariables false
set_option linter.unusedSimpArgs false
set_option maxRecDepth 100000
set_option maxHeartbeats 4000000
namespace Go.Lt.P2
open Go Go.Lt Go.Proofs
/- 72 congou/cuts.chain -/
theorem ok72 : FnOk Try.prog 72 := ⟨⟨Try.f72, Try.func72, by kernel_rfl, rfl⟩⟩
theorem s72_j2 (kt0 : Sl → Sl → Int → Int → Hp → Option (Sl × Hp)) (hkt0 : ∀ (v1 : Sl) (v2 : Sl) (v3 : Int) (v4 : Int) (H : Hp), Fin Try.prog Try.f72 ret72 43 (todoAt (bodyOf Try.f72) [1, 1, 0, 1, 0, 0] []) [(3, .sl v1), (6, .sl v2), (7, .int .i64 v3), (8, .int .i64 v4)] H (kt0 v1 v2 v3 v4 H)) (kt1 : Sl → Nat → Sl → Int → Int → Hp → Option (Sl × Hp)) (hkt1 : ∀ (v1 : Sl) (v2 : Nat) (v3 : Sl) (v4 : Int) (v5 : Int) (H : Hp), Fin Try.prog Try.f72 ret72 43 (todoAt (bodyOf Try.f72) [1, 1, 0, 1, 0, 0, 1, 1, 0, 0, 1, 0, 0, 0] []) [(3, .sl v1), (5, .ptr v2 0), (6, .sl v3), (7, .int .i64 v4), (8, .int .i64 v5)] H (kt1 v1 v2 v3 v4 v5 H)) (v1 : Sl) (v2 : Nat) (v3 : Sl) (v4 : Int) (v5 : Int) (v6 : Bool) (H : Hp) : Fin Try.prog Try.f72 ret72 43 (todoAt (bodyOf Try.f72) [1, 1, 0, 1, 0, 0, 1, 1, 0, 0, 1, 0, 0, 0, 0, 1] []) [(3, .sl v1), (5, .ptr v2 0), (6, .sl v3), (7, .int .i64 v4), (8, .int .i64 v5), (31, .bool v6)] H (r72_j2 kt0 kt1 v1 v2 v3 v4 v5 v6 H) := by
  unfold r72_j2
  refine f_if (fun h1 => ?_) (fun h1 => ?_)
  · skip
    refine f_know 31 rfl (bool_T h1) ?_
    refine f_condT rfl ?_
    refine f_skip ?_
    refine f_block ?_
    refine f_region ?_
    refine f_op rfl rfl (s_mv (v := .sl v1) rfl) ?_
    refine f_op rfl rfl (s_mv (v := .sl v1) rfl) ?_
    refine f_op rfl rfl (s_lenS rfl Try.underlying37 rfl) ?_
    refine f_op rfl rfl (s_sub rfl rfl) ?_
    refine o_ck fun g2 => ?_
    refine f_op rfl rfl (s_slice Try.underlying37 ty43 rfl rfl rfl g2.1 g2.2) ?_
    refine f_op rfl rfl (s_as (v := .sl (v1.cut 2 (0 : Int).toNat (w64 ((v1.len : Int) - 1) : Int).toNat)) rfl) ?_
    refine f_nil ?_
    refine f_inBlock ?_
    refine f_inLoop ?_
    refine f_keep [3, 5, 6, 7, 8] ?_
    exact hkt1 (v1.cut 2 (0 : Int).toNat (w64 ((v1.len : Int) - 1) : Int).toNat) v2 v3 v4 v5 H
  · skip
    refine f_know 31 rfl (bool_F h1) ?_
    refine f_condF rfl ?_
    refine f_exit rfl ?_
    refine f_region ?_
    refine f_op rfl rfl (s_mv (v := .sl v1) rfl) ?_
    refine o_bind ?_; intro x3 hx3
    refine o_bind ?_; intro x4 hx4
    refine f_op rfl rfl (s_loads Try.underlying43 rfl ty43 rfl (lds_cons (ldI_eq hx3) (lds_cons (ldI_eq hx4) (lds_nil)))) ?_
    refine f_op rfl rfl (s_buildSlice (cs := [.int .i64 x3, .int .i64 x4]) Try.underlying37 ty43 (by decide) (by decide) rfl (by decide) rfl) ?_
    refine o_bind ?_; intro x5 hx5
    refine f_op rfl rfl (s_ap rfl rfl Try.underlying37 Try.underlying37 ty43 rfl rfl rfl rfl rfl rfl rfl hx5) ?_
    refine f_op rfl rfl (s_as (v := .sl x5.1) rfl) ?_
    refine f_nil ?_
    refine f_inBlock ?_
    refine f_region ?_
    refine f_op rfl rfl (s_add rfl rfl) ?_
    refine f_op rfl rfl (s_mv (v := .int .i64 (w64 (v5 + 1))) rfl) ?_
    refine f_nil ?_
    refine f_inLoop ?_
    refine f_keep [3, 6, 7, 8] ?_
    exact hkt0 x5.1 v3 v4 (w64 (v5 + 1)) x5.2

theorem s72_l1 (kt0 : Sl → Sl → Int → Int → Hp → Option (Sl × Hp)) (hkt0 : ∀ (v1 : Sl) (v2 : Sl) (v3 : Int) (v4 : Int) (H : Hp), Fin Try.prog Try.f72 ret72 43 (todoAt (bodyOf Try.f72) [1, 1, 0, 1, 0, 0] []) [(3, .sl v1), (6, .sl v2), (7, .int .i64 v3), (8, .int .i64 v4)] H (kt0 v1 v2 v3 v4 H)) : ∀ (k_ : Nat) (v1 : Sl) (v2 : Nat) (v3 : Sl) (v4 : Int) (v5 : Int) (H : Hp), Fin Try.prog Try.f72 ret72 43 (todoAt (bodyOf Try.f72) [1, 1, 0, 1, 0, 0, 1, 1, 0, 0, 1, 0, 0, 0] []) [(3, .sl v1), (5, .ptr v2 0), (6, .sl v3), (7, .int .i64 v4), (8, .int .i64 v5)] H (r72_l1 kt0 k_ v1 v2 v3 v4 v5 H) := by
  intro k_
  induction k_ with
  | zero => intro _ _ _ _ _ _; exact f_none
  | succ k_ ih =>
    intro v1 v2 v3 v4 v5 H
    rw [r72_l1]
    refine f_seq ?_
    refine f_seq ?_
    refine f_if (fun h1 => ?_) (fun h1 => ?_)
    · skip
      refine f_ck fun g2 => ?_
      refine f_bind ?_; intro x3 hx3
      refine f_bind ?_; intro x4 hx4
      refine f_ck fun g5 => ?_
      refine f_bind ?_; intro x6 hx6
      refine f_bind ?_; intro x7 hx7
      refine f_bind ?_; intro x8 hx8
      refine f_bind ?_; intro x9 hx9
      refine f_bind ?_; intro p10 hp10
      refine f_draw (Φ := fun _ => True) (lim := 1000000) [0, 0, 0, 0, 0, 0, 0, 0, 0, 1, 0, 0, 0, 0, 0, 1, 1, 0, 0, 0] (Trc.pure rfl rfl rfl (.inl fun _ => s_mv (v := .sl v1) rfl) (Trc.pure rfl rfl rfl (.inl fun _ => s_lenS rfl Try.underlying37 rfl) (Trc.pure rfl rfl rfl (.inl fun _ => s_gtr rfl rfl) (Trc.pure rfl rfl rfl (.inl fun _ => s_mv (v := .bool (decide (1 < (v1.len : Int)))) rfl) (Trc.know 15 rfl (dec_true h1) (Trc.pure rfl rfl rfl (.inl fun _ => s_mv (v := .sl v1) rfl) (Trc.pure rfl rfl rfl (.inl fun _ => s_mv (v := .sl v1) rfl) (Trc.pure rfl rfl rfl (.inl fun _ => s_lenS rfl Try.underlying37 rfl) (Trc.pure rfl rfl rfl (.inl fun _ => s_sub rfl rfl) (Trc.pure rfl rfl rfl (.inl fun _ => s_idx Try.underlying37 ty43 rfl rfl g2) (Trc.read rfl rfl rfl (s_loads Try.underlying43 rfl ty43 rfl (lds_cons (ldI_eq hx3) (lds_cons (ldI_eq hx4) (lds_nil)))) (Trc.pure rfl rfl rfl (.inl fun _ => s_mv (v := .sl v1) rfl) (Trc.pure rfl rfl rfl (.inl fun _ => s_mv (v := .sl v1) rfl) (Trc.pure rfl rfl rfl (.inl fun _ => s_lenS rfl Try.underlying37 rfl) (Trc.pure rfl rfl rfl (.inl fun _ => s_sub rfl rfl) (Trc.pure rfl rfl rfl (.inl fun _ => s_idx Try.underlying37 ty43 rfl rfl g5) (Trc.read rfl rfl rfl (s_loads Try.underlying43 rfl ty43 rfl (lds_cons (ldI_eq hx6) (lds_cons (ldI_eq hx7) (lds_nil)))) (Trc.read rfl rfl rfl (s_loads Try.underlying43 rfl ty43 rfl (lds_cons (ldI_eq hx8) (lds_cons (ldI_eq hx9) (lds_nil)))) (Trc.pure rfl rfl rfl (.inl fun _ => s_callO rfl ok102 (sim102 hp10) rfl rfl) (Trc.pure rfl rfl rfl (.inl fun _ => s_leq rfl rfl) (Trc.pure rfl rfl rfl (.inl fun _ => s_pickT (v := .bool (decide (p10.1 ≤ 0))) rfl rfl) (Trc.nil (fun _ => trivial))))))))))))))))))))))) rfl (by decide +kernel) mixed ?_
      refine f_keep [3, 5, 6, 7, 8, 31] ?_
      exact s72_j2 _ hkt0 _ (fun v1_ v2_ v3_ v4_ v5_ H_ => ih v1_ v2_ v3_ v4_ v5_ H_) v1 v2 v3 v4 v5 (decide (p10.1 ≤ 0)) H
    · skip
      refine f_draw (Φ := fun _ => True) (lim := 1000000) [0, 0, 0, 0, 0, 0, 0, 0, 0, 0, 0, 0, 0, 0, 0, 0, 0, 0, 0, 0] (Trc.pure rfl rfl rfl (.inl fun _ => s_mv (v := .sl v1) rfl) (Trc.pure rfl rfl rfl (.inl fun _ => s_lenS rfl Try.underlying37 rfl) (Trc.pure rfl rfl rfl (.inl fun _ => s_gtr rfl rfl) (Trc.pure rfl rfl rfl (.inl fun _ => s_mv (v := .bool (decide (1 < (v1.len : Int)))) rfl) (Trc.know 15 rfl (dec_false h1) (Trc.no rfl rfl rfl (Trc.no rfl rfl rfl (Trc.no rfl rfl rfl (Trc.no rfl rfl rfl (Trc.no rfl rfl rfl (Trc.no rfl rfl rfl (Trc.no rfl rfl rfl (Trc.no rfl rfl rfl (Trc.no rfl rfl rfl (Trc.no rfl rfl rfl (Trc.no rfl rfl rfl (Trc.no rfl rfl rfl (Trc.no rfl rfl rfl (Trc.no rfl rfl rfl (Trc.no rfl rfl rfl (Trc.pure rfl rfl rfl (.inl fun _ => s_pickF (v := .bool false) rfl rfl) (Trc.nil (fun _ => trivial))))))))))))))))))))))) rfl (by decide +kernel) mixed ?_
      refine f_keep [3, 5, 6, 7, 8, 31] ?_
      exact s72_j2 _ hkt0 _ (fun v1_ v2_ v3_ v4_ v5_ H_ => ih v1_ v2_ v3_ v4_ v5_ H_) v1 v2 v3 v4 v5 false H

theorem s72_l0 : ∀ (k_ : Nat) (v1 : Sl) (v2 : Sl) (v3 : Int) (v4 : Int) (H : Hp), Fin Try.prog Try.f72 ret72 43 (todoAt (bodyOf Try.f72) [1, 1, 0, 1, 0, 0] []) [(3, .sl v1), (6, .sl v2), (7, .int .i64 v3), (8, .int .i64 v4)] H (r72_l0 k_ v1 v2 v3 v4 H) := by
  intro k_
  induction k_ with
  | zero => intro _ _ _ _ _; exact f_none
  | succ k_ ih =>
    intro v1 v2 v3 v4 H
    rw [r72_l0]
    refine f_seq ?_
    refine f_region ?_
    refine f_op rfl rfl (s_lss rfl rfl) ?_
    refine f_nil ?_
    refine f_seq ?_
    refine f_if (fun h1 => ?_) (fun h1 => ?_)
    · skip
      refine f_know 9 rfl (dec_true h1) ?_
      refine f_condT rfl ?_
      refine f_skip ?_
      refine f_seq ?_
      refine f_block ?_
      refine f_seq ?_
      refine f_region ?_
      refine o_ck fun g2 => ?_
      refine f_op rfl rfl (s_idx Try.underlying37 ty43 rfl rfl g2) ?_
      refine o_bind ?_; intro x3 hx3
      refine o_bind ?_; intro x4 hx4
      refine f_op rfl rfl (s_loads Try.underlying43 rfl ty43 rfl (lds_cons (ldI_eq hx3) (lds_cons (ldI_eq hx4) (lds_nil)))) ?_
      refine f_op rfl rfl (s_alloc (zs := [.int .i64 0, .int .i64 0]) ty43 rfl rfl) ?_
      refine o_bind ?_; intro H5 hH5
      refine f_op rfl rfl (s_stores ty43 rfl rfl rfl rfl hH5 (Nat.le_of_eq (sts_mono hH5).symm)) ?_
      refine f_nil ?_
      refine f_seq ?_
      refine f_block ?_
      refine f_loop ?_
      refine f_keep [3, 5, 6, 7, 8] ?_
      exact s72_l1 _ (fun v1_ v2_ v3_ v4_ H_ => ih v1_ v2_ v3_ v4_ H_) FUEL v1 H.n v2 v3 v4 H5
    · skip
      refine f_know 9 rfl (dec_false h1) ?_
      refine f_condF rfl ?_
      refine f_exit rfl ?_
      refine f_seq ?_
      refine f_region ?_
      refine f_op rfl rfl (s_mv (v := .sl v1) rfl) ?_
      refine f_op rfl rfl (s_as (v := .sl v1) rfl) ?_
      refine f_nil ?_
      exact f_ret (.tmp rfl (.nil)) rfl

theorem sim72 {a0 : Sl} {H : Hp} {p : Sl × Hp} (h : r72 a0 H = some p) : CallSim Try.prog 72 [.sl a0] H (.sl p.1) p.2 := by
  refine callSim (fn := Try.f72) (ret := ret72) Try.func72 rfl Try.ntmps72 rfl ?_ h
  unfold r72
  refine f_seq ?_
  refine f_region ?_
  refine f_op rfl rfl (s_as (v := .sl ⟨true, 0, 0, 0, 0, 0⟩) rfl) ?_
  refine f_nil ?_
  refine f_seq ?_
  refine f_region ?_
  refine f_op rfl rfl (s_as (v := .sl ⟨true, 0, 0, 0, 0, 0⟩) rfl) ?_
  refine f_nil ?_
  refine f_seq ?_
  refine f_seq ?_
  refine f_region ?_
  refine f_op rfl rfl (s_mv (v := .sl a0) rfl) ?_
  refine f_op rfl rfl (s_lenS rfl Try.underlying37 rfl) ?_
  refine f_op rfl rfl (s_mv (v := .int .i64 0) rfl) ?_
  refine f_nil ?_
  refine f_block ?_
  refine f_loop ?_
  refine f_keep [3, 6, 7, 8] ?_
  exact s72_l0 FUEL ⟨true, 0, 0, 0, 0, 0⟩ a0 (a0.len : Int) 0 H

/- 73 slices.Reverse[[][2]int,[2]int] -/
theorem ok73 : FnOk Try.prog 73 := ⟨⟨Try.f73, Try.func73, by kernel_rfl, rfl⟩⟩
theorem s73_l0 : ∀ (k_ : Nat) (v1 : Sl) (v2 : Int) (v3 : Int) (H : Hp), Fin Try.prog Try.f73 ret73 28 (todoAt (bodyOf Try.f73) [1, 0, 0] []) [(0, .sl v1), (2, .int .i64 v2), (3, .int .i64 v3)] H (r73_l0 k_ v1 v2 v3 H) := by
  intro k_
  induction k_ with
  | zero => intro _ _ _ _; exact f_none
  | succ k_ ih =>
    intro v1 v2 v3 H
    rw [r73_l0]
    refine f_seq ?_
    refine f_seq ?_
    refine f_region ?_
    refine f_op rfl rfl (s_mv (v := .int .i64 v2) rfl) ?_
    refine f_op rfl rfl (s_mv (v := .int .i64 v3) rfl) ?_
    refine f_op rfl rfl (s_lss rfl rfl) ?_
    refine f_nil ?_
    refine f_if (fun h1 => ?_) (fun h1 => ?_)
    · skip
      refine f_know 9 rfl (dec_true h1) ?_
      refine f_condT rfl ?_
      refine f_skip ?_
      refine f_seq ?_
      refine f_block ?_
      refine f_ck fun g2 => ?_
      refine f_bind ?_; intro x3 hx3
      refine f_bind ?_; intro x4 hx4
      refine f_ck fun g5 => ?_
      refine f_bind ?_; intro x6 hx6
      refine f_bind ?_; intro x7 hx7
      refine f_ck fun g8 => ?_
      refine f_bind ?_; intro H9 hH9
      refine f_ck fun g10 => ?_
      refine f_bind ?_; intro H11 hH11
      refine f_draw (Φ := fun _ => True) (lim := 1000000) [0, 0, 0, 0, 0, 0, 0, 1, 0, 0, 0, 1, 0, 2, 0, 2] (Trc.pure rfl rfl rfl (.inl fun _ => s_mv (v := .sl v1) rfl) (Trc.pure rfl rfl rfl (.inl fun _ => s_mv (v := .int .i64 v2) rfl) (Trc.pure rfl rfl rfl (.inl fun _ => s_mv (v := .sl v1) rfl) (Trc.pure rfl rfl rfl (.inl fun _ => s_mv (v := .int .i64 v3) rfl) (Trc.pure rfl rfl rfl (.inl fun _ => s_mv (v := .sl v1) rfl) (Trc.pure rfl rfl rfl (.inl fun _ => s_mv (v := .int .i64 v3) rfl) (Trc.pure rfl rfl rfl (.inl fun _ => s_idx Try.underlying37 ty43 rfl rfl g2) (Trc.read rfl rfl rfl (s_loads Try.underlying43 rfl ty43 rfl (lds_cons (ldI_eq hx3) (lds_cons (ldI_eq hx4) (lds_nil)))) (Trc.pure rfl rfl rfl (.inl fun _ => s_mv (v := .sl v1) rfl) (Trc.pure rfl rfl rfl (.inl fun _ => s_mv (v := .int .i64 v2) rfl) (Trc.pure rfl rfl rfl (.inl fun _ => s_idx Try.underlying37 ty43 rfl rfl g5) (Trc.read rfl rfl rfl (s_loads Try.underlying43 rfl ty43 rfl (lds_cons (ldI_eq hx6) (lds_cons (ldI_eq hx7) (lds_nil)))) (Trc.pure rfl rfl rfl (.inl fun _ => s_idx Try.underlying37 ty43 rfl rfl g8) (Trc.eff rfl rfl rfl (fun _ => trivial) (s_stores ty43 rfl rfl rfl rfl hH9 (Nat.le_of_eq (sts_mono hH9).symm)) (Trc.pure rfl rfl rfl (.inl fun _ => s_idx Try.underlying37 ty43 rfl rfl g10) (Trc.eff rfl rfl rfl (fun _ => trivial) (s_stores ty43 rfl rfl rfl rfl hH11 (Nat.le_of_eq (sts_mono hH11).symm)) (Trc.nil (fun _ => trivial)))))))))))))))))) rfl (by decide +kernel) mixed ?_
      refine f_inBlock ?_
      refine f_region ?_
      refine f_op rfl rfl (s_mv (v := .int .i64 v2) rfl) ?_
      refine f_op rfl rfl (s_add rfl rfl) ?_
      refine f_op rfl rfl (s_mv (v := .int .i64 v3) rfl) ?_
      refine f_op rfl rfl (s_sub rfl rfl) ?_
      refine f_op rfl rfl (s_as (v := .int .i64 (w64 (v2 + 1))) rfl) ?_
      refine f_op rfl rfl (s_as (v := .int .i64 (w64 (v3 - 1))) rfl) ?_
      refine f_nil ?_
      refine f_inLoop ?_
      refine f_keep [0, 2, 3] ?_
      exact ih v1 (w64 (v2 + 1)) (w64 (v3 - 1)) H11
    · skip
      refine f_know 9 rfl (dec_false h1) ?_
      refine f_condF rfl ?_
      refine f_exit rfl ?_
      exact f_end (.nil) rfl

theorem sim73 {a0 : Sl} {H : Hp} {p : Unit × Hp} (h : r73 a0 H = some p) : CallSim Try.prog 73 [.sl a0] H (.tup []) p.2 := by
  refine callSim (fn := Try.f73) (ret := ret73) Try.func73 rfl Try.ntmps73 rfl ?_ h
  unfold r73
  refine f_seq ?_
  refine f_region ?_
  refine f_op rfl rfl (s_mv (v := .sl a0) rfl) ?_
  refine f_op rfl rfl (s_lenS rfl Try.underlying37 rfl) ?_
  refine f_op rfl rfl (s_sub rfl rfl) ?_
  refine f_op rfl rfl (s_as (v := .int .i64 0) rfl) ?_
  refine f_op rfl rfl (s_as (v := .int .i64 (w64 ((a0.len : Int) - 1))) rfl) ?_
  refine f_nil ?_
  refine f_block ?_
  refine f_loop ?_
  refine f_keep [0, 2, 3] ?_
  exact s73_l0 FUEL a0 0 (w64 ((a0.len : Int) - 1)) H

/- 23 congou/cuts.Hull -/
theorem ok23 : FnOk Try.prog 23 := ⟨⟨Try.f23, Try.func23, by kernel_rfl, rfl⟩⟩
theorem sim23 {app : App} (happ : AppSim Try.prog app) {a0 : Sl} {H : Hp} {p : (Sl × Int) × Hp} (h : r23 app a0 H = some p) : CallSim Try.prog 23 [.sl a0] H (.tup [.sl p.1.1, .int .i64 p.1.2]) p.2 := by
  refine callSim (fn := Try.f23) (ret := ret23) Try.func23 rfl Try.ntmps23 rfl ?_ h
  unfold r23
  refine f_seq ?_
  refine f_region ?_
  refine f_op rfl rfl (s_as (v := .sl ⟨true, 0, 0, 0, 0, 0⟩) rfl) ?_
  refine f_op rfl rfl (s_as (v := .int .i64 0) rfl) ?_
  refine f_nil ?_
  refine f_seq ?_
  refine f_seq ?_
  refine f_region ?_
  refine f_op rfl rfl (s_mv (v := .sl a0) rfl) ?_
  refine o_bind ?_; intro p1 hp1
  refine f_op rfl rfl (s_callF rfl ok63 (sim63 happ hp1)) ?_
  refine f_op rfl rfl (s_not rfl) ?_
  refine f_nil ?_
  refine f_if (fun h2 => ?_) (fun h2 => ?_)
  · skip
    refine f_know 9 rfl (bool_notT h2) ?_
    refine f_condF rfl ?_
    refine f_skip ?_
    refine f_seq ?_
    refine f_region ?_
    refine f_op rfl rfl (s_mv (v := .sl a0) rfl) ?_
    refine o_bind ?_; intro p3 hp3
    refine f_op rfl rfl (s_callF rfl ok71 (sim71 happ hp3)) ?_
    refine f_op rfl rfl (s_as (v := .sl p3.1) rfl) ?_
    refine f_nil ?_
    refine f_seq ?_
    refine f_seq ?_
    refine f_region ?_
    refine f_op rfl rfl (s_mv (v := .sl p3.1) rfl) ?_
    refine f_op rfl rfl (s_lenS rfl Try.underlying37 rfl) ?_
    refine f_nil ?_
    refine f_block ?_
    refine f_seq ?_
    refine f_region ?_
    refine f_op rfl rfl (s_eql rfl rfl) ?_
    refine f_op rfl rfl (s_as (v := .bool (decide ((p3.1.len : Int) = 0))) rfl) ?_
    refine f_nil ?_
    refine f_if (fun h4 => ?_) (fun h4 => ?_)
    · skip
      refine f_know 14 rfl (dec_true h4) ?_
      refine f_condT rfl ?_
      refine f_seq ?_
      refine f_region ?_
      refine f_op rfl rfl (s_as (v := .sl ⟨true, 0, 0, 0, 0, 0⟩) rfl) ?_
      refine f_op rfl rfl (s_as (v := .int .i64 4) rfl) ?_
      refine f_nil ?_
      exact f_ret (.tmp rfl (.tmp rfl (.nil))) rfl
    · skip
      refine f_know 14 rfl (dec_false h4) ?_
      refine f_condF rfl ?_
      refine f_seq ?_
      refine f_region ?_
      refine f_op rfl rfl (s_eql rfl rfl) ?_
      refine f_op rfl rfl (s_as (v := .bool (decide ((p3.1.len : Int) = 1))) rfl) ?_
      refine f_nil ?_
      refine f_if (fun h5 => ?_) (fun h5 => ?_)
      · skip
        refine f_know 16 rfl (dec_true h5) ?_
        refine f_condT rfl ?_
        refine f_seq ?_
        refine f_region ?_
        refine f_op rfl rfl (s_mv (v := .sl p3.1) rfl) ?_
        refine f_op rfl rfl (s_as (v := .sl p3.1) rfl) ?_
        refine f_op rfl rfl (s_as (v := .int .i64 0) rfl) ?_
        refine f_nil ?_
        exact f_ret (.tmp rfl (.tmp rfl (.nil))) rfl
      · skip
        refine f_know 16 rfl (dec_false h5) ?_
        refine f_condF rfl ?_
        refine f_skip ?_
        refine f_inBlock ?_
        refine f_seq ?_
        refine f_region ?_
        refine f_op rfl rfl (s_mv (v := .sl p3.1) rfl) ?_
        refine o_bind ?_; intro p6 hp6
        refine f_op rfl rfl (s_callF rfl ok72 (sim72 hp6)) ?_
        refine f_op rfl rfl (s_as (v := .sl p6.1) rfl) ?_
        refine f_nil ?_
        refine f_seq ?_
        refine f_region ?_
        refine f_op rfl rfl (s_mv (v := .sl p3.1) rfl) ?_
        refine o_bind ?_; intro p7 hp7
        refine f_op rfl rfl (s_callF rfl ok73 (sim73 hp7)) ?_
        refine f_nil ?_
        refine f_seq ?_
        refine f_region ?_
        refine f_op rfl rfl (s_mv (v := .sl p3.1) rfl) ?_
        refine o_bind ?_; intro p8 hp8
        refine f_op rfl rfl (s_callF rfl ok72 (sim72 hp8)) ?_
        refine f_op rfl rfl (s_as (v := .sl p8.1) rfl) ?_
        refine f_nil ?_
        refine f_seq ?_
        refine f_ck fun g9 => ?_
        refine f_ck fun g10 => ?_
        refine f_bind ?_; intro x11 hx11
        refine f_ck fun g12 => ?_
        refine f_bind ?_; intro x13 hx13
        refine f_draw (Φ := fun _ => True) (lim := 1000000) [0, 0, 0, 0, 0, 0, 0, 0, 0, 0, 0, 0, 0, 2, 0, 0] (Trc.pure rfl rfl rfl (.inl fun _ => s_mv (v := .sl p6.1) rfl) (Trc.pure rfl rfl rfl (.inl fun _ => s_mv (v := .sl p6.1) rfl) (Trc.pure rfl rfl rfl (.inl fun _ => s_lenS rfl Try.underlying37 rfl) (Trc.pure rfl rfl rfl (.inl fun _ => s_sub rfl rfl) (Trc.pure rfl rfl rfl (.inl fun _ => s_mv (v := .sl p6.1) rfl) (Trc.pure rfl rfl rfl (.inl fun _ => s_lenS rfl Try.underlying37 rfl) (Trc.pure rfl rfl rfl (.inl fun _ => s_sub rfl rfl) (Trc.pure rfl rfl rfl (.inl fun _ => s_slice3 Try.underlying37 ty43 rfl rfl rfl rfl g9) (Trc.pure rfl rfl rfl (.inl fun _ => s_mv (v := .sl p8.1) rfl) (Trc.pure rfl rfl rfl (.inl fun _ => s_mv (v := .sl p8.1) rfl) (Trc.pure rfl rfl rfl (.inl fun _ => s_lenS rfl Try.underlying37 rfl) (Trc.pure rfl rfl rfl (.inl fun _ => s_sub rfl rfl) (Trc.pure rfl rfl rfl (.inl fun _ => s_slice Try.underlying37 ty43 rfl rfl rfl g10.1 g10.2) (Trc.eff rfl rfl rfl (fun _ => trivial) (s_append rfl rfl Try.underlying37 Try.underlying37 ty43 (by decide) rfl (by decide) rfl rfl hx11 g12 hx13) (Trc.pure rfl rfl rfl (.inl fun _ => s_as (v := .sl x13.1) rfl) (Trc.pure rfl rfl rfl (.inl fun _ => s_as (v := .int .i64 0) rfl) (Trc.nil (fun _ => trivial)))))))))))))))))) rfl (by decide +kernel) mixed ?_
        exact f_ret (.tmp rfl (.tmp rfl (.nil))) rfl
  · skip
    refine f_know 9 rfl (bool_notF h2) ?_
    refine f_condT rfl ?_
    refine f_seq ?_
    refine f_region ?_
    refine f_op rfl rfl (s_as (v := .sl ⟨true, 0, 0, 0, 0, 0⟩) rfl) ?_
    refine f_op rfl rfl (s_as (v := .int .i64 2) rfl) ?_
    refine f_nil ?_
    exact f_ret (.tmp rfl (.tmp rfl (.nil))) rfl

/- 49 slices.Clone[[]congou/cuts.Side,congou/cuts.Side] -/
theorem ok49 : FnOk Try.prog 49 := ⟨⟨Try.f49, Try.func49, by kernel_rfl, rfl⟩⟩
theorem sim49 {a0 : Sl} {H : Hp} {p : Sl × Hp} (h : r49 a0 H = some p) : CallSim Try.prog 49 [.sl a0] H (.sl p.1) p.2 := by
  refine callSim (fn := Try.f49) (ret := ret49) Try.func49 rfl Try.ntmps49 rfl ?_ h
  unfold r49
  refine f_seq ?_
  refine f_region ?_
  refine f_op rfl rfl (s_as (v := .sl ⟨true, 0, 0, 0, 0, 0⟩) rfl) ?_
  refine f_nil ?_
  refine f_seq ?_
  refine f_seq ?_
  refine f_region ?_
  refine f_op rfl rfl (s_mv (v := .sl a0) rfl) ?_
  refine f_op rfl rfl (s_eqNil Try.underlying30 rfl rfl) ?_
  refine f_nil ?_
  refine f_if (fun h1 => ?_) (fun h1 => ?_)
  · skip
    refine f_know 4 rfl (bool_T h1) ?_
    refine f_condT rfl ?_
    refine f_seq ?_
    refine f_region ?_
    refine f_op rfl rfl (s_as (v := .sl ⟨true, 0, 0, 0, 0, 0⟩) rfl) ?_
    refine f_nil ?_
    exact f_ret (.tmp rfl (.nil)) rfl
  · skip
    refine f_know 4 rfl (bool_F h1) ?_
    refine f_condF rfl ?_
    refine f_skip ?_
    refine f_seq ?_
    refine f_region ?_
    refine f_op rfl rfl (s_buildSlice0 Try.underlying30 ty47) ?_
    refine f_op rfl rfl (s_mv (v := .sl a0) rfl) ?_
    refine o_bind ?_; intro x2 hx2
    refine o_ck fun g3 => ?_
    refine o_bind ?_; intro x4 hx4
    refine f_op rfl rfl (s_append rfl rfl Try.underlying30 Try.underlying30 ty47 (by decide) rfl (by decide) rfl rfl hx2 g3 hx4) ?_
    refine f_op rfl rfl (s_as (v := .sl x4.1) rfl) ?_
    refine f_nil ?_
    exact f_ret (.tmp rfl (.nil)) rfl

/- 33 congou/cuts.Move -/
theorem ok33 : FnOk Try.prog 33 := ⟨⟨Try.f33, Try.func33, by kernel_rfl, rfl⟩⟩
theorem s33_l0 {app : App} (happ : AppSim Try.prog app) : ∀ (k_ : Nat) (v1 : Int) (v2 : Int) (v3 : Sl) (v4 : Sl) (v5 : Int) (v6 : Int) (H : Hp), Fin Try.prog Try.f33 ret33 52 (todoAt (bodyOf Try.f33) [1, 1, 1, 0, 1, 0, 0] []) [(1, .int .i64 v1), (2, .int .i64 v2), (8, .sl v3), (23, .sl v4), (24, .int .i64 v5), (25, .int .i64 v6)] H (r33_l0 app k_ v1 v2 v3 v4 v5 v6 H) := by
  intro k_
  induction k_ with
  | zero => intro _ _ _ _ _ _ _; exact f_none
  | succ k_ ih =>
    intro v1 v2 v3 v4 v5 v6 H
    rw [r33_l0]
    refine f_seq ?_
    refine f_region ?_
    refine f_op rfl rfl (s_lss rfl rfl) ?_
    refine f_nil ?_
    refine f_seq ?_
    refine f_if (fun h1 => ?_) (fun h1 => ?_)
    · skip
      refine f_know 26 rfl (dec_true h1) ?_
      refine f_condT rfl ?_
      refine f_skip ?_
      refine f_seq ?_
      refine f_block ?_
      refine f_seq ?_
      refine f_region ?_
      refine f_op rfl rfl (s_mv (v := .int .i64 v6) rfl) ?_
      refine o_ck fun g2 => ?_
      refine f_op rfl rfl (s_idx Try.underlying30 ty47 rfl rfl g2) ?_
      refine o_bind ?_; intro x3 hx3
      refine o_bind ?_; intro x4 hx4
      refine o_bind ?_; intro x5 hx5
      refine f_op rfl rfl (s_loads Try.underlying47 rfl ty47 rfl (lds_cons (ldI_eq hx3) (lds_cons (ldI_eq hx4) (lds_cons (ldI_eq hx5) (lds_nil))))) ?_
      refine f_op rfl rfl (s_alloc (zs := [.int .i64 0, .int .i64 0, .int .i64 0]) ty47 rfl rfl) ?_
      refine f_op rfl rfl (s_as (v := .int .i64 v6) rfl) ?_
      refine o_bind ?_; intro H6 hH6
      refine f_op rfl rfl (s_stores ty47 rfl rfl rfl rfl hH6 (Nat.le_of_eq (sts_mono hH6).symm)) ?_
      refine f_nil ?_
      refine f_ck fun g7 => ?_
      refine f_bind ?_; intro x8 hx8
      refine f_bind ?_; intro x9 hx9
      refine f_bind ?_; intro x10 hx10
      refine f_ck fun g11 => ?_
      refine f_bind ?_; intro H12 hH12
      refine f_draw (Φ := fun _ => True) (lim := 1000000) [0, 0, 0, 0, 1, 0, 1, 0, 0, 0, 1, 0, 0, 0, 0, 0, 0, 2] (Trc.pure rfl rfl rfl (.inl fun _ => s_mv (v := .sl v3) rfl) (Trc.pure rfl rfl rfl (.inl fun _ => s_mv (v := .int .i64 v6) rfl) (Trc.pure rfl rfl rfl (.inl fun _ => s_idx Try.underlying30 ty47 rfl rfl g7) (Trc.pure rfl rfl rfl (.inl fun _ => s_fieldAddr Try.underlying47 rfl ty3 rfl) (Trc.read rfl rfl rfl (s_load Try.underlying3 rfl rfl (ldI_eq hx8)) (Trc.pure rfl rfl rfl (.inl fun _ => s_fieldAddr Try.underlying47 rfl ty3 rfl) (Trc.read rfl rfl rfl (s_load Try.underlying3 rfl rfl (ldI_eq hx9)) (Trc.pure rfl rfl rfl (.inl fun _ => s_mv (v := .int .i64 v1) rfl) (Trc.pure rfl rfl rfl (.inl fun _ => s_mul rfl rfl) (Trc.pure rfl rfl rfl (.inl fun _ => s_fieldAddr Try.underlying47 rfl ty3 rfl) (Trc.read rfl rfl rfl (s_load Try.underlying3 rfl rfl (ldI_eq hx10)) (Trc.pure rfl rfl rfl (.inl fun _ => s_mv (v := .int .i64 v2) rfl) (Trc.pure rfl rfl rfl (.inl fun _ => s_mul rfl rfl) (Trc.pure rfl rfl rfl (.inl fun _ => s_add rfl rfl) (Trc.pure rfl rfl rfl (.inl fun _ => s_add rfl rfl) (Trc.pure rfl rfl rfl (.inl fun _ => s_idx Try.underlying30 ty47 rfl rfl g11) (Trc.pure rfl rfl rfl (.inl fun _ => s_fieldAddr Try.underlying47 rfl ty3 rfl) (Trc.eff rfl rfl rfl (fun _ => trivial) (s_store (s := 1) ty3 rfl rfl rfl hH12) (Trc.nil (fun _ => trivial)))))))))))))))))))) rfl (by decide +kernel) mixed ?_
      refine f_inBlock ?_
      refine f_region ?_
      refine f_op rfl rfl (s_add rfl rfl) ?_
      refine f_op rfl rfl (s_mv (v := .int .i64 (w64 (v6 + 1))) rfl) ?_
      refine f_nil ?_
      refine f_inLoop ?_
      refine f_keep [1, 2, 8, 23, 24, 25] ?_
      exact ih v1 v2 v3 v4 v5 (w64 (v6 + 1)) H12
    · skip
      refine f_know 26 rfl (dec_false h1) ?_
      refine f_condF rfl ?_
      refine f_exit rfl ?_
      refine f_seq ?_
      refine f_seq ?_
      refine f_region ?_
      refine f_op rfl rfl (s_mv (v := .sl v3) rfl) ?_
      refine o_bind ?_; intro p13 hp13
      refine f_op rfl rfl (s_callF rfl ok63 (sim63 happ hp13)) ?_
      refine f_op rfl rfl (s_not rfl) ?_
      refine f_nil ?_
      refine f_if (fun h14 => ?_) (fun h14 => ?_)
      · skip
        refine f_know 50 rfl (bool_notT h14) ?_
        refine f_condF rfl ?_
        refine f_skip ?_
        refine f_seq ?_
        refine f_region ?_
        refine f_op rfl rfl (s_mv (v := .sl v3) rfl) ?_
        refine f_op rfl rfl (s_as (v := .sl v3) rfl) ?_
        refine f_op rfl rfl (s_as (v := .int .i64 0) rfl) ?_
        refine f_nil ?_
        exact f_ret (.tmp rfl (.tmp rfl (.nil))) rfl
      · skip
        refine f_know 50 rfl (bool_notF h14) ?_
        refine f_condT rfl ?_
        refine f_seq ?_
        refine f_region ?_
        refine f_op rfl rfl (s_as (v := .sl ⟨true, 0, 0, 0, 0, 0⟩) rfl) ?_
        refine f_op rfl rfl (s_as (v := .int .i64 4) rfl) ?_
        refine f_nil ?_
        exact f_ret (.tmp rfl (.tmp rfl (.nil))) rfl

theorem s33_j1 {app : App} (happ : AppSim Try.prog app) (v1 : Sl) (v2 : Int) (v3 : Int) (v4 : Bool) (H : Hp) : Fin Try.prog Try.f33 ret33 52 (todoAt (bodyOf Try.f33) [1, 0, 1] []) [(0, .sl v1), (1, .int .i64 v2), (2, .int .i64 v3), (20, .bool v4)] H (r33_j1 app v1 v2 v3 v4 H) := by
  unfold r33_j1
  refine f_if (fun h1 => ?_) (fun h1 => ?_)
  · skip
    refine f_know 20 rfl (bool_T h1) ?_
    refine f_condT rfl ?_
    refine f_seq ?_
    refine f_region ?_
    refine f_op rfl rfl (s_as (v := .sl ⟨true, 0, 0, 0, 0, 0⟩) rfl) ?_
    refine f_op rfl rfl (s_as (v := .int .i64 2) rfl) ?_
    refine f_nil ?_
    exact f_ret (.tmp rfl (.tmp rfl (.nil))) rfl
  · skip
    refine f_know 20 rfl (bool_F h1) ?_
    refine f_condF rfl ?_
    refine f_skip ?_
    refine f_seq ?_
    refine f_region ?_
    refine f_op rfl rfl (s_mv (v := .sl v1) rfl) ?_
    refine o_bind ?_; intro p2 hp2
    refine f_op rfl rfl (s_callF rfl ok49 (sim49 hp2)) ?_
    refine f_op rfl rfl (s_as (v := .sl p2.1) rfl) ?_
    refine f_nil ?_
    refine f_seq ?_
    refine f_seq ?_
    refine f_region ?_
    refine f_op rfl rfl (s_mv (v := .sl p2.1) rfl) ?_
    refine f_op rfl rfl (s_lenS rfl Try.underlying30 rfl) ?_
    refine f_op rfl rfl (s_mv (v := .int .i64 0) rfl) ?_
    refine f_nil ?_
    refine f_block ?_
    refine f_loop ?_
    refine f_keep [1, 2, 8, 23, 24, 25] ?_
    exact s33_l0 happ FUEL v2 v3 p2.1 p2.1 (p2.1.len : Int) 0 p2.2

theorem sim33 {app : App} (happ : AppSim Try.prog app) {a0 : Sl} {a1 : Int} {a2 : Int} {H : Hp} {p : (Sl × Int) × Hp} (h : r33 app a0 a1 a2 H = some p) : CallSim Try.prog 33 [.sl a0, .int .i64 a1, .int .i64 a2] H (.tup [.sl p.1.1, .int .i64 p.1.2]) p.2 := by
  refine callSim (fn := Try.f33) (ret := ret33) Try.func33 rfl Try.ntmps33 rfl ?_ h
  unfold r33
  refine f_seq ?_
  refine f_region ?_
  refine f_op rfl rfl (s_as (v := .sl ⟨true, 0, 0, 0, 0, 0⟩) rfl) ?_
  refine f_op rfl rfl (s_as (v := .int .i64 0) rfl) ?_
  refine f_nil ?_
  refine f_seq ?_
  refine f_seq ?_
  refine f_region ?_
  refine f_op rfl rfl (s_mv (v := .sl a0) rfl) ?_
  refine o_bind ?_; intro p1 hp1
  refine f_op rfl rfl (s_callF rfl ok63 (sim63 happ hp1)) ?_
  refine f_op rfl rfl (s_not rfl) ?_
  refine f_op rfl rfl (s_mv (v := .bool (!p1.1)) rfl) ?_
  refine o_if (fun h2 => ?_) (fun h2 => ?_)
  · skip
    refine o_know 14 rfl (bool_notT h2) ?_
    refine f_op rfl rfl (s_mv (v := .int .i64 a1) rfl) ?_
    refine f_op rfl rfl (s_mv (v := .int .i64 a2) rfl) ?_
    refine f_op rfl rfl (s_buildSlice (cs := [.int .i64 a1, .int .i64 a2]) Try.underlying76 ty3 (by decide) (by decide) rfl (by decide) rfl) ?_
    refine o_bind ?_; intro p3 hp3
    refine f_op rfl rfl (s_callF rfl ok79 (sim79 happ hp3)) ?_
    refine f_op rfl rfl (s_not rfl) ?_
    refine f_op rfl rfl (s_pickF (v := .bool (!p3.1)) rfl rfl) ?_
    refine f_nil ?_
    refine f_keep [0, 1, 2, 20] ?_
    exact s33_j1 happ a0 a1 a2 (!p3.1) p3.2
  · skip
    refine o_know 14 rfl (bool_notF h2) ?_
    refine f_no rfl rfl ?_
    refine f_no rfl rfl ?_
    refine f_no rfl rfl ?_
    refine f_no rfl rfl ?_
    refine f_no rfl rfl ?_
    refine f_op rfl rfl (s_pickT (v := .bool true) rfl rfl) ?_
    refine f_nil ?_
    refine f_keep [0, 1, 2, 20] ?_
    exact s33_j1 happ a0 a1 a2 true p1.2

/- 36 congou/congoulaw02.own -/
theorem ok36 : FnOk Try.prog 36 := ⟨⟨Try.f36, Try.func36, by kernel_rfl, rfl⟩⟩
theorem s36_l0 : ∀ (k_ : Nat) (v1 : Sl) (v2 : Sl) (v3 : Int) (v4 : Int) (H : Hp), Fin Try.prog Try.f36 ret36 24 (todoAt (bodyOf Try.f36) [1, 1, 0, 1, 0, 0] []) [(3, .sl v1), (6, .sl v2), (7, .int .i64 v3), (8, .int .i64 v4)] H (r36_l0 k_ v1 v2 v3 v4 H) := by
  intro k_
  induction k_ with
  | zero => intro _ _ _ _ _; exact f_none
  | succ k_ ih =>
    intro v1 v2 v3 v4 H
    rw [r36_l0]
    refine f_seq ?_
    refine f_region ?_
    refine f_op rfl rfl (s_lss rfl rfl) ?_
    refine f_nil ?_
    refine f_seq ?_
    refine f_if (fun h1 => ?_) (fun h1 => ?_)
    · skip
      refine f_know 9 rfl (dec_true h1) ?_
      refine f_condT rfl ?_
      refine f_skip ?_
      refine f_seq ?_
      refine f_block ?_
      refine f_seq ?_
      refine f_region ?_
      refine o_ck fun g2 => ?_
      refine f_op rfl rfl (s_idx Try.underlying30 ty47 rfl rfl g2) ?_
      refine o_bind ?_; intro x3 hx3
      refine o_bind ?_; intro x4 hx4
      refine o_bind ?_; intro x5 hx5
      refine f_op rfl rfl (s_loads Try.underlying47 rfl ty47 rfl (lds_cons (ldI_eq hx3) (lds_cons (ldI_eq hx4) (lds_cons (ldI_eq hx5) (lds_nil))))) ?_
      refine f_op rfl rfl (s_alloc (zs := [.int .i64 0, .int .i64 0, .int .i64 0]) ty47 rfl rfl) ?_
      refine o_bind ?_; intro H6 hH6
      refine f_op rfl rfl (s_stores ty47 rfl rfl rfl rfl hH6 (Nat.le_of_eq (sts_mono hH6).symm)) ?_
      refine f_nil ?_
      refine f_region ?_
      refine f_op rfl rfl (s_mv (v := .sl v1) rfl) ?_
      refine f_op rfl rfl (s_fieldAddr Try.underlying47 rfl ty3 rfl) ?_
      refine o_bind ?_; intro x7 hx7
      refine f_op rfl rfl (s_load Try.underlying3 rfl rfl (ldI_eq hx7)) ?_
      refine f_op rfl rfl (s_fieldAddr Try.underlying47 rfl ty3 rfl) ?_
      refine o_bind ?_; intro x8 hx8
      refine f_op rfl rfl (s_load Try.underlying3 rfl rfl (ldI_eq hx8)) ?_
      refine f_op rfl rfl (s_fieldAddr Try.underlying47 rfl ty3 rfl) ?_
      refine o_bind ?_; intro x9 hx9
      refine f_op rfl rfl (s_load Try.underlying3 rfl rfl (ldI_eq hx9)) ?_
      refine f_op rfl rfl (s_build (cs := [.int .i64 x7, .int .i64 x8, .int .i64 x9]) Try.underlying46 ty46 rfl pl46 rfl) ?_
      refine f_op rfl rfl (s_buildSlice (cs := [.int .i64 x7, .int .i64 x8, .int .i64 x9]) Try.underlying22 ty46 (by decide) (by decide) rfl (by decide) rfl) ?_
      refine o_bind ?_; intro x10 hx10
      refine f_op rfl rfl (s_ap rfl rfl Try.underlying22 Try.underlying22 ty46 rfl rfl rfl rfl rfl rfl rfl hx10) ?_
      refine f_op rfl rfl (s_as (v := .sl x10.1) rfl) ?_
      refine f_nil ?_
      refine f_inBlock ?_
      refine f_region ?_
      refine f_op rfl rfl (s_add rfl rfl) ?_
      refine f_op rfl rfl (s_mv (v := .int .i64 (w64 (v4 + 1))) rfl) ?_
      refine f_nil ?_
      refine f_inLoop ?_
      refine f_keep [3, 6, 7, 8] ?_
      exact ih x10.1 v2 v3 (w64 (v4 + 1)) x10.2
    · skip
      refine f_know 9 rfl (dec_false h1) ?_
      refine f_condF rfl ?_
      refine f_exit rfl ?_
      refine f_seq ?_
      refine f_region ?_
      refine f_op rfl rfl (s_mv (v := .sl v1) rfl) ?_
      refine f_op rfl rfl (s_as (v := .sl v1) rfl) ?_
      refine f_nil ?_
      exact f_ret (.tmp rfl (.nil)) rfl

theorem sim36 {a0 : Sl} {H : Hp} {p : Sl × Hp} (h : r36 a0 H = some p) : CallSim Try.prog 36 [.sl a0] H (.sl p.1) p.2 := by
  refine callSim (fn := Try.f36) (ret := ret36) Try.func36 rfl Try.ntmps36 rfl ?_ h
  unfold r36
  refine f_seq ?_
  refine f_region ?_
  refine f_op rfl rfl (s_as (v := .sl ⟨true, 0, 0, 0, 0, 0⟩) rfl) ?_
  refine f_nil ?_
  refine f_seq ?_
  refine f_region ?_
  refine f_op rfl rfl (s_as (v := .sl ⟨true, 0, 0, 0, 0, 0⟩) rfl) ?_
  refine f_nil ?_
  refine f_seq ?_
  refine f_seq ?_
  refine f_region ?_
  refine f_op rfl rfl (s_mv (v := .sl a0) rfl) ?_
  refine f_op rfl rfl (s_lenS rfl Try.underlying30 rfl) ?_
  refine f_op rfl rfl (s_mv (v := .int .i64 0) rfl) ?_
  refine f_nil ?_
  refine f_block ?_
  refine f_loop ?_
  refine f_keep [3, 6, 7, 8] ?_
  exact s36_l0 FUEL ⟨true, 0, 0, 0, 0, 0⟩ a0 (a0.len : Int) 0 H

/- 114 slices.insertionSortCmpFunc[congou/cuts.Point] -/
theorem ok114 : FnOk Try.prog 114 := ⟨⟨Try.f114, Try.func114, by kernel_rfl, rfl⟩⟩
theorem s114_j2 {app : App} (happ : AppSim Try.prog app) (kt0 : Sl → Int → Int → AV → Int → Hp → Option (Unit × Hp)) (hkt0 : ∀ (v1 : Sl) (v2 : Int) (v3 : Int) (v4 : AV) (v5 : Int) (H : Hp), Fin Try.prog Try.f114 ret114 53 (todoAt (bodyOf Try.f114) [1, 0, 0] []) [(0, .sl v1), (1, .int .i64 v2), (2, .int .i64 v3), (3, v4), (8, .int .i64 v5)] H (kt0 v1 v2 v3 v4 v5 H)) (kt1 : Sl → Int → Int → AV → Int → Int → Hp → Option (Unit × Hp)) (hkt1 : ∀ (v1 : Sl) (v2 : Int) (v3 : Int) (v4 : AV) (v5 : Int) (v6 : Int) (H : Hp), Fin Try.prog Try.f114 ret114 53 (todoAt (bodyOf Try.f114) [1, 0, 0, 1, 0, 0, 1, 0, 0] []) [(0, .sl v1), (1, .int .i64 v2), (2, .int .i64 v3), (3, v4), (8, .int .i64 v5), (9, .int .i64 v6)] H (kt1 v1 v2 v3 v4 v5 v6 H)) (v1 : Sl) (v2 : Int) (v3 : Int) (v4 : AV) (v5 : Int) (v6 : Int) (v7 : Bool) (H : Hp) : Fin Try.prog Try.f114 ret114 53 (todoAt (bodyOf Try.f114) [1, 0, 0, 1, 0, 0, 1, 0, 0, 0, 1] []) [(0, .sl v1), (1, .int .i64 v2), (2, .int .i64 v3), (3, v4), (8, .int .i64 v5), (9, .int .i64 v6), (34, .bool v7)] H (r114_j2 app kt0 kt1 v1 v2 v3 v4 v5 v6 v7 H) := by
  unfold r114_j2
  refine f_if (fun h1 => ?_) (fun h1 => ?_)
  · skip
    refine f_know 34 rfl (bool_T h1) ?_
    refine f_condT rfl ?_
    refine f_skip ?_
    refine f_seq ?_
    refine f_block ?_
    refine f_ck fun g2 => ?_
    refine f_bind ?_; intro x3 hx3
    refine f_bind ?_; intro x4 hx4
    refine f_bind ?_; intro x5 hx5
    refine f_bind ?_; intro x6 hx6
    refine f_ck fun g7 => ?_
    refine f_bind ?_; intro x8 hx8
    refine f_bind ?_; intro x9 hx9
    refine f_bind ?_; intro x10 hx10
    refine f_bind ?_; intro x11 hx11
    refine f_ck fun g12 => ?_
    refine f_bind ?_; intro H13 hH13
    refine f_ck fun g14 => ?_
    refine f_bind ?_; intro H15 hH15
    refine f_draw (Φ := fun _ => True) (lim := 1000000) [0, 0, 0, 0, 0, 0, 0, 0, 0, 1, 0, 0, 0, 1, 0, 2, 0, 2] (Trc.pure rfl rfl rfl (.inl fun _ => s_mv (v := .sl v1) rfl) (Trc.pure rfl rfl rfl (.inl fun _ => s_mv (v := .int .i64 v6) rfl) (Trc.pure rfl rfl rfl (.inl fun _ => s_mv (v := .sl v1) rfl) (Trc.pure rfl rfl rfl (.inl fun _ => s_mv (v := .int .i64 v6) rfl) (Trc.pure rfl rfl rfl (.inl fun _ => s_sub rfl rfl) (Trc.pure rfl rfl rfl (.inl fun _ => s_mv (v := .sl v1) rfl) (Trc.pure rfl rfl rfl (.inl fun _ => s_mv (v := .int .i64 v6) rfl) (Trc.pure rfl rfl rfl (.inl fun _ => s_sub rfl rfl) (Trc.pure rfl rfl rfl (.inl fun _ => s_idx Try.underlying83 ty32 rfl rfl g2) (Trc.read rfl rfl rfl (s_loads Try.underlying32 rfl ty32 rfl (lds_cons (ldI_eq hx3) (lds_cons (ldI_eq hx4) (lds_cons (ldI_eq hx5) (lds_cons (ldI_eq hx6) (lds_nil)))))) (Trc.pure rfl rfl rfl (.inl fun _ => s_mv (v := .sl v1) rfl) (Trc.pure rfl rfl rfl (.inl fun _ => s_mv (v := .int .i64 v6) rfl) (Trc.pure rfl rfl rfl (.inl fun _ => s_idx Try.underlying83 ty32 rfl rfl g7) (Trc.read rfl rfl rfl (s_loads Try.underlying32 rfl ty32 rfl (lds_cons (ldI_eq hx8) (lds_cons (ldI_eq hx9) (lds_cons (ldI_eq hx10) (lds_cons (ldI_eq hx11) (lds_nil)))))) (Trc.pure rfl rfl rfl (.inl fun _ => s_idx Try.underlying83 ty32 rfl rfl g12) (Trc.eff rfl rfl rfl (fun _ => trivial) (s_stores ty32 rfl rfl rfl rfl hH13 (Nat.le_of_eq (sts_mono hH13).symm)) (Trc.pure rfl rfl rfl (.inl fun _ => s_idx Try.underlying83 ty32 rfl rfl g14) (Trc.eff rfl rfl rfl (fun _ => trivial) (s_stores ty32 rfl rfl rfl rfl hH15 (Nat.le_of_eq (sts_mono hH15).symm)) (Trc.nil (fun _ => trivial)))))))))))))))))))) rfl (by decide +kernel) mixed ?_
    refine f_inBlock ?_
    refine f_region ?_
    refine f_op rfl rfl (s_mv (v := .int .i64 v6) rfl) ?_
    refine f_op rfl rfl (s_sub rfl rfl) ?_
    refine f_op rfl rfl (s_as (v := .int .i64 (w64 (v6 - 1))) rfl) ?_
    refine f_nil ?_
    refine f_inLoop ?_
    refine f_keep [0, 1, 2, 3, 8, 9] ?_
    exact hkt1 v1 v2 v3 v4 v5 (w64 (v6 - 1)) H15
  · skip
    refine f_know 34 rfl (bool_F h1) ?_
    refine f_condF rfl ?_
    refine f_exit rfl ?_
    refine f_inBlock ?_
    refine f_region ?_
    refine f_op rfl rfl (s_mv (v := .int .i64 v5) rfl) ?_
    refine f_op rfl rfl (s_add rfl rfl) ?_
    refine f_op rfl rfl (s_as (v := .int .i64 (w64 (v5 + 1))) rfl) ?_
    refine f_nil ?_
    refine f_inLoop ?_
    refine f_keep [0, 1, 2, 3, 8] ?_
    exact hkt0 v1 v2 v3 v4 (w64 (v5 + 1)) H

theorem s114_l1 {app : App} (happ : AppSim Try.prog app) (kt0 : Sl → Int → Int → AV → Int → Hp → Option (Unit × Hp)) (hkt0 : ∀ (v1 : Sl) (v2 : Int) (v3 : Int) (v4 : AV) (v5 : Int) (H : Hp), Fin Try.prog Try.f114 ret114 53 (todoAt (bodyOf Try.f114) [1, 0, 0] []) [(0, .sl v1), (1, .int .i64 v2), (2, .int .i64 v3), (3, v4), (8, .int .i64 v5)] H (kt0 v1 v2 v3 v4 v5 H)) : ∀ (k_ : Nat) (v1 : Sl) (v2 : Int) (v3 : Int) (v4 : AV) (v5 : Int) (v6 : Int) (H : Hp), Fin Try.prog Try.f114 ret114 53 (todoAt (bodyOf Try.f114) [1, 0, 0, 1, 0, 0, 1, 0, 0] []) [(0, .sl v1), (1, .int .i64 v2), (2, .int .i64 v3), (3, v4), (8, .int .i64 v5), (9, .int .i64 v6)] H (r114_l1 app kt0 k_ v1 v2 v3 v4 v5 v6 H) := by
  intro k_
  induction k_ with
  | zero => intro _ _ _ _ _ _ _; exact f_none
  | succ k_ ih =>
    intro v1 v2 v3 v4 v5 v6 H
    rw [r114_l1]
    refine f_seq ?_
    refine f_seq ?_
    refine f_if (fun h1 => ?_) (fun h1 => ?_)
    · skip
      refine f_ck fun g2 => ?_
      refine f_bind ?_; intro x3 hx3
      refine f_bind ?_; intro x4 hx4
      refine f_bind ?_; intro x5 hx5
      refine f_bind ?_; intro x6 hx6
      refine f_ck fun g7 => ?_
      refine f_bind ?_; intro x8 hx8
      refine f_bind ?_; intro x9 hx9
      refine f_bind ?_; intro x10 hx10
      refine f_bind ?_; intro x11 hx11
      refine f_bind ?_; intro p12 hp12
      refine f_bind ?_; intro x13 hx13
      refine f_draw (Φ := fun _ => True) (lim := 1000000) [0, 0, 0, 0, 0, 0, 0, 0, 1, 0, 0, 0, 0, 1, 2, 0, 0] (Trc.pure rfl rfl rfl (.inl fun _ => s_mv (v := .int .i64 v6) rfl) (Trc.pure rfl rfl rfl (.inl fun _ => s_mv (v := .int .i64 v2) rfl) (Trc.pure rfl rfl rfl (.inl fun _ => s_gtr rfl rfl) (Trc.pure rfl rfl rfl (.inl fun _ => s_mv (v := .bool (decide (v2 < v6))) rfl) (Trc.know 21 rfl (dec_true h1) (Trc.pure rfl rfl rfl (.inl fun _ => s_mv (v := v4) rfl) (Trc.pure rfl rfl rfl (.inl fun _ => s_mv (v := .sl v1) rfl) (Trc.pure rfl rfl rfl (.inl fun _ => s_mv (v := .int .i64 v6) rfl) (Trc.pure rfl rfl rfl (.inl fun _ => s_idx Try.underlying83 ty32 rfl rfl g2) (Trc.read rfl rfl rfl (s_loads Try.underlying32 rfl ty32 rfl (lds_cons (ldI_eq hx3) (lds_cons (ldI_eq hx4) (lds_cons (ldI_eq hx5) (lds_cons (ldI_eq hx6) (lds_nil)))))) (Trc.pure rfl rfl rfl (.inl fun _ => s_mv (v := .sl v1) rfl) (Trc.pure rfl rfl rfl (.inl fun _ => s_mv (v := .int .i64 v6) rfl) (Trc.pure rfl rfl rfl (.inl fun _ => s_sub rfl rfl) (Trc.pure rfl rfl rfl (.inl fun _ => s_idx Try.underlying83 ty32 rfl rfl g7) (Trc.read rfl rfl rfl (s_loads Try.underlying32 rfl ty32 rfl (lds_cons (ldI_eq hx8) (lds_cons (ldI_eq hx9) (lds_cons (ldI_eq hx10) (lds_cons (ldI_eq hx11) (lds_nil)))))) (Trc.eff rfl rfl rfl (fun _ => trivial) (s_callv happ rfl rfl hp12) (Trc.know 32 rfl (asI_eq hx13) (Trc.pure rfl rfl rfl (.inl fun _ => s_lss rfl rfl) (Trc.pure rfl rfl rfl (.inl fun _ => s_pickT (v := .bool (decide (x13 < 0))) rfl rfl) (Trc.nil (fun _ => trivial))))))))))))))))))))) rfl (by decide +kernel) mixed ?_
      refine f_keep [0, 1, 2, 3, 8, 9, 34] ?_
      exact s114_j2 happ _ hkt0 _ (fun v1_ v2_ v3_ v4_ v5_ v6_ H_ => ih v1_ v2_ v3_ v4_ v5_ v6_ H_) v1 v2 v3 v4 v5 v6 (decide (x13 < 0)) p12.2
    · skip
      refine f_draw (Φ := fun _ => True) (lim := 1000000) [0, 0, 0, 0, 0, 0, 0, 0, 0, 0, 0, 0, 0, 0, 0, 0, 0] (Trc.pure rfl rfl rfl (.inl fun _ => s_mv (v := .int .i64 v6) rfl) (Trc.pure rfl rfl rfl (.inl fun _ => s_mv (v := .int .i64 v2) rfl) (Trc.pure rfl rfl rfl (.inl fun _ => s_gtr rfl rfl) (Trc.pure rfl rfl rfl (.inl fun _ => s_mv (v := .bool (decide (v2 < v6))) rfl) (Trc.know 21 rfl (dec_false h1) (Trc.no rfl rfl rfl (Trc.no rfl rfl rfl (Trc.no rfl rfl rfl (Trc.no rfl rfl rfl (Trc.no rfl rfl rfl (Trc.no rfl rfl rfl (Trc.no rfl rfl rfl (Trc.no rfl rfl rfl (Trc.no rfl rfl rfl (Trc.no rfl rfl rfl (Trc.no rfl rfl rfl (Trc.no rfl rfl rfl (Trc.pure rfl rfl rfl (.inl fun _ => s_pickF (v := .bool false) rfl rfl) (Trc.nil (fun _ => trivial)))))))))))))))))))) rfl (by decide +kernel) mixed ?_
      refine f_keep [0, 1, 2, 3, 8, 9, 34] ?_
      exact s114_j2 happ _ hkt0 _ (fun v1_ v2_ v3_ v4_ v5_ v6_ H_ => ih v1_ v2_ v3_ v4_ v5_ v6_ H_) v1 v2 v3 v4 v5 v6 false H

theorem s114_l0 {app : App} (happ : AppSim Try.prog app) : ∀ (k_ : Nat) (v1 : Sl) (v2 : Int) (v3 : Int) (v4 : AV) (v5 : Int) (H : Hp), Fin Try.prog Try.f114 ret114 53 (todoAt (bodyOf Try.f114) [1, 0, 0] []) [(0, .sl v1), (1, .int .i64 v2), (2, .int .i64 v3), (3, v4), (8, .int .i64 v5)] H (r114_l0 app k_ v1 v2 v3 v4 v5 H) := by
  intro k_
  induction k_ with
  | zero => intro _ _ _ _ _ _; exact f_none
  | succ k_ ih =>
    intro v1 v2 v3 v4 v5 H
    rw [r114_l0]
    refine f_seq ?_
    refine f_seq ?_
    refine f_region ?_
    refine f_op rfl rfl (s_mv (v := .int .i64 v5) rfl) ?_
    refine f_op rfl rfl (s_mv (v := .int .i64 v3) rfl) ?_
    refine f_op rfl rfl (s_lss rfl rfl) ?_
    refine f_nil ?_
    refine f_if (fun h1 => ?_) (fun h1 => ?_)
    · skip
      refine f_know 14 rfl (dec_true h1) ?_
      refine f_condT rfl ?_
      refine f_skip ?_
      refine f_seq ?_
      refine f_block ?_
      refine f_seq ?_
      refine f_region ?_
      refine f_op rfl rfl (s_mv (v := .int .i64 v5) rfl) ?_
      refine f_op rfl rfl (s_as (v := .int .i64 v5) rfl) ?_
      refine f_nil ?_
      refine f_block ?_
      refine f_loop ?_
      refine f_keep [0, 1, 2, 3, 8, 9] ?_
      exact s114_l1 happ _ (fun v1_ v2_ v3_ v4_ v5_ H_ => ih v1_ v2_ v3_ v4_ v5_ H_) FUEL v1 v2 v3 v4 v5 v5 H
    · skip
      refine f_know 14 rfl (dec_false h1) ?_
      refine f_condF rfl ?_
      refine f_exit rfl ?_
      exact f_end (.nil) rfl

theorem sim114 {app : App} (happ : AppSim Try.prog app) {a0 : Sl} {a1 : Int} {a2 : Int} {a3 : AV} {H : Hp} {p : Unit × Hp} (h : r114 app a0 a1 a2 a3 H = some p) : CallSim Try.prog 114 [.sl a0, .int .i64 a1, .int .i64 a2, a3] H (.tup []) p.2 := by
  refine callSim (fn := Try.f114) (ret := ret114) Try.func114 rfl Try.ntmps114 rfl ?_ h
  unfold r114
  refine f_seq ?_
  refine f_region ?_
  refine f_op rfl rfl (s_mv (v := .int .i64 a1) rfl) ?_
  refine f_op rfl rfl (s_add rfl rfl) ?_
  refine f_op rfl rfl (s_as (v := .int .i64 (w64 (a1 + 1))) rfl) ?_
  refine f_nil ?_
  refine f_block ?_
  refine f_loop ?_
  refine f_keep [0, 1, 2, 3, 8] ?_
  exact s114_l0 happ FUEL a0 a1 a2 a3 (w64 (a1 + 1)) H

/- 124 slices.siftDownCmpFunc[congou/cuts.Point] -/
theorem ok124 : FnOk Try.prog 124 := ⟨⟨Try.f124, Try.func124, by kernel_rfl, rfl⟩⟩
theorem s124_j1 {app : App} (happ : AppSim Try.prog app) (kt0 : Sl → Int → Int → AV → Int → Hp → Option (Unit × Hp)) (hkt0 : ∀ (v1 : Sl) (v2 : Int) (v3 : Int) (v4 : AV) (v5 : Int) (H : Hp), Fin Try.prog Try.f124 ret124 82 (todoAt (bodyOf Try.f124) [1, 0, 0] []) [(0, .sl v1), (2, .int .i64 v2), (3, .int .i64 v3), (4, v4), (10, .int .i64 v5)] H (kt0 v1 v2 v3 v4 v5 H)) (v1 : Sl) (v2 : Int) (v3 : Int) (v4 : AV) (v5 : Int) (v6 : Int) (H : Hp) : Fin Try.prog Try.f124 ret124 82 (todoAt (bodyOf Try.f124) [1, 0, 0, 0, 1, 1, 1] []) [(0, .sl v1), (2, .int .i64 v2), (3, .int .i64 v3), (4, v4), (10, .int .i64 v5), (11, .int .i64 v6)] H (r124_j1 app kt0 v1 v2 v3 v4 v5 v6 H) := by
  unfold r124_j1
  refine f_seq ?_
  refine f_seq ?_
  refine f_ck fun g1 => ?_
  refine f_bind ?_; intro x2 hx2
  refine f_bind ?_; intro x3 hx3
  refine f_bind ?_; intro x4 hx4
  refine f_bind ?_; intro x5 hx5
  refine f_ck fun g6 => ?_
  refine f_bind ?_; intro x7 hx7
  refine f_bind ?_; intro x8 hx8
  refine f_bind ?_; intro x9 hx9
  refine f_bind ?_; intro x10 hx10
  refine f_bind ?_; intro p11 hp11
  refine f_bind ?_; intro x12 hx12
  refine f_draw (Φ := fun _ => True) (lim := 1000000) [0, 0, 0, 0, 0, 0, 1, 0, 0, 0, 0, 0, 1, 2, 0, 0] (Trc.pure rfl rfl rfl (.inl fun _ => s_mv (v := v4) rfl) (Trc.pure rfl rfl rfl (.inl fun _ => s_mv (v := .sl v1) rfl) (Trc.pure rfl rfl rfl (.inl fun _ => s_mv (v := .int .i64 v3) rfl) (Trc.pure rfl rfl rfl (.inl fun _ => s_mv (v := .int .i64 v5) rfl) (Trc.pure rfl rfl rfl (.inl fun _ => s_add rfl rfl) (Trc.pure rfl rfl rfl (.inl fun _ => s_idx Try.underlying83 ty32 rfl rfl g1) (Trc.read rfl rfl rfl (s_loads Try.underlying32 rfl ty32 rfl (lds_cons (ldI_eq hx2) (lds_cons (ldI_eq hx3) (lds_cons (ldI_eq hx4) (lds_cons (ldI_eq hx5) (lds_nil)))))) (Trc.pure rfl rfl rfl (.inl fun _ => s_mv (v := .sl v1) rfl) (Trc.pure rfl rfl rfl (.inl fun _ => s_mv (v := .int .i64 v3) rfl) (Trc.pure rfl rfl rfl (.inl fun _ => s_mv (v := .int .i64 v6) rfl) (Trc.pure rfl rfl rfl (.inl fun _ => s_add rfl rfl) (Trc.pure rfl rfl rfl (.inl fun _ => s_idx Try.underlying83 ty32 rfl rfl g6) (Trc.read rfl rfl rfl (s_loads Try.underlying32 rfl ty32 rfl (lds_cons (ldI_eq hx7) (lds_cons (ldI_eq hx8) (lds_cons (ldI_eq hx9) (lds_cons (ldI_eq hx10) (lds_nil)))))) (Trc.eff rfl rfl rfl (fun _ => trivial) (s_callv happ rfl rfl hp11) (Trc.know 56 rfl (asI_eq hx12) (Trc.pure rfl rfl rfl (.inl fun _ => s_lss rfl rfl) (Trc.pure rfl rfl rfl (.inl fun _ => s_not rfl) (Trc.nil (fun _ => trivial))))))))))))))))))) rfl (by decide +kernel) mixed ?_
  refine f_if (fun h13 => ?_) (fun h13 => ?_)
  · skip
    refine f_know 58 rfl (dec_notT h13) ?_
    refine f_condF rfl ?_
    refine f_skip ?_
    refine f_seq ?_
    refine f_ck fun g14 => ?_
    refine f_bind ?_; intro x15 hx15
    refine f_bind ?_; intro x16 hx16
    refine f_bind ?_; intro x17 hx17
    refine f_bind ?_; intro x18 hx18
    refine f_ck fun g19 => ?_
    refine f_bind ?_; intro x20 hx20
    refine f_bind ?_; intro x21 hx21
    refine f_bind ?_; intro x22 hx22
    refine f_bind ?_; intro x23 hx23
    refine f_ck fun g24 => ?_
    refine f_bind ?_; intro H25 hH25
    refine f_ck fun g26 => ?_
    refine f_bind ?_; intro H27 hH27
    refine f_draw (Φ := fun _ => True) (lim := 1000000) [0, 0, 0, 0, 0, 0, 0, 0, 0, 0, 0, 0, 0, 1, 0, 0, 0, 0, 0, 1, 0, 2, 0, 2] (Trc.pure rfl rfl rfl (.inl fun _ => s_mv (v := .sl v1) rfl) (Trc.pure rfl rfl rfl (.inl fun _ => s_mv (v := .int .i64 v3) rfl) (Trc.pure rfl rfl rfl (.inl fun _ => s_mv (v := .int .i64 v5) rfl) (Trc.pure rfl rfl rfl (.inl fun _ => s_add rfl rfl) (Trc.pure rfl rfl rfl (.inl fun _ => s_mv (v := .sl v1) rfl) (Trc.pure rfl rfl rfl (.inl fun _ => s_mv (v := .int .i64 v3) rfl) (Trc.pure rfl rfl rfl (.inl fun _ => s_mv (v := .int .i64 v6) rfl) (Trc.pure rfl rfl rfl (.inl fun _ => s_add rfl rfl) (Trc.pure rfl rfl rfl (.inl fun _ => s_mv (v := .sl v1) rfl) (Trc.pure rfl rfl rfl (.inl fun _ => s_mv (v := .int .i64 v3) rfl) (Trc.pure rfl rfl rfl (.inl fun _ => s_mv (v := .int .i64 v6) rfl) (Trc.pure rfl rfl rfl (.inl fun _ => s_add rfl rfl) (Trc.pure rfl rfl rfl (.inl fun _ => s_idx Try.underlying83 ty32 rfl rfl g14) (Trc.read rfl rfl rfl (s_loads Try.underlying32 rfl ty32 rfl (lds_cons (ldI_eq hx15) (lds_cons (ldI_eq hx16) (lds_cons (ldI_eq hx17) (lds_cons (ldI_eq hx18) (lds_nil)))))) (Trc.pure rfl rfl rfl (.inl fun _ => s_mv (v := .sl v1) rfl) (Trc.pure rfl rfl rfl (.inl fun _ => s_mv (v := .int .i64 v3) rfl) (Trc.pure rfl rfl rfl (.inl fun _ => s_mv (v := .int .i64 v5) rfl) (Trc.pure rfl rfl rfl (.inl fun _ => s_add rfl rfl) (Trc.pure rfl rfl rfl (.inl fun _ => s_idx Try.underlying83 ty32 rfl rfl g19) (Trc.read rfl rfl rfl (s_loads Try.underlying32 rfl ty32 rfl (lds_cons (ldI_eq hx20) (lds_cons (ldI_eq hx21) (lds_cons (ldI_eq hx22) (lds_cons (ldI_eq hx23) (lds_nil)))))) (Trc.pure rfl rfl rfl (.inl fun _ => s_idx Try.underlying83 ty32 rfl rfl g24) (Trc.eff rfl rfl rfl (fun _ => trivial) (s_stores ty32 rfl rfl rfl rfl hH25 (Nat.le_of_eq (sts_mono hH25).symm)) (Trc.pure rfl rfl rfl (.inl fun _ => s_idx Try.underlying83 ty32 rfl rfl g26) (Trc.eff rfl rfl rfl (fun _ => trivial) (s_stores ty32 rfl rfl rfl rfl hH27 (Nat.le_of_eq (sts_mono hH27).symm)) (Trc.nil (fun _ => trivial)))))))))))))))))))))))))) rfl (by decide +kernel) mixed ?_
    refine f_region ?_
    refine f_op rfl rfl (s_mv (v := .int .i64 v6) rfl) ?_
    refine f_op rfl rfl (s_as (v := .int .i64 v6) rfl) ?_
    refine f_nil ?_
    refine f_inBlock ?_
    refine f_inLoop ?_
    refine f_keep [0, 2, 3, 4, 10] ?_
    exact hkt0 v1 v2 v3 v4 v6 H27
  · skip
    refine f_know 58 rfl (dec_notF h13) ?_
    refine f_condT rfl ?_
    exact f_ret (.nil) rfl

theorem s124_j2 {app : App} (happ : AppSim Try.prog app) (kt0 : Sl → Int → Int → AV → Int → Hp → Option (Unit × Hp)) (hkt0 : ∀ (v1 : Sl) (v2 : Int) (v3 : Int) (v4 : AV) (v5 : Int) (H : Hp), Fin Try.prog Try.f124 ret124 82 (todoAt (bodyOf Try.f124) [1, 0, 0] []) [(0, .sl v1), (2, .int .i64 v2), (3, .int .i64 v3), (4, v4), (10, .int .i64 v5)] H (kt0 v1 v2 v3 v4 v5 H)) (v1 : Sl) (v2 : Int) (v3 : Int) (v4 : AV) (v5 : Int) (v6 : Int) (v7 : Bool) (H : Hp) : Fin Try.prog Try.f124 ret124 82 (todoAt (bodyOf Try.f124) [1, 0, 0, 0, 1, 1, 0, 1] []) [(0, .sl v1), (2, .int .i64 v2), (3, .int .i64 v3), (4, v4), (10, .int .i64 v5), (11, .int .i64 v6), (40, .bool v7)] H (r124_j2 app kt0 v1 v2 v3 v4 v5 v6 v7 H) := by
  unfold r124_j2
  refine f_if (fun h1 => ?_) (fun h1 => ?_)
  · skip
    refine f_know 40 rfl (bool_T h1) ?_
    refine f_condT rfl ?_
    refine f_region ?_
    refine f_op rfl rfl (s_mv (v := .int .i64 v6) rfl) ?_
    refine f_op rfl rfl (s_add rfl rfl) ?_
    refine f_op rfl rfl (s_as (v := .int .i64 (w64 (v6 + 1))) rfl) ?_
    refine f_nil ?_
    refine f_keep [0, 2, 3, 4, 10, 11] ?_
    exact s124_j1 happ _ hkt0 v1 v2 v3 v4 v5 (w64 (v6 + 1)) H
  · skip
    refine f_know 40 rfl (bool_F h1) ?_
    refine f_condF rfl ?_
    refine f_skip ?_
    refine f_keep [0, 2, 3, 4, 10, 11] ?_
    exact s124_j1 happ _ hkt0 v1 v2 v3 v4 v5 v6 H

theorem s124_l0 {app : App} (happ : AppSim Try.prog app) : ∀ (k_ : Nat) (v1 : Sl) (v2 : Int) (v3 : Int) (v4 : AV) (v5 : Int) (H : Hp), Fin Try.prog Try.f124 ret124 82 (todoAt (bodyOf Try.f124) [1, 0, 0] []) [(0, .sl v1), (2, .int .i64 v2), (3, .int .i64 v3), (4, v4), (10, .int .i64 v5)] H (r124_l0 app k_ v1 v2 v3 v4 v5 H) := by
  intro k_
  induction k_ with
  | zero => intro _ _ _ _ _ _; exact f_none
  | succ k_ ih =>
    intro v1 v2 v3 v4 v5 H
    rw [r124_l0]
    refine f_block ?_
    refine f_seq ?_
    refine f_region ?_
    refine f_op rfl rfl (s_mv (v := .int .i64 v5) rfl) ?_
    refine f_op rfl rfl (s_mul rfl rfl) ?_
    refine f_op rfl rfl (s_add rfl rfl) ?_
    refine f_op rfl rfl (s_as (v := .int .i64 (w64 ((w64 (2 * v5)) + 1))) rfl) ?_
    refine f_nil ?_
    refine f_seq ?_
    refine f_seq ?_
    refine f_region ?_
    refine f_op rfl rfl (s_mv (v := .int .i64 (w64 ((w64 (2 * v5)) + 1))) rfl) ?_
    refine f_op rfl rfl (s_mv (v := .int .i64 v2) rfl) ?_
    refine f_op rfl rfl (s_geq rfl rfl) ?_
    refine f_nil ?_
    refine f_if (fun h1 => ?_) (fun h1 => ?_)
    · skip
      refine f_know 18 rfl (dec_true h1) ?_
      refine f_condT rfl ?_
      refine f_exit rfl ?_
      exact f_end (.nil) rfl
    · skip
      refine f_know 18 rfl (dec_false h1) ?_
      refine f_condF rfl ?_
      refine f_skip ?_
      refine f_seq ?_
      refine f_seq ?_
      refine f_if (fun h2 => ?_) (fun h2 => ?_)
      · skip
        refine f_ck fun g3 => ?_
        refine f_bind ?_; intro x4 hx4
        refine f_bind ?_; intro x5 hx5
        refine f_bind ?_; intro x6 hx6
        refine f_bind ?_; intro x7 hx7
        refine f_ck fun g8 => ?_
        refine f_bind ?_; intro x9 hx9
        refine f_bind ?_; intro x10 hx10
        refine f_bind ?_; intro x11 hx11
        refine f_bind ?_; intro x12 hx12
        refine f_bind ?_; intro p13 hp13
        refine f_bind ?_; intro x14 hx14
        refine f_draw (Φ := fun _ => True) (lim := 1000000) [0, 0, 0, 0, 0, 0, 0, 0, 0, 0, 0, 1, 0, 0, 0, 0, 0, 0, 1, 2, 0, 0] (Trc.pure rfl rfl rfl (.inl fun _ => s_mv (v := .int .i64 (w64 ((w64 (2 * v5)) + 1))) rfl) (Trc.pure rfl rfl rfl (.inl fun _ => s_add rfl rfl) (Trc.pure rfl rfl rfl (.inl fun _ => s_mv (v := .int .i64 v2) rfl) (Trc.pure rfl rfl rfl (.inl fun _ => s_lss rfl rfl) (Trc.pure rfl rfl rfl (.inl fun _ => s_mv (v := .bool (decide ((w64 ((w64 ((w64 (2 * v5)) + 1)) + 1)) < v2))) rfl) (Trc.know 23 rfl (dec_true h2) (Trc.pure rfl rfl rfl (.inl fun _ => s_mv (v := v4) rfl) (Trc.pure rfl rfl rfl (.inl fun _ => s_mv (v := .sl v1) rfl) (Trc.pure rfl rfl rfl (.inl fun _ => s_mv (v := .int .i64 v3) rfl) (Trc.pure rfl rfl rfl (.inl fun _ => s_mv (v := .int .i64 (w64 ((w64 (2 * v5)) + 1))) rfl) (Trc.pure rfl rfl rfl (.inl fun _ => s_add rfl rfl) (Trc.pure rfl rfl rfl (.inl fun _ => s_idx Try.underlying83 ty32 rfl rfl g3) (Trc.read rfl rfl rfl (s_loads Try.underlying32 rfl ty32 rfl (lds_cons (ldI_eq hx4) (lds_cons (ldI_eq hx5) (lds_cons (ldI_eq hx6) (lds_cons (ldI_eq hx7) (lds_nil)))))) (Trc.pure rfl rfl rfl (.inl fun _ => s_mv (v := .sl v1) rfl) (Trc.pure rfl rfl rfl (.inl fun _ => s_mv (v := .int .i64 v3) rfl) (Trc.pure rfl rfl rfl (.inl fun _ => s_mv (v := .int .i64 (w64 ((w64 (2 * v5)) + 1))) rfl) (Trc.pure rfl rfl rfl (.inl fun _ => s_add rfl rfl) (Trc.pure rfl rfl rfl (.inl fun _ => s_add rfl rfl) (Trc.pure rfl rfl rfl (.inl fun _ => s_idx Try.underlying83 ty32 rfl rfl g8) (Trc.read rfl rfl rfl (s_loads Try.underlying32 rfl ty32 rfl (lds_cons (ldI_eq hx9) (lds_cons (ldI_eq hx10) (lds_cons (ldI_eq hx11) (lds_cons (ldI_eq hx12) (lds_nil)))))) (Trc.eff rfl rfl rfl (fun _ => trivial) (s_callv happ rfl rfl hp13) (Trc.know 38 rfl (asI_eq hx14) (Trc.pure rfl rfl rfl (.inl fun _ => s_lss rfl rfl) (Trc.pure rfl rfl rfl (.inl fun _ => s_pickT (v := .bool (decide (x14 < 0))) rfl rfl) (Trc.nil (fun _ => trivial)))))))))))))))))))))))))) rfl (by decide +kernel) mixed ?_
        refine f_keep [0, 2, 3, 4, 10, 11, 40] ?_
        exact s124_j2 happ _ (fun v1_ v2_ v3_ v4_ v5_ H_ => ih v1_ v2_ v3_ v4_ v5_ H_) v1 v2 v3 v4 v5 (w64 ((w64 (2 * v5)) + 1)) (decide (x14 < 0)) p13.2
      · skip
        refine f_draw (Φ := fun _ => True) (lim := 1000000) [0, 0, 0, 0, 0, 0, 0, 0, 0, 0, 0, 0, 0, 0, 0, 0, 0, 0, 0, 0, 0, 0] (Trc.pure rfl rfl rfl (.inl fun _ => s_mv (v := .int .i64 (w64 ((w64 (2 * v5)) + 1))) rfl) (Trc.pure rfl rfl rfl (.inl fun _ => s_add rfl rfl) (Trc.pure rfl rfl rfl (.inl fun _ => s_mv (v := .int .i64 v2) rfl) (Trc.pure rfl rfl rfl (.inl fun _ => s_lss rfl rfl) (Trc.pure rfl rfl rfl (.inl fun _ => s_mv (v := .bool (decide ((w64 ((w64 ((w64 (2 * v5)) + 1)) + 1)) < v2))) rfl) (Trc.know 23 rfl (dec_false h2) (Trc.no rfl rfl rfl (Trc.no rfl rfl rfl (Trc.no rfl rfl rfl (Trc.no rfl rfl rfl (Trc.no rfl rfl rfl (Trc.no rfl rfl rfl (Trc.no rfl rfl rfl (Trc.no rfl rfl rfl (Trc.no rfl rfl rfl (Trc.no rfl rfl rfl (Trc.no rfl rfl rfl (Trc.no rfl rfl rfl (Trc.no rfl rfl rfl (Trc.no rfl rfl rfl (Trc.no rfl rfl rfl (Trc.no rfl rfl rfl (Trc.pure rfl rfl rfl (.inl fun _ => s_pickF (v := .bool false) rfl rfl) (Trc.nil (fun _ => trivial))))))))))))))))))))))))) rfl (by decide +kernel) mixed ?_
        refine f_keep [0, 2, 3, 4, 10, 11, 40] ?_
        exact s124_j2 happ _ (fun v1_ v2_ v3_ v4_ v5_ H_ => ih v1_ v2_ v3_ v4_ v5_ H_) v1 v2 v3 v4 v5 (w64 ((w64 (2 * v5)) + 1)) false H

theorem sim124 {app : App} (happ : AppSim Try.prog app) {a0 : Sl} {a1 : Int} {a2 : Int} {a3 : Int} {a4 : AV} {H : Hp} {p : Unit × Hp} (h : r124 app a0 a1 a2 a3 a4 H = some p) : CallSim Try.prog 124 [.sl a0, .int .i64 a1, .int .i64 a2, .int .i64 a3, a4] H (.tup []) p.2 := by
  refine callSim (fn := Try.f124) (ret := ret124) Try.func124 rfl Try.ntmps124 rfl ?_ h
  unfold r124
  refine f_seq ?_
  refine f_region ?_
  refine f_op rfl rfl (s_mv (v := .int .i64 a1) rfl) ?_
  refine f_op rfl rfl (s_as (v := .int .i64 a1) rfl) ?_
  refine f_nil ?_
  refine f_block ?_
  refine f_loop ?_
  refine f_keep [0, 2, 3, 4, 10] ?_
  exact s124_l0 happ FUEL a0 a2 a3 a4 a1 H

end Go.Lt.P2
