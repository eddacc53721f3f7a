/- PRINTED BY A PROGRAM OF OURS: what each function that 'CutsMoved' reaches computes on the abstract heap, and that the translated code does just that. Nothing is asked of the input. -/
import Derived.Test.YteefkljbmjjncaaG16P3
set_option linter.unusedVariables false
set_option linter.unusedSimpArgs false
set_option maxRecDepth 100000
set_option maxHeartbeats 4000000
namespace Go.Lt.P2
open Go Go.Lt Go.Proofs
/- 115 slices.heapSortCmpFunc[congou/cuts.Point] -/
theorem ok115 : FnOk Try.prog 115 := ⟨⟨Try.f115, Try.func115, by kernel_rfl, rfl⟩⟩
theorem s115_l1 {app : App} (happ : AppSim Try.prog app) : ∀ (k_ : Nat) (v1 : Sl) (v2 : AV) (v3 : Int) (v4 : Int) (v5 : Int) (H : Hp), Fin Try.prog Try.f115 ret115 60 (todoAt (bodyOf Try.f115) [1, 1, 1, 1, 1, 0, 0] []) [(0, .sl v1), (3, v2), (8, .int .i64 v3), (9, .int .i64 v4), (12, .int .i64 v5)] H (r115_l1 app k_ v1 v2 v3 v4 v5 H) := by
  intro k_
  induction k_ with
  | zero => intro _ _ _ _ _ _; exact f_none
  | succ k_ ih =>
    intro v1 v2 v3 v4 v5 H
    rw [r115_l1]
    refine f_seq ?_
    refine f_seq ?_
    refine f_region ?_
    refine f_op rfl rfl (s_mv (v := .int .i64 v5) rfl) ?_
    refine f_op rfl rfl (s_geq rfl rfl) ?_
    refine f_nil ?_
    refine f_if (fun h1 => ?_) (fun h1 => ?_)
    · skip
      refine f_know 33 rfl (dec_true h1) ?_
      refine f_condT rfl ?_
      refine f_skip ?_
      refine f_seq ?_
      refine f_block ?_
      refine f_seq ?_
      refine f_ck fun g2 => ?_
      refine f_bind ?_; intro x3 hx3
      refine f_bind ?_; intro x4 hx4
      refine f_bind ?_; intro x5 hx5
      refine f_bind ?_; intro x6 hx6
      refine f_ck fun g7 => ?_
      refine f_bind ?_; intro x8 hx8
      refine f_bind ?_; intro x9 hx9
      refine f_bind ?_; intro x10 hx10
      refine f_bind ?_; intro x11 hx11
      refine f_ck fun g12 => ?_
      refine f_bind ?_; intro H13 hH13
      refine f_ck fun g14 => ?_
      refine f_bind ?_; intro H15 hH15
      refine f_draw (Φ := fun _ => True) (lim := 1000000) [0, 0, 0, 0, 0, 0, 0, 0, 0, 0, 0, 1, 0, 0, 0, 1, 0, 2, 0, 2] (Trc.pure rfl rfl rfl (.inl fun _ => s_mv (v := .sl v1) rfl) (Trc.pure rfl rfl rfl (.inl fun _ => s_mv (v := .int .i64 v3) rfl) (Trc.pure rfl rfl rfl (.inl fun _ => s_mv (v := .sl v1) rfl) (Trc.pure rfl rfl rfl (.inl fun _ => s_mv (v := .int .i64 v3) rfl) (Trc.pure rfl rfl rfl (.inl fun _ => s_mv (v := .int .i64 v5) rfl) (Trc.pure rfl rfl rfl (.inl fun _ => s_add rfl rfl) (Trc.pure rfl rfl rfl (.inl fun _ => s_mv (v := .sl v1) rfl) (Trc.pure rfl rfl rfl (.inl fun _ => s_mv (v := .int .i64 v3) rfl) (Trc.pure rfl rfl rfl (.inl fun _ => s_mv (v := .int .i64 v5) rfl) (Trc.pure rfl rfl rfl (.inl fun _ => s_add rfl rfl) (Trc.pure rfl rfl rfl (.inl fun _ => s_idx Try.underlying83 ty32 rfl rfl g2) (Trc.read rfl rfl rfl (s_loads Try.underlying32 rfl ty32 rfl (lds_cons (ldI_eq hx3) (lds_cons (ldI_eq hx4) (lds_cons (ldI_eq hx5) (lds_cons (ldI_eq hx6) (lds_nil)))))) (Trc.pure rfl rfl rfl (.inl fun _ => s_mv (v := .sl v1) rfl) (Trc.pure rfl rfl rfl (.inl fun _ => s_mv (v := .int .i64 v3) rfl) (Trc.pure rfl rfl rfl (.inl fun _ => s_idx Try.underlying83 ty32 rfl rfl g7) (Trc.read rfl rfl rfl (s_loads Try.underlying32 rfl ty32 rfl (lds_cons (ldI_eq hx8) (lds_cons (ldI_eq hx9) (lds_cons (ldI_eq hx10) (lds_cons (ldI_eq hx11) (lds_nil)))))) (Trc.pure rfl rfl rfl (.inl fun _ => s_idx Try.underlying83 ty32 rfl rfl g12) (Trc.eff rfl rfl rfl (fun _ => trivial) (s_stores ty32 rfl rfl rfl rfl hH13 (Nat.le_of_eq (sts_mono hH13).symm)) (Trc.pure rfl rfl rfl (.inl fun _ => s_idx Try.underlying83 ty32 rfl rfl g14) (Trc.eff rfl rfl rfl (fun _ => trivial) (s_stores ty32 rfl rfl rfl rfl hH15 (Nat.le_of_eq (sts_mono hH15).symm)) (Trc.nil (fun _ => trivial)))))))))))))))))))))) rfl (by decide +kernel) mixed ?_
      refine f_region ?_
      refine f_op rfl rfl (s_mv (v := .sl v1) rfl) ?_
      refine f_op rfl rfl (s_mv (v := .int .i64 v4) rfl) ?_
      refine f_op rfl rfl (s_mv (v := .int .i64 v5) rfl) ?_
      refine f_op rfl rfl (s_mv (v := .int .i64 v3) rfl) ?_
      refine f_op rfl rfl (s_mv (v := v2) rfl) ?_
      refine o_bind ?_; intro p16 hp16
      refine f_op rfl rfl (s_callF rfl ok124 (sim124 happ hp16)) ?_
      refine f_nil ?_
      refine f_inBlock ?_
      refine f_region ?_
      refine f_op rfl rfl (s_mv (v := .int .i64 v5) rfl) ?_
      refine f_op rfl rfl (s_sub rfl rfl) ?_
      refine f_op rfl rfl (s_as (v := .int .i64 (w64 (v5 - 1))) rfl) ?_
      refine f_nil ?_
      refine f_inLoop ?_
      refine f_keep [0, 3, 8, 9, 12] ?_
      exact ih v1 v2 v3 v4 (w64 (v5 - 1)) p16.2
    · skip
      refine f_know 33 rfl (dec_false h1) ?_
      refine f_condF rfl ?_
      refine f_exit rfl ?_
      exact f_end (.nil) rfl

theorem s115_l0 {app : App} (happ : AppSim Try.prog app) : ∀ (k_ : Nat) (v1 : Sl) (v2 : AV) (v3 : Int) (v4 : Int) (v5 : Int) (v6 : Int) (H : Hp), Fin Try.prog Try.f115 ret115 60 (todoAt (bodyOf Try.f115) [1, 1, 1, 0, 1, 0, 0] []) [(0, .sl v1), (3, v2), (8, .int .i64 v3), (9, .int .i64 v4), (10, .int .i64 v5), (11, .int .i64 v6)] H (r115_l0 app k_ v1 v2 v3 v4 v5 v6 H) := by
  intro k_
  induction k_ with
  | zero => intro _ _ _ _ _ _ _; exact f_none
  | succ k_ ih =>
    intro v1 v2 v3 v4 v5 v6 H
    rw [r115_l0]
    refine f_seq ?_
    refine f_seq ?_
    refine f_region ?_
    refine f_op rfl rfl (s_mv (v := .int .i64 v6) rfl) ?_
    refine f_op rfl rfl (s_geq rfl rfl) ?_
    refine f_nil ?_
    refine f_if (fun h1 => ?_) (fun h1 => ?_)
    · skip
      refine f_know 21 rfl (dec_true h1) ?_
      refine f_condT rfl ?_
      refine f_skip ?_
      refine f_seq ?_
      refine f_block ?_
      refine f_region ?_
      refine f_op rfl rfl (s_mv (v := .sl v1) rfl) ?_
      refine f_op rfl rfl (s_mv (v := .int .i64 v6) rfl) ?_
      refine f_op rfl rfl (s_mv (v := .int .i64 v5) rfl) ?_
      refine f_op rfl rfl (s_mv (v := .int .i64 v3) rfl) ?_
      refine f_op rfl rfl (s_mv (v := v2) rfl) ?_
      refine o_bind ?_; intro p2 hp2
      refine f_op rfl rfl (s_callF rfl ok124 (sim124 happ hp2)) ?_
      refine f_nil ?_
      refine f_inBlock ?_
      refine f_region ?_
      refine f_op rfl rfl (s_mv (v := .int .i64 v6) rfl) ?_
      refine f_op rfl rfl (s_sub rfl rfl) ?_
      refine f_op rfl rfl (s_as (v := .int .i64 (w64 (v6 - 1))) rfl) ?_
      refine f_nil ?_
      refine f_inLoop ?_
      refine f_keep [0, 3, 8, 9, 10, 11] ?_
      exact ih v1 v2 v3 v4 v5 (w64 (v6 - 1)) p2.2
    · skip
      refine f_know 21 rfl (dec_false h1) ?_
      refine f_condF rfl ?_
      refine f_exit rfl ?_
      refine f_seq ?_
      refine f_region ?_
      refine f_op rfl rfl (s_mv (v := .int .i64 v5) rfl) ?_
      refine f_op rfl rfl (s_sub rfl rfl) ?_
      refine f_op rfl rfl (s_as (v := .int .i64 (w64 (v5 - 1))) rfl) ?_
      refine f_nil ?_
      refine f_block ?_
      refine f_loop ?_
      refine f_keep [0, 3, 8, 9, 12] ?_
      exact s115_l1 happ FUEL v1 v2 v3 v4 (w64 (v5 - 1)) H

theorem sim115 {app : App} (happ : AppSim Try.prog app) {a0 : Sl} {a1 : Int} {a2 : Int} {a3 : AV} {H : Hp} {p : Unit × Hp} (h : r115 app a0 a1 a2 a3 H = some p) : CallSim Try.prog 115 [.sl a0, .int .i64 a1, .int .i64 a2, a3] H (.tup []) p.2 := by
  refine callSim (fn := Try.f115) (ret := ret115) Try.func115 rfl Try.ntmps115 rfl ?_ h
  unfold r115
  refine f_seq ?_
  refine f_region ?_
  refine f_op rfl rfl (s_mv (v := .int .i64 a1) rfl) ?_
  refine f_op rfl rfl (s_as (v := .int .i64 a1) rfl) ?_
  refine f_nil ?_
  refine f_seq ?_
  refine f_region ?_
  refine f_op rfl rfl (s_as (v := .int .i64 0) rfl) ?_
  refine f_nil ?_
  refine f_seq ?_
  refine f_region ?_
  refine f_op rfl rfl (s_mv (v := .int .i64 a2) rfl) ?_
  refine f_op rfl rfl (s_mv (v := .int .i64 a1) rfl) ?_
  refine f_op rfl rfl (s_sub rfl rfl) ?_
  refine f_op rfl rfl (s_as (v := .int .i64 (w64 (a2 - a1))) rfl) ?_
  refine f_nil ?_
  refine f_seq ?_
  refine f_seq ?_
  refine f_region ?_
  refine f_op rfl rfl (s_mv (v := .int .i64 (w64 (a2 - a1))) rfl) ?_
  refine f_op rfl rfl (s_sub rfl rfl) ?_
  refine f_op rfl rfl (s_quo rfl rfl (by decide)) ?_
  refine f_op rfl rfl (s_as (v := .int .i64 (w64 (Int.tdiv (w64 ((w64 (a2 - a1)) - 1)) 2))) rfl) ?_
  refine f_nil ?_
  refine f_block ?_
  refine f_loop ?_
  refine f_keep [0, 3, 8, 9, 10, 11] ?_
  exact s115_l0 happ FUEL a0 a3 a1 0 (w64 (a2 - a1)) (w64 (Int.tdiv (w64 ((w64 (a2 - a1)) - 1)) 2)) H

/- 122 math/bits.Len32 -/
theorem ok122 : FnOk Try.prog 122 := ⟨⟨Try.f122, Try.func122, by kernel_rfl, rfl⟩⟩
theorem s122_j0 (v1 : Int) (v2 : Int) (H : Hp) : Fin Try.prog Try.f122 ret122 19 (todoAt (bodyOf Try.f122) [1, 1, 1] []) [(0, .int .u32 v1), (2, .int .i64 v2)] H (r122_j0 v1 v2 H) := by
  unfold r122_j0
  refine f_seq ?_
  refine f_region ?_
  refine f_op rfl rfl (s_mv (v := .int .i64 v2) rfl) ?_
  refine f_op rfl rfl (s_mv (v := .int .u32 v1) rfl) ?_
  refine f_op rfl rfl (s_convInt Try.underlying157 Try.underlying5 rfl) ?_
  refine o_ck fun g1 => ?_
  refine f_op rfl rfl (s_indexStr Try.underlying9 rfl rfl g1) ?_
  refine f_op rfl rfl (s_convInt Try.underlying5 Try.underlying3 rfl) ?_
  refine f_op rfl rfl (s_add rfl rfl) ?_
  refine f_op rfl rfl (s_as (v := .int .i64 (w64 (v2 + (w64 (bt (strC Try.f122 [1, 1, 1, 0] 3 0) (IntKind.wrap .u8 (v1))))))) rfl) ?_
  refine f_nil ?_
  exact f_ret (.tmp rfl (.nil)) rfl

theorem s122_j1 (v1 : Int) (v2 : Int) (H : Hp) : Fin Try.prog Try.f122 ret122 19 (todoAt (bodyOf Try.f122) [1, 1] []) [(0, .int .u32 v1), (2, .int .i64 v2)] H (r122_j1 v1 v2 H) := by
  unfold r122_j1
  refine f_seq ?_
  refine f_seq ?_
  refine f_region ?_
  refine f_op rfl rfl (s_mv (v := .int .u32 v1) rfl) ?_
  refine f_op rfl rfl (s_geq rfl rfl) ?_
  refine f_nil ?_
  refine f_if (fun h1 => ?_) (fun h1 => ?_)
  · skip
    refine f_know 8 rfl (dec_true h1) ?_
    refine f_condT rfl ?_
    refine f_seq ?_
    refine f_region ?_
    refine f_op rfl rfl (s_mv (v := .int .u32 v1) rfl) ?_
    refine f_op rfl rfl (s_shr rfl rfl (by decide)) ?_
    refine f_op rfl rfl (s_as (v := .int .u32 (shrOf .u32 v1 8)) rfl) ?_
    refine f_nil ?_
    refine f_region ?_
    refine f_op rfl rfl (s_mv (v := .int .i64 v2) rfl) ?_
    refine f_op rfl rfl (s_add rfl rfl) ?_
    refine f_op rfl rfl (s_as (v := .int .i64 (w64 (v2 + 8))) rfl) ?_
    refine f_nil ?_
    refine f_keep [0, 2] ?_
    exact s122_j0 (shrOf .u32 v1 8) (w64 (v2 + 8)) H
  · skip
    refine f_know 8 rfl (dec_false h1) ?_
    refine f_condF rfl ?_
    refine f_skip ?_
    refine f_keep [0, 2] ?_
    exact s122_j0 v1 v2 H

theorem sim122 {a0 : Int} {H : Hp} {p : Int × Hp} (h : r122 a0 H = some p) : CallSim Try.prog 122 [.int .u32 a0] H (.int .i64 p.1) p.2 := by
  refine callSim (fn := Try.f122) (ret := ret122) Try.func122 rfl Try.ntmps122 rfl ?_ h
  unfold r122
  refine f_seq ?_
  refine f_region ?_
  refine f_op rfl rfl (s_as (v := .int .i64 0) rfl) ?_
  refine f_nil ?_
  refine f_seq ?_
  refine f_seq ?_
  refine f_region ?_
  refine f_op rfl rfl (s_mv (v := .int .u32 a0) rfl) ?_
  refine f_op rfl rfl (s_geq rfl rfl) ?_
  refine f_nil ?_
  refine f_if (fun h1 => ?_) (fun h1 => ?_)
  · skip
    refine f_know 4 rfl (dec_true h1) ?_
    refine f_condT rfl ?_
    refine f_seq ?_
    refine f_region ?_
    refine f_op rfl rfl (s_mv (v := .int .u32 a0) rfl) ?_
    refine f_op rfl rfl (s_shr rfl rfl (by decide)) ?_
    refine f_op rfl rfl (s_as (v := .int .u32 (shrOf .u32 a0 16)) rfl) ?_
    refine f_nil ?_
    refine f_region ?_
    refine f_op rfl rfl (s_as (v := .int .i64 16) rfl) ?_
    refine f_nil ?_
    refine f_keep [0, 2] ?_
    exact s122_j1 (shrOf .u32 a0 16) 16 H
  · skip
    refine f_know 4 rfl (dec_false h1) ?_
    refine f_condF rfl ?_
    refine f_skip ?_
    refine f_keep [0, 2] ?_
    exact s122_j1 a0 0 H

/- 123 math/bits.Len64 -/
theorem ok123 : FnOk Try.prog 123 := ⟨⟨Try.f123, Try.func123, by kernel_rfl, rfl⟩⟩
theorem s123_j0 (v1 : Int) (v2 : Int) (H : Hp) : Fin Try.prog Try.f123 ret123 25 (todoAt (bodyOf Try.f123) [1, 1, 1, 1] []) [(0, .int .u64 v1), (2, .int .i64 v2)] H (r123_j0 v1 v2 H) := by
  unfold r123_j0
  refine f_seq ?_
  refine f_region ?_
  refine f_op rfl rfl (s_mv (v := .int .i64 v2) rfl) ?_
  refine f_op rfl rfl (s_mv (v := .int .u64 v1) rfl) ?_
  refine f_op rfl rfl (s_convInt Try.underlying159 Try.underlying5 rfl) ?_
  refine o_ck fun g1 => ?_
  refine f_op rfl rfl (s_indexStr Try.underlying9 rfl rfl g1) ?_
  refine f_op rfl rfl (s_convInt Try.underlying5 Try.underlying3 rfl) ?_
  refine f_op rfl rfl (s_add rfl rfl) ?_
  refine f_op rfl rfl (s_as (v := .int .i64 (w64 (v2 + (w64 (bt (strC Try.f123 [1, 1, 1, 1, 0] 3 0) (IntKind.wrap .u8 (v1))))))) rfl) ?_
  refine f_nil ?_
  exact f_ret (.tmp rfl (.nil)) rfl

theorem s123_j1 (v1 : Int) (v2 : Int) (H : Hp) : Fin Try.prog Try.f123 ret123 25 (todoAt (bodyOf Try.f123) [1, 1, 1] []) [(0, .int .u64 v1), (2, .int .i64 v2)] H (r123_j1 v1 v2 H) := by
  unfold r123_j1
  refine f_seq ?_
  refine f_seq ?_
  refine f_region ?_
  refine f_op rfl rfl (s_mv (v := .int .u64 v1) rfl) ?_
  refine f_op rfl rfl (s_geq rfl rfl) ?_
  refine f_nil ?_
  refine f_if (fun h1 => ?_) (fun h1 => ?_)
  · skip
    refine f_know 14 rfl (dec_true h1) ?_
    refine f_condT rfl ?_
    refine f_seq ?_
    refine f_region ?_
    refine f_op rfl rfl (s_mv (v := .int .u64 v1) rfl) ?_
    refine f_op rfl rfl (s_shr rfl rfl (by decide)) ?_
    refine f_op rfl rfl (s_as (v := .int .u64 (shrOf .u64 v1 8)) rfl) ?_
    refine f_nil ?_
    refine f_region ?_
    refine f_op rfl rfl (s_mv (v := .int .i64 v2) rfl) ?_
    refine f_op rfl rfl (s_add rfl rfl) ?_
    refine f_op rfl rfl (s_as (v := .int .i64 (w64 (v2 + 8))) rfl) ?_
    refine f_nil ?_
    refine f_keep [0, 2] ?_
    exact s123_j0 (shrOf .u64 v1 8) (w64 (v2 + 8)) H
  · skip
    refine f_know 14 rfl (dec_false h1) ?_
    refine f_condF rfl ?_
    refine f_skip ?_
    refine f_keep [0, 2] ?_
    exact s123_j0 v1 v2 H

theorem s123_j2 (v1 : Int) (v2 : Int) (H : Hp) : Fin Try.prog Try.f123 ret123 25 (todoAt (bodyOf Try.f123) [1, 1] []) [(0, .int .u64 v1), (2, .int .i64 v2)] H (r123_j2 v1 v2 H) := by
  unfold r123_j2
  refine f_seq ?_
  refine f_seq ?_
  refine f_region ?_
  refine f_op rfl rfl (s_mv (v := .int .u64 v1) rfl) ?_
  refine f_op rfl rfl (s_geq rfl rfl) ?_
  refine f_nil ?_
  refine f_if (fun h1 => ?_) (fun h1 => ?_)
  · skip
    refine f_know 8 rfl (dec_true h1) ?_
    refine f_condT rfl ?_
    refine f_seq ?_
    refine f_region ?_
    refine f_op rfl rfl (s_mv (v := .int .u64 v1) rfl) ?_
    refine f_op rfl rfl (s_shr rfl rfl (by decide)) ?_
    refine f_op rfl rfl (s_as (v := .int .u64 (shrOf .u64 v1 16)) rfl) ?_
    refine f_nil ?_
    refine f_region ?_
    refine f_op rfl rfl (s_mv (v := .int .i64 v2) rfl) ?_
    refine f_op rfl rfl (s_add rfl rfl) ?_
    refine f_op rfl rfl (s_as (v := .int .i64 (w64 (v2 + 16))) rfl) ?_
    refine f_nil ?_
    refine f_keep [0, 2] ?_
    exact s123_j1 (shrOf .u64 v1 16) (w64 (v2 + 16)) H
  · skip
    refine f_know 8 rfl (dec_false h1) ?_
    refine f_condF rfl ?_
    refine f_skip ?_
    refine f_keep [0, 2] ?_
    exact s123_j1 v1 v2 H

theorem sim123 {a0 : Int} {H : Hp} {p : Int × Hp} (h : r123 a0 H = some p) : CallSim Try.prog 123 [.int .u64 a0] H (.int .i64 p.1) p.2 := by
  refine callSim (fn := Try.f123) (ret := ret123) Try.func123 rfl Try.ntmps123 rfl ?_ h
  unfold r123
  refine f_seq ?_
  refine f_region ?_
  refine f_op rfl rfl (s_as (v := .int .i64 0) rfl) ?_
  refine f_nil ?_
  refine f_seq ?_
  refine f_seq ?_
  refine f_region ?_
  refine f_op rfl rfl (s_mv (v := .int .u64 a0) rfl) ?_
  refine f_op rfl rfl (s_geq rfl rfl) ?_
  refine f_nil ?_
  refine f_if (fun h1 => ?_) (fun h1 => ?_)
  · skip
    refine f_know 4 rfl (dec_true h1) ?_
    refine f_condT rfl ?_
    refine f_seq ?_
    refine f_region ?_
    refine f_op rfl rfl (s_mv (v := .int .u64 a0) rfl) ?_
    refine f_op rfl rfl (s_shr rfl rfl (by decide)) ?_
    refine f_op rfl rfl (s_as (v := .int .u64 (shrOf .u64 a0 32)) rfl) ?_
    refine f_nil ?_
    refine f_region ?_
    refine f_op rfl rfl (s_as (v := .int .i64 32) rfl) ?_
    refine f_nil ?_
    refine f_keep [0, 2] ?_
    exact s123_j2 (shrOf .u64 a0 32) 32 H
  · skip
    refine f_know 4 rfl (dec_false h1) ?_
    refine f_condF rfl ?_
    refine f_skip ?_
    refine f_keep [0, 2] ?_
    exact s123_j2 a0 0 H

/- 109 math/bits.Len -/
theorem ok109 : FnOk Try.prog 109 := ⟨⟨Try.f109, Try.func109, by kernel_rfl, rfl⟩⟩
theorem sim109 {a0 : Int} {H : Hp} {p : Int × Hp} (h : r109 a0 H = some p) : CallSim Try.prog 109 [.int .u64 a0] H (.int .i64 p.1) p.2 := by
  refine callSim (fn := Try.f109) (ret := ret109) Try.func109 rfl Try.ntmps109 rfl ?_ h
  unfold r109
  refine f_seq ?_
  refine f_region ?_
  refine f_op rfl rfl (s_as (v := .int .i64 0) rfl) ?_
  refine f_nil ?_
  refine f_seq ?_
  refine f_condF rfl ?_
  refine f_skip ?_
  refine f_seq ?_
  refine f_region ?_
  refine f_op rfl rfl (s_mv (v := .int .u64 a0) rfl) ?_
  refine o_bind ?_; intro p1 hp1
  refine f_op rfl rfl (s_callF rfl ok123 (sim123 hp1)) ?_
  refine f_op rfl rfl (s_as (v := .int .i64 p1.1) rfl) ?_
  refine f_nil ?_
  exact f_ret (.tmp rfl (.nil)) rfl

/- 125 slices.nextPowerOfTwo -/
theorem ok125 : FnOk Try.prog 125 := ⟨⟨Try.f125, Try.func125, by kernel_rfl, rfl⟩⟩
theorem sim125 {a0 : Int} {H : Hp} {p : Int × Hp} (h : r125 a0 H = some p) : CallSim Try.prog 125 [.int .i64 a0] H (.int .u64 p.1) p.2 := by
  refine callSim (fn := Try.f125) (ret := ret125) Try.func125 rfl Try.ntmps125 rfl ?_ h
  unfold r125
  refine f_seq ?_
  refine f_region ?_
  refine f_op rfl rfl (s_as (v := .int .u64 0) rfl) ?_
  refine f_nil ?_
  refine f_seq ?_
  refine f_region ?_
  refine f_op rfl rfl (s_mv (v := .int .i64 a0) rfl) ?_
  refine f_op rfl rfl (s_convInt Try.underlying3 Try.underlying67 rfl) ?_
  refine o_bind ?_; intro p1 hp1
  refine f_op rfl rfl (s_callF rfl ok109 (sim109 hp1)) ?_
  refine o_ck fun g2 => ?_
  refine f_op rfl rfl (s_shl rfl rfl g2) ?_
  refine f_op rfl rfl (s_as (v := .int .u64 (shlOf .u64 1 p1.1)) rfl) ?_
  refine f_nil ?_
  exact f_ret (.tmp rfl (.nil)) rfl

/- 126 (*slices.xorshift).Next -/
theorem ok126 : FnOk Try.prog 126 := ⟨⟨Try.f126, Try.func126, by kernel_rfl, rfl⟩⟩
theorem sim126 {a0b : Nat} {a0o : Nat} {H : Hp} {p : Int × Hp} (h : r126 a0b a0o H = some p) : CallSim Try.prog 126 [.ptr a0b a0o] H (.int .u64 p.1) p.2 := by
  refine callSim (fn := Try.f126) (ret := ret126) Try.func126 rfl Try.ntmps126 rfl ?_ h
  unfold r126
  refine f_seq ?_
  refine f_region ?_
  refine f_op rfl rfl (s_as (v := .int .u64 0) rfl) ?_
  refine f_nil ?_
  refine f_seq ?_
  refine f_bind ?_; intro x1 hx1
  refine f_bind ?_; intro x2 hx2
  refine f_bind ?_; intro H3 hH3
  refine f_draw (Φ := fun _ => True) (lim := 1000000) [0, 0, 1, 0, 0, 1, 0, 0, 0, 2] (Trc.pure rfl rfl rfl (.inl fun _ => s_mv (v := .ptr a0b a0o) rfl) (Trc.pure rfl rfl rfl (.inl fun _ => s_nilCheck rfl) (Trc.read rfl rfl rfl (s_load Try.underlying160 rfl rfl (ldI_eq hx1)) (Trc.pure rfl rfl rfl (.inl fun _ => s_mv (v := .ptr a0b a0o) rfl) (Trc.pure rfl rfl rfl (.inl fun _ => s_nilCheck rfl) (Trc.read rfl rfl rfl (s_load Try.underlying160 rfl rfl (ldI_eq hx2)) (Trc.pure rfl rfl rfl (.inl fun _ => s_shl rfl rfl (by decide)) (Trc.pure rfl rfl rfl (.inl fun _ => s_xor rfl rfl) (Trc.pure rfl rfl rfl (.inl fun _ => s_nilCheck rfl) (Trc.eff rfl rfl rfl (fun _ => trivial) (s_store (s := 1) ty160 rfl rfl rfl hH3) (Trc.nil (fun _ => trivial)))))))))))) rfl (by decide +kernel) mixed ?_
  refine f_seq ?_
  refine f_bind ?_; intro x4 hx4
  refine f_bind ?_; intro x5 hx5
  refine f_bind ?_; intro H6 hH6
  refine f_draw (Φ := fun _ => True) (lim := 1000000) [0, 0, 1, 0, 0, 1, 0, 0, 0, 2] (Trc.pure rfl rfl rfl (.inl fun _ => s_mv (v := .ptr a0b a0o) rfl) (Trc.pure rfl rfl rfl (.inl fun _ => s_nilCheck rfl) (Trc.read rfl rfl rfl (s_load Try.underlying160 rfl rfl (ldI_eq hx4)) (Trc.pure rfl rfl rfl (.inl fun _ => s_mv (v := .ptr a0b a0o) rfl) (Trc.pure rfl rfl rfl (.inl fun _ => s_nilCheck rfl) (Trc.read rfl rfl rfl (s_load Try.underlying160 rfl rfl (ldI_eq hx5)) (Trc.pure rfl rfl rfl (.inl fun _ => s_shr rfl rfl (by decide)) (Trc.pure rfl rfl rfl (.inl fun _ => s_xor rfl rfl) (Trc.pure rfl rfl rfl (.inl fun _ => s_nilCheck rfl) (Trc.eff rfl rfl rfl (fun _ => trivial) (s_store (s := 1) ty160 rfl rfl rfl hH6) (Trc.nil (fun _ => trivial)))))))))))) rfl (by decide +kernel) mixed ?_
  refine f_seq ?_
  refine f_bind ?_; intro x7 hx7
  refine f_bind ?_; intro x8 hx8
  refine f_bind ?_; intro H9 hH9
  refine f_draw (Φ := fun _ => True) (lim := 1000000) [0, 0, 1, 0, 0, 1, 0, 0, 0, 2] (Trc.pure rfl rfl rfl (.inl fun _ => s_mv (v := .ptr a0b a0o) rfl) (Trc.pure rfl rfl rfl (.inl fun _ => s_nilCheck rfl) (Trc.read rfl rfl rfl (s_load Try.underlying160 rfl rfl (ldI_eq hx7)) (Trc.pure rfl rfl rfl (.inl fun _ => s_mv (v := .ptr a0b a0o) rfl) (Trc.pure rfl rfl rfl (.inl fun _ => s_nilCheck rfl) (Trc.read rfl rfl rfl (s_load Try.underlying160 rfl rfl (ldI_eq hx8)) (Trc.pure rfl rfl rfl (.inl fun _ => s_shl rfl rfl (by decide)) (Trc.pure rfl rfl rfl (.inl fun _ => s_xor rfl rfl) (Trc.pure rfl rfl rfl (.inl fun _ => s_nilCheck rfl) (Trc.eff rfl rfl rfl (fun _ => trivial) (s_store (s := 1) ty160 rfl rfl rfl hH9) (Trc.nil (fun _ => trivial)))))))))))) rfl (by decide +kernel) mixed ?_
  refine f_seq ?_
  refine f_region ?_
  refine f_op rfl rfl (s_mv (v := .ptr a0b a0o) rfl) ?_
  refine f_op rfl rfl (s_nilCheck rfl) ?_
  refine o_bind ?_; intro x10 hx10
  refine f_op rfl rfl (s_load Try.underlying160 rfl rfl (ldI_eq hx10)) ?_
  refine f_op rfl rfl (s_as (v := .int .u64 x10) rfl) ?_
  refine f_nil ?_
  exact f_ret (.tmp rfl (.nil)) rfl

/- 116 slices.breakPatternsCmpFunc[congou/cuts.Point] -/
theorem ok116 : FnOk Try.prog 116 := ⟨⟨Try.f116, Try.func116, by kernel_rfl, rfl⟩⟩
theorem s116_j1 (kt0 : Sl → Int → Int → Nat → Int → Int → Hp → Option (Unit × Hp)) (hkt0 : ∀ (v1 : Sl) (v2 : Int) (v3 : Int) (v4 : Nat) (v5 : Int) (v6 : Int) (H : Hp), Fin Try.prog Try.f116 ret116 67 (todoAt (bodyOf Try.f116) [1, 1, 0, 1, 1, 1, 0, 0] []) [(0, .sl v1), (1, .int .i64 v2), (8, .int .i64 v3), (9, .ptr v4 0), (10, .int .u64 v5), (11, .int .i64 v6)] H (kt0 v1 v2 v3 v4 v5 v6 H)) (v1 : Sl) (v2 : Int) (v3 : Int) (v4 : Nat) (v5 : Int) (v6 : Int) (v7 : Int) (H : Hp) : Fin Try.prog Try.f116 ret116 67 (todoAt (bodyOf Try.f116) [1, 1, 0, 1, 1, 1, 0, 0, 1, 0, 0, 1, 1] []) [(0, .sl v1), (1, .int .i64 v2), (8, .int .i64 v3), (9, .ptr v4 0), (10, .int .u64 v5), (11, .int .i64 v6), (12, .int .i64 v7)] H (r116_j1 kt0 v1 v2 v3 v4 v5 v6 v7 H) := by
  unfold r116_j1
  refine f_ck fun g1 => ?_
  refine f_bind ?_; intro x2 hx2
  refine f_bind ?_; intro x3 hx3
  refine f_bind ?_; intro x4 hx4
  refine f_bind ?_; intro x5 hx5
  refine f_ck fun g6 => ?_
  refine f_bind ?_; intro x7 hx7
  refine f_bind ?_; intro x8 hx8
  refine f_bind ?_; intro x9 hx9
  refine f_bind ?_; intro x10 hx10
  refine f_ck fun g11 => ?_
  refine f_bind ?_; intro H12 hH12
  refine f_ck fun g13 => ?_
  refine f_bind ?_; intro H14 hH14
  refine f_draw (Φ := fun _ => True) (lim := 1000000) [0, 0, 0, 0, 0, 0, 0, 0, 0, 0, 0, 1, 0, 0, 0, 1, 0, 2, 0, 2] (Trc.pure rfl rfl rfl (.inl fun _ => s_mv (v := .sl v1) rfl) (Trc.pure rfl rfl rfl (.inl fun _ => s_mv (v := .int .i64 v6) rfl) (Trc.pure rfl rfl rfl (.inl fun _ => s_mv (v := .sl v1) rfl) (Trc.pure rfl rfl rfl (.inl fun _ => s_mv (v := .int .i64 v2) rfl) (Trc.pure rfl rfl rfl (.inl fun _ => s_mv (v := .int .i64 v7) rfl) (Trc.pure rfl rfl rfl (.inl fun _ => s_add rfl rfl) (Trc.pure rfl rfl rfl (.inl fun _ => s_mv (v := .sl v1) rfl) (Trc.pure rfl rfl rfl (.inl fun _ => s_mv (v := .int .i64 v2) rfl) (Trc.pure rfl rfl rfl (.inl fun _ => s_mv (v := .int .i64 v7) rfl) (Trc.pure rfl rfl rfl (.inl fun _ => s_add rfl rfl) (Trc.pure rfl rfl rfl (.inl fun _ => s_idx Try.underlying83 ty32 rfl rfl g1) (Trc.read rfl rfl rfl (s_loads Try.underlying32 rfl ty32 rfl (lds_cons (ldI_eq hx2) (lds_cons (ldI_eq hx3) (lds_cons (ldI_eq hx4) (lds_cons (ldI_eq hx5) (lds_nil)))))) (Trc.pure rfl rfl rfl (.inl fun _ => s_mv (v := .sl v1) rfl) (Trc.pure rfl rfl rfl (.inl fun _ => s_mv (v := .int .i64 v6) rfl) (Trc.pure rfl rfl rfl (.inl fun _ => s_idx Try.underlying83 ty32 rfl rfl g6) (Trc.read rfl rfl rfl (s_loads Try.underlying32 rfl ty32 rfl (lds_cons (ldI_eq hx7) (lds_cons (ldI_eq hx8) (lds_cons (ldI_eq hx9) (lds_cons (ldI_eq hx10) (lds_nil)))))) (Trc.pure rfl rfl rfl (.inl fun _ => s_idx Try.underlying83 ty32 rfl rfl g11) (Trc.eff rfl rfl rfl (fun _ => trivial) (s_stores ty32 rfl rfl rfl rfl hH12 (Nat.le_of_eq (sts_mono hH12).symm)) (Trc.pure rfl rfl rfl (.inl fun _ => s_idx Try.underlying83 ty32 rfl rfl g13) (Trc.eff rfl rfl rfl (fun _ => trivial) (s_stores ty32 rfl rfl rfl rfl hH14 (Nat.le_of_eq (sts_mono hH14).symm)) (Trc.nil (fun _ => trivial)))))))))))))))))))))) rfl (by decide +kernel) mixed ?_
  refine f_inBlock ?_
  refine f_region ?_
  refine f_op rfl rfl (s_mv (v := .int .i64 v6) rfl) ?_
  refine f_op rfl rfl (s_add rfl rfl) ?_
  refine f_op rfl rfl (s_as (v := .int .i64 (w64 (v6 + 1))) rfl) ?_
  refine f_nil ?_
  refine f_inLoop ?_
  refine f_keep [0, 1, 8, 9, 10, 11] ?_
  exact hkt0 v1 v2 v3 v4 v5 (w64 (v6 + 1)) H14

theorem s116_l0 : ∀ (k_ : Nat) (v1 : Sl) (v2 : Int) (v3 : Int) (v4 : Nat) (v5 : Int) (v6 : Int) (H : Hp), Fin Try.prog Try.f116 ret116 67 (todoAt (bodyOf Try.f116) [1, 1, 0, 1, 1, 1, 0, 0] []) [(0, .sl v1), (1, .int .i64 v2), (8, .int .i64 v3), (9, .ptr v4 0), (10, .int .u64 v5), (11, .int .i64 v6)] H (r116_l0 k_ v1 v2 v3 v4 v5 v6 H) := by
  intro k_
  induction k_ with
  | zero => intro _ _ _ _ _ _ _; exact f_none
  | succ k_ ih =>
    intro v1 v2 v3 v4 v5 v6 H
    rw [r116_l0]
    refine f_seq ?_
    refine f_seq ?_
    refine f_region ?_
    refine f_op rfl rfl (s_mv (v := .int .i64 v6) rfl) ?_
    refine f_op rfl rfl (s_mv (v := .int .i64 v2) rfl) ?_
    refine f_op rfl rfl (s_mv (v := .int .i64 v3) rfl) ?_
    refine f_op rfl rfl (s_quo rfl rfl (by decide)) ?_
    refine f_op rfl rfl (s_mul rfl rfl) ?_
    refine f_op rfl rfl (s_add rfl rfl) ?_
    refine f_op rfl rfl (s_add rfl rfl) ?_
    refine f_op rfl rfl (s_leq rfl rfl) ?_
    refine f_nil ?_
    refine f_if (fun h1 => ?_) (fun h1 => ?_)
    · skip
      refine f_know 35 rfl (dec_true h1) ?_
      refine f_condT rfl ?_
      refine f_skip ?_
      refine f_seq ?_
      refine f_block ?_
      refine f_seq ?_
      refine f_region ?_
      refine o_bind ?_; intro p2 hp2
      refine f_op rfl rfl (s_callF rfl ok126 (sim126 hp2)) ?_
      refine f_op rfl rfl (s_mv (v := .int .u64 v5) rfl) ?_
      refine f_op rfl rfl (s_sub rfl rfl) ?_
      refine f_op rfl rfl (s_and rfl rfl) ?_
      refine f_op rfl rfl (s_convInt Try.underlying67 Try.underlying3 rfl) ?_
      refine f_op rfl rfl (s_as (v := .int .i64 (w64 (bitsOf .and .u64 p2.1 (IntKind.wrap .u64 (v5 - 1))))) rfl) ?_
      refine f_nil ?_
      refine f_seq ?_
      refine f_seq ?_
      refine f_region ?_
      refine f_op rfl rfl (s_mv (v := .int .i64 (w64 (bitsOf .and .u64 p2.1 (IntKind.wrap .u64 (v5 - 1))))) rfl) ?_
      refine f_op rfl rfl (s_mv (v := .int .i64 v3) rfl) ?_
      refine f_op rfl rfl (s_geq rfl rfl) ?_
      refine f_nil ?_
      refine f_if (fun h3 => ?_) (fun h3 => ?_)
      · skip
        refine f_know 45 rfl (dec_true h3) ?_
        refine f_condT rfl ?_
        refine f_region ?_
        refine f_op rfl rfl (s_mv (v := .int .i64 (w64 (bitsOf .and .u64 p2.1 (IntKind.wrap .u64 (v5 - 1))))) rfl) ?_
        refine f_op rfl rfl (s_mv (v := .int .i64 v3) rfl) ?_
        refine f_op rfl rfl (s_sub rfl rfl) ?_
        refine f_op rfl rfl (s_as (v := .int .i64 (w64 ((w64 (bitsOf .and .u64 p2.1 (IntKind.wrap .u64 (v5 - 1)))) - v3))) rfl) ?_
        refine f_nil ?_
        refine f_keep [0, 1, 8, 9, 10, 11, 12] ?_
        exact s116_j1 _ (fun v1_ v2_ v3_ v4_ v5_ v6_ H_ => ih v1_ v2_ v3_ v4_ v5_ v6_ H_) v1 v2 v3 v4 v5 v6 (w64 ((w64 (bitsOf .and .u64 p2.1 (IntKind.wrap .u64 (v5 - 1)))) - v3)) p2.2
      · skip
        refine f_know 45 rfl (dec_false h3) ?_
        refine f_condF rfl ?_
        refine f_skip ?_
        refine f_keep [0, 1, 8, 9, 10, 11, 12] ?_
        exact s116_j1 _ (fun v1_ v2_ v3_ v4_ v5_ v6_ H_ => ih v1_ v2_ v3_ v4_ v5_ v6_ H_) v1 v2 v3 v4 v5 v6 (w64 (bitsOf .and .u64 p2.1 (IntKind.wrap .u64 (v5 - 1)))) p2.2
    · skip
      refine f_know 35 rfl (dec_false h1) ?_
      refine f_condF rfl ?_
      refine f_exit rfl ?_
      exact f_end (.nil) rfl

theorem sim116 {a0 : Sl} {a1 : Int} {a2 : Int} {a3 : AV} {H : Hp} {p : Unit × Hp} (h : r116 a0 a1 a2 a3 H = some p) : CallSim Try.prog 116 [.sl a0, .int .i64 a1, .int .i64 a2, a3] H (.tup []) p.2 := by
  refine callSim (fn := Try.f116) (ret := ret116) Try.func116 rfl Try.ntmps116 rfl ?_ h
  unfold r116
  refine f_seq ?_
  refine f_region ?_
  refine f_op rfl rfl (s_mv (v := .int .i64 a2) rfl) ?_
  refine f_op rfl rfl (s_mv (v := .int .i64 a1) rfl) ?_
  refine f_op rfl rfl (s_sub rfl rfl) ?_
  refine f_op rfl rfl (s_as (v := .int .i64 (w64 (a2 - a1))) rfl) ?_
  refine f_nil ?_
  refine f_seq ?_
  refine f_region ?_
  refine f_op rfl rfl (s_mv (v := .int .i64 (w64 (a2 - a1))) rfl) ?_
  refine f_op rfl rfl (s_geq rfl rfl) ?_
  refine f_nil ?_
  refine f_if (fun h1 => ?_) (fun h1 => ?_)
  · skip
    refine f_know 17 rfl (dec_true h1) ?_
    refine f_condT rfl ?_
    refine f_seq ?_
    refine f_region ?_
    refine f_op rfl rfl (s_mv (v := .int .i64 (w64 (a2 - a1))) rfl) ?_
    refine f_op rfl rfl (s_convInt Try.underlying3 Try.underlying160 rfl) ?_
    refine f_op rfl rfl (s_alloc (zs := [.int .u64 0]) ty160 rfl rfl) ?_
    refine o_bind ?_; intro H2 hH2
    refine f_op rfl rfl (s_store (s := 1) ty160 rfl rfl rfl hH2) ?_
    refine f_nil ?_
    refine f_seq ?_
    refine f_region ?_
    refine f_op rfl rfl (s_mv (v := .int .i64 (w64 (a2 - a1))) rfl) ?_
    refine o_bind ?_; intro p3 hp3
    refine f_op rfl rfl (s_callF rfl ok125 (sim125 hp3)) ?_
    refine f_op rfl rfl (s_as (v := .int .u64 p3.1) rfl) ?_
    refine f_nil ?_
    refine f_seq ?_
    refine f_region ?_
    refine f_op rfl rfl (s_mv (v := .int .i64 a1) rfl) ?_
    refine f_op rfl rfl (s_mv (v := .int .i64 (w64 (a2 - a1))) rfl) ?_
    refine f_op rfl rfl (s_quo rfl rfl (by decide)) ?_
    refine f_op rfl rfl (s_mul rfl rfl) ?_
    refine f_op rfl rfl (s_add rfl rfl) ?_
    refine f_op rfl rfl (s_sub rfl rfl) ?_
    refine f_op rfl rfl (s_as (v := .int .i64 (w64 ((w64 (a1 + (w64 ((w64 (Int.tdiv (w64 (a2 - a1)) 4)) * 2)))) - 1))) rfl) ?_
    refine f_nil ?_
    refine f_block ?_
    refine f_loop ?_
    refine f_keep [0, 1, 8, 9, 10, 11] ?_
    exact s116_l0 FUEL a0 a1 (w64 (a2 - a1)) H.n p3.1 (w64 ((w64 (a1 + (w64 ((w64 (Int.tdiv (w64 (a2 - a1)) 4)) * 2)))) - 1)) p3.2
  · skip
    refine f_know 17 rfl (dec_false h1) ?_
    refine f_condF rfl ?_
    refine f_skip ?_
    exact f_end (.nil) rfl

/- 129 slices.order2CmpFunc[congou/cuts.Point] -/
theorem ok129 : FnOk Try.prog 129 := ⟨⟨Try.f129, Try.func129, by kernel_rfl, rfl⟩⟩
theorem sim129 {app : App} (happ : AppSim Try.prog app) {a0 : Sl} {a1 : Int} {a2 : Int} {a3b : Nat} {a3o : Nat} {a4 : AV} {H : Hp} {p : (Int × Int) × Hp} (h : r129 app a0 a1 a2 a3b a3o a4 H = some p) : CallSim Try.prog 129 [.sl a0, .int .i64 a1, .int .i64 a2, .ptr a3b a3o, a4] H (.tup [.int .i64 p.1.1, .int .i64 p.1.2]) p.2 := by
  refine callSim (fn := Try.f129) (ret := ret129) Try.func129 rfl Try.ntmps129 rfl ?_ h
  unfold r129
  refine f_seq ?_
  refine f_region ?_
  refine f_op rfl rfl (s_as (v := .int .i64 0) rfl) ?_
  refine f_op rfl rfl (s_as (v := .int .i64 0) rfl) ?_
  refine f_nil ?_
  refine f_seq ?_
  refine f_seq ?_
  refine f_ck fun g1 => ?_
  refine f_bind ?_; intro x2 hx2
  refine f_bind ?_; intro x3 hx3
  refine f_bind ?_; intro x4 hx4
  refine f_bind ?_; intro x5 hx5
  refine f_ck fun g6 => ?_
  refine f_bind ?_; intro x7 hx7
  refine f_bind ?_; intro x8 hx8
  refine f_bind ?_; intro x9 hx9
  refine f_bind ?_; intro x10 hx10
  refine f_bind ?_; intro p11 hp11
  refine f_bind ?_; intro x12 hx12
  refine f_draw (Φ := fun _ => True) (lim := 1000000) [0, 0, 0, 0, 1, 0, 0, 0, 1, 2, 0] (Trc.pure rfl rfl rfl (.inl fun _ => s_mv (v := a4) rfl) (Trc.pure rfl rfl rfl (.inl fun _ => s_mv (v := .sl a0) rfl) (Trc.pure rfl rfl rfl (.inl fun _ => s_mv (v := .int .i64 a2) rfl) (Trc.pure rfl rfl rfl (.inl fun _ => s_idx Try.underlying83 ty32 rfl rfl g1) (Trc.read rfl rfl rfl (s_loads Try.underlying32 rfl ty32 rfl (lds_cons (ldI_eq hx2) (lds_cons (ldI_eq hx3) (lds_cons (ldI_eq hx4) (lds_cons (ldI_eq hx5) (lds_nil)))))) (Trc.pure rfl rfl rfl (.inl fun _ => s_mv (v := .sl a0) rfl) (Trc.pure rfl rfl rfl (.inl fun _ => s_mv (v := .int .i64 a1) rfl) (Trc.pure rfl rfl rfl (.inl fun _ => s_idx Try.underlying83 ty32 rfl rfl g6) (Trc.read rfl rfl rfl (s_loads Try.underlying32 rfl ty32 rfl (lds_cons (ldI_eq hx7) (lds_cons (ldI_eq hx8) (lds_cons (ldI_eq hx9) (lds_cons (ldI_eq hx10) (lds_nil)))))) (Trc.eff rfl rfl rfl (fun _ => trivial) (s_callv happ rfl rfl hp11) (Trc.know 21 rfl (asI_eq hx12) (Trc.pure rfl rfl rfl (.inl fun _ => s_lss rfl rfl) (Trc.nil (fun _ => trivial)))))))))))))) rfl (by decide +kernel) mixed ?_
  refine f_if (fun h13 => ?_) (fun h13 => ?_)
  · skip
    refine f_know 22 rfl (dec_true h13) ?_
    refine f_condT rfl ?_
    refine f_seq ?_
    refine f_region ?_
    refine f_op rfl rfl (s_mv (v := .ptr a3b a3o) rfl) ?_
    refine f_op rfl rfl (s_nilCheck rfl) ?_
    refine o_bind ?_; intro x14 hx14
    refine f_op rfl rfl (s_load Try.underlying3 rfl rfl (ldI_eq hx14)) ?_
    refine f_op rfl rfl (s_add rfl rfl) ?_
    refine f_op rfl rfl (s_nilCheck rfl) ?_
    refine o_bind ?_; intro H15 hH15
    refine f_op rfl rfl (s_store (s := 1) ty3 rfl rfl rfl hH15) ?_
    refine f_nil ?_
    refine f_seq ?_
    refine f_region ?_
    refine f_op rfl rfl (s_mv (v := .int .i64 a2) rfl) ?_
    refine f_op rfl rfl (s_mv (v := .int .i64 a1) rfl) ?_
    refine f_op rfl rfl (s_as (v := .int .i64 a2) rfl) ?_
    refine f_op rfl rfl (s_as (v := .int .i64 a1) rfl) ?_
    refine f_nil ?_
    exact f_ret (.tmp rfl (.tmp rfl (.nil))) rfl
  · skip
    refine f_know 22 rfl (dec_false h13) ?_
    refine f_condF rfl ?_
    refine f_skip ?_
    refine f_seq ?_
    refine f_region ?_
    refine f_op rfl rfl (s_mv (v := .int .i64 a1) rfl) ?_
    refine f_op rfl rfl (s_mv (v := .int .i64 a2) rfl) ?_
    refine f_op rfl rfl (s_as (v := .int .i64 a1) rfl) ?_
    refine f_op rfl rfl (s_as (v := .int .i64 a2) rfl) ?_
    refine f_nil ?_
    exact f_ret (.tmp rfl (.tmp rfl (.nil))) rfl

/- 128 slices.medianCmpFunc[congou/cuts.Point] -/
theorem ok128 : FnOk Try.prog 128 := ⟨⟨Try.f128, Try.func128, by kernel_rfl, rfl⟩⟩
theorem sim128 {app : App} (happ : AppSim Try.prog app) {a0 : Sl} {a1 : Int} {a2 : Int} {a3 : Int} {a4b : Nat} {a4o : Nat} {a5 : AV} {H : Hp} {p : Int × Hp} (h : r128 app a0 a1 a2 a3 a4b a4o a5 H = some p) : CallSim Try.prog 128 [.sl a0, .int .i64 a1, .int .i64 a2, .int .i64 a3, .ptr a4b a4o, a5] H (.int .i64 p.1) p.2 := by
  refine callSim (fn := Try.f128) (ret := ret128) Try.func128 rfl Try.ntmps128 rfl ?_ h
  unfold r128
  refine f_seq ?_
  refine f_region ?_
  refine f_op rfl rfl (s_as (v := .int .i64 0) rfl) ?_
  refine f_nil ?_
  refine f_seq ?_
  refine f_region ?_
  refine f_op rfl rfl (s_mv (v := .sl a0) rfl) ?_
  refine f_op rfl rfl (s_mv (v := .int .i64 a1) rfl) ?_
  refine f_op rfl rfl (s_mv (v := .int .i64 a2) rfl) ?_
  refine f_op rfl rfl (s_mv (v := .ptr a4b a4o) rfl) ?_
  refine f_op rfl rfl (s_mv (v := a5) rfl) ?_
  refine o_bind ?_; intro p1 hp1
  refine f_op rfl rfl (s_callF rfl ok129 (sim129 happ hp1)) ?_
  refine f_op rfl rfl (s_mv (v := .tup [.int .i64 p1.1.1, .int .i64 p1.1.2]) rfl) ?_
  refine f_op rfl rfl (s_extract (r := .int .i64 p1.1.1) rfl rfl) ?_
  refine f_op rfl rfl (s_extract (r := .int .i64 p1.1.2) rfl rfl) ?_
  refine f_op rfl rfl (s_as (v := .int .i64 p1.1.1) rfl) ?_
  refine f_op rfl rfl (s_as (v := .int .i64 p1.1.2) rfl) ?_
  refine f_nil ?_
  refine f_seq ?_
  refine f_region ?_
  refine f_op rfl rfl (s_mv (v := .sl a0) rfl) ?_
  refine f_op rfl rfl (s_mv (v := .int .i64 p1.1.2) rfl) ?_
  refine f_op rfl rfl (s_mv (v := .int .i64 a3) rfl) ?_
  refine f_op rfl rfl (s_mv (v := .ptr a4b a4o) rfl) ?_
  refine f_op rfl rfl (s_mv (v := a5) rfl) ?_
  refine o_bind ?_; intro p2 hp2
  refine f_op rfl rfl (s_callF rfl ok129 (sim129 happ hp2)) ?_
  refine f_op rfl rfl (s_mv (v := .tup [.int .i64 p2.1.1, .int .i64 p2.1.2]) rfl) ?_
  refine f_op rfl rfl (s_extract (r := .int .i64 p2.1.1) rfl rfl) ?_
  refine f_op rfl rfl (s_extract (r := .int .i64 p2.1.2) rfl rfl) ?_
  refine f_op rfl rfl (s_as (v := .int .i64 p2.1.1) rfl) ?_
  refine f_op rfl rfl (s_as (v := .int .i64 p2.1.2) rfl) ?_
  refine f_nil ?_
  refine f_seq ?_
  refine f_region ?_
  refine f_op rfl rfl (s_mv (v := .sl a0) rfl) ?_
  refine f_op rfl rfl (s_mv (v := .int .i64 p1.1.1) rfl) ?_
  refine f_op rfl rfl (s_mv (v := .int .i64 p2.1.1) rfl) ?_
  refine f_op rfl rfl (s_mv (v := .ptr a4b a4o) rfl) ?_
  refine f_op rfl rfl (s_mv (v := a5) rfl) ?_
  refine o_bind ?_; intro p3 hp3
  refine f_op rfl rfl (s_callF rfl ok129 (sim129 happ hp3)) ?_
  refine f_op rfl rfl (s_mv (v := .tup [.int .i64 p3.1.1, .int .i64 p3.1.2]) rfl) ?_
  refine f_op rfl rfl (s_extract (r := .int .i64 p3.1.1) rfl rfl) ?_
  refine f_op rfl rfl (s_extract (r := .int .i64 p3.1.2) rfl rfl) ?_
  refine f_op rfl rfl (s_as (v := .int .i64 p3.1.1) rfl) ?_
  refine f_op rfl rfl (s_as (v := .int .i64 p3.1.2) rfl) ?_
  refine f_nil ?_
  refine f_seq ?_
  refine f_region ?_
  refine f_op rfl rfl (s_mv (v := .int .i64 p3.1.2) rfl) ?_
  refine f_op rfl rfl (s_as (v := .int .i64 p3.1.2) rfl) ?_
  refine f_nil ?_
  exact f_ret (.tmp rfl (.nil)) rfl

/- 127 slices.medianAdjacentCmpFunc[congou/cuts.Point] -/
theorem ok127 : FnOk Try.prog 127 := ⟨⟨Try.f127, Try.func127, by kernel_rfl, rfl⟩⟩
theorem sim127 {app : App} (happ : AppSim Try.prog app) {a0 : Sl} {a1 : Int} {a2b : Nat} {a2o : Nat} {a3 : AV} {H : Hp} {p : Int × Hp} (h : r127 app a0 a1 a2b a2o a3 H = some p) : CallSim Try.prog 127 [.sl a0, .int .i64 a1, .ptr a2b a2o, a3] H (.int .i64 p.1) p.2 := by
  refine callSim (fn := Try.f127) (ret := ret127) Try.func127 rfl Try.ntmps127 rfl ?_ h
  unfold r127
  refine f_seq ?_
  refine f_region ?_
  refine f_op rfl rfl (s_as (v := .int .i64 0) rfl) ?_
  refine f_nil ?_
  refine f_seq ?_
  refine f_region ?_
  refine f_op rfl rfl (s_mv (v := .sl a0) rfl) ?_
  refine f_op rfl rfl (s_mv (v := .int .i64 a1) rfl) ?_
  refine f_op rfl rfl (s_sub rfl rfl) ?_
  refine f_op rfl rfl (s_mv (v := .int .i64 a1) rfl) ?_
  refine f_op rfl rfl (s_mv (v := .int .i64 a1) rfl) ?_
  refine f_op rfl rfl (s_add rfl rfl) ?_
  refine f_op rfl rfl (s_mv (v := .ptr a2b a2o) rfl) ?_
  refine f_op rfl rfl (s_mv (v := a3) rfl) ?_
  refine o_bind ?_; intro p1 hp1
  refine f_op rfl rfl (s_callF rfl ok128 (sim128 happ hp1)) ?_
  refine f_op rfl rfl (s_as (v := .int .i64 p1.1) rfl) ?_
  refine f_nil ?_
  exact f_ret (.tmp rfl (.nil)) rfl

/- 117 slices.choosePivotCmpFunc[congou/cuts.Point] -/
theorem ok117 : FnOk Try.prog 117 := ⟨⟨Try.f117, Try.func117, by kernel_rfl, rfl⟩⟩
theorem s117_j1 {app : App} (happ : AppSim Try.prog app) (v1 : Nat) (v2 : Int) (H : Hp) : Fin Try.prog Try.f117 ret117 63 (todoAt (bodyOf Try.f117) [1, 1, 1, 1, 1, 1, 1] []) [(11, .ptr v1 0), (13, .int .i64 v2)] H (r117_j1 app v1 v2 H) := by
  unfold r117_j1
  refine f_seq ?_
  refine f_region ?_
  refine o_bind ?_; intro x1 hx1
  refine f_op rfl rfl (s_load Try.underlying3 rfl rfl (ldI_eq hx1)) ?_
  refine f_nil ?_
  refine f_block ?_
  refine f_seq ?_
  refine f_region ?_
  refine f_op rfl rfl (s_eql rfl rfl) ?_
  refine f_op rfl rfl (s_as (v := .bool (decide (x1 = 0))) rfl) ?_
  refine f_nil ?_
  refine f_if (fun h2 => ?_) (fun h2 => ?_)
  · skip
    refine f_know 57 rfl (dec_true h2) ?_
    refine f_condT rfl ?_
    refine f_seq ?_
    refine f_region ?_
    refine f_op rfl rfl (s_mv (v := .int .i64 v2) rfl) ?_
    refine f_op rfl rfl (s_as (v := .int .i64 v2) rfl) ?_
    refine f_op rfl rfl (s_as (v := .int .i64 1) rfl) ?_
    refine f_nil ?_
    exact f_ret (.tmp rfl (.tmp rfl (.nil))) rfl
  · skip
    refine f_know 57 rfl (dec_false h2) ?_
    refine f_condF rfl ?_
    refine f_seq ?_
    refine f_region ?_
    refine f_op rfl rfl (s_eql rfl rfl) ?_
    refine f_op rfl rfl (s_as (v := .bool (decide (x1 = 12))) rfl) ?_
    refine f_nil ?_
    refine f_if (fun h3 => ?_) (fun h3 => ?_)
    · skip
      refine f_know 60 rfl (dec_true h3) ?_
      refine f_condT rfl ?_
      refine f_seq ?_
      refine f_region ?_
      refine f_op rfl rfl (s_mv (v := .int .i64 v2) rfl) ?_
      refine f_op rfl rfl (s_as (v := .int .i64 v2) rfl) ?_
      refine f_op rfl rfl (s_as (v := .int .i64 2) rfl) ?_
      refine f_nil ?_
      exact f_ret (.tmp rfl (.tmp rfl (.nil))) rfl
    · skip
      refine f_know 60 rfl (dec_false h3) ?_
      refine f_condF rfl ?_
      refine f_seq ?_
      refine f_region ?_
      refine f_op rfl rfl (s_mv (v := .int .i64 v2) rfl) ?_
      refine f_op rfl rfl (s_as (v := .int .i64 v2) rfl) ?_
      refine f_op rfl rfl (s_as (v := .int .i64 0) rfl) ?_
      refine f_nil ?_
      exact f_ret (.tmp rfl (.tmp rfl (.nil))) rfl

theorem s117_j0 {app : App} (happ : AppSim Try.prog app) (v1 : Sl) (v2 : AV) (v3 : Nat) (v4 : Int) (v5 : Int) (v6 : Int) (H : Hp) : Fin Try.prog Try.f117 ret117 63 (todoAt (bodyOf Try.f117) [1, 1, 1, 1, 1, 1, 0, 1, 0, 1] []) [(0, .sl v1), (3, v2), (11, .ptr v3 0), (12, .int .i64 v4), (13, .int .i64 v5), (14, .int .i64 v6)] H (r117_j0 app v1 v2 v3 v4 v5 v6 H) := by
  unfold r117_j0
  refine f_region ?_
  refine f_op rfl rfl (s_mv (v := .sl v1) rfl) ?_
  refine f_op rfl rfl (s_mv (v := .int .i64 v4) rfl) ?_
  refine f_op rfl rfl (s_mv (v := .int .i64 v5) rfl) ?_
  refine f_op rfl rfl (s_mv (v := .int .i64 v6) rfl) ?_
  refine f_op rfl rfl (s_mv (v := v2) rfl) ?_
  refine o_bind ?_; intro p1 hp1
  refine f_op rfl rfl (s_callF rfl ok128 (sim128 happ hp1)) ?_
  refine f_op rfl rfl (s_as (v := .int .i64 p1.1) rfl) ?_
  refine f_nil ?_
  refine f_keep [11, 13] ?_
  exact s117_j1 happ v3 p1.1 p1.2

theorem sim117 {app : App} (happ : AppSim Try.prog app) {a0 : Sl} {a1 : Int} {a2 : Int} {a3 : AV} {H : Hp} {p : (Int × Int) × Hp} (h : r117 app a0 a1 a2 a3 H = some p) : CallSim Try.prog 117 [.sl a0, .int .i64 a1, .int .i64 a2, a3] H (.tup [.int .i64 p.1.1, .int .i64 p.1.2]) p.2 := by
  refine callSim (fn := Try.f117) (ret := ret117) Try.func117 rfl Try.ntmps117 rfl ?_ h
  unfold r117
  refine f_seq ?_
  refine f_region ?_
  refine f_op rfl rfl (s_as (v := .int .i64 0) rfl) ?_
  refine f_op rfl rfl (s_as (v := .int .i64 0) rfl) ?_
  refine f_nil ?_
  refine f_seq ?_
  refine f_region ?_
  refine f_op rfl rfl (s_mv (v := .int .i64 a2) rfl) ?_
  refine f_op rfl rfl (s_mv (v := .int .i64 a1) rfl) ?_
  refine f_op rfl rfl (s_sub rfl rfl) ?_
  refine f_op rfl rfl (s_as (v := .int .i64 (w64 (a2 - a1))) rfl) ?_
  refine f_nil ?_
  refine f_seq ?_
  refine f_region ?_
  refine f_op rfl rfl (s_alloc (zs := [.int .i64 0]) ty3 rfl rfl) ?_
  refine o_hp ?_; intro H1 hH1
  refine f_nil ?_
  refine f_seq ?_
  refine f_region ?_
  refine f_op rfl rfl (s_mv (v := .int .i64 a1) rfl) ?_
  refine f_op rfl rfl (s_mv (v := .int .i64 (w64 (a2 - a1))) rfl) ?_
  refine f_op rfl rfl (s_quo rfl rfl (by decide)) ?_
  refine f_op rfl rfl (s_mul rfl rfl) ?_
  refine f_op rfl rfl (s_add rfl rfl) ?_
  refine f_op rfl rfl (s_as (v := .int .i64 (w64 (a1 + (w64 ((w64 (Int.tdiv (w64 (a2 - a1)) 4)) * 1))))) rfl) ?_
  refine f_nil ?_
  refine f_seq ?_
  refine f_region ?_
  refine f_op rfl rfl (s_mv (v := .int .i64 a1) rfl) ?_
  refine f_op rfl rfl (s_mv (v := .int .i64 (w64 (a2 - a1))) rfl) ?_
  refine f_op rfl rfl (s_quo rfl rfl (by decide)) ?_
  refine f_op rfl rfl (s_mul rfl rfl) ?_
  refine f_op rfl rfl (s_add rfl rfl) ?_
  refine f_op rfl rfl (s_as (v := .int .i64 (w64 (a1 + (w64 ((w64 (Int.tdiv (w64 (a2 - a1)) 4)) * 2))))) rfl) ?_
  refine f_nil ?_
  refine f_seq ?_
  refine f_region ?_
  refine f_op rfl rfl (s_mv (v := .int .i64 a1) rfl) ?_
  refine f_op rfl rfl (s_mv (v := .int .i64 (w64 (a2 - a1))) rfl) ?_
  refine f_op rfl rfl (s_quo rfl rfl (by decide)) ?_
  refine f_op rfl rfl (s_mul rfl rfl) ?_
  refine f_op rfl rfl (s_add rfl rfl) ?_
  refine f_op rfl rfl (s_as (v := .int .i64 (w64 (a1 + (w64 ((w64 (Int.tdiv (w64 (a2 - a1)) 4)) * 3))))) rfl) ?_
  refine f_nil ?_
  refine f_seq ?_
  refine f_seq ?_
  refine f_region ?_
  refine f_op rfl rfl (s_mv (v := .int .i64 (w64 (a2 - a1))) rfl) ?_
  refine f_op rfl rfl (s_geq rfl rfl) ?_
  refine f_nil ?_
  refine f_if (fun h2 => ?_) (fun h2 => ?_)
  · skip
    refine f_know 34 rfl (dec_true h2) ?_
    refine f_condT rfl ?_
    refine f_seq ?_
    refine f_seq ?_
    refine f_region ?_
    refine f_op rfl rfl (s_mv (v := .int .i64 (w64 (a2 - a1))) rfl) ?_
    refine f_op rfl rfl (s_geq rfl rfl) ?_
    refine f_nil ?_
    refine f_if (fun h3 => ?_) (fun h3 => ?_)
    · skip
      refine f_know 36 rfl (dec_true h3) ?_
      refine f_condT rfl ?_
      refine f_seq ?_
      refine f_region ?_
      refine f_op rfl rfl (s_mv (v := .sl a0) rfl) ?_
      refine f_op rfl rfl (s_mv (v := .int .i64 (w64 (a1 + (w64 ((w64 (Int.tdiv (w64 (a2 - a1)) 4)) * 1))))) rfl) ?_
      refine f_op rfl rfl (s_mv (v := a3) rfl) ?_
      refine o_bind ?_; intro p4 hp4
      refine f_op rfl rfl (s_callF rfl ok127 (sim127 happ hp4)) ?_
      refine f_op rfl rfl (s_as (v := .int .i64 p4.1) rfl) ?_
      refine f_nil ?_
      refine f_seq ?_
      refine f_region ?_
      refine f_op rfl rfl (s_mv (v := .sl a0) rfl) ?_
      refine f_op rfl rfl (s_mv (v := .int .i64 (w64 (a1 + (w64 ((w64 (Int.tdiv (w64 (a2 - a1)) 4)) * 2))))) rfl) ?_
      refine f_op rfl rfl (s_mv (v := a3) rfl) ?_
      refine o_bind ?_; intro p5 hp5
      refine f_op rfl rfl (s_callF rfl ok127 (sim127 happ hp5)) ?_
      refine f_op rfl rfl (s_as (v := .int .i64 p5.1) rfl) ?_
      refine f_nil ?_
      refine f_region ?_
      refine f_op rfl rfl (s_mv (v := .sl a0) rfl) ?_
      refine f_op rfl rfl (s_mv (v := .int .i64 (w64 (a1 + (w64 ((w64 (Int.tdiv (w64 (a2 - a1)) 4)) * 3))))) rfl) ?_
      refine f_op rfl rfl (s_mv (v := a3) rfl) ?_
      refine o_bind ?_; intro p6 hp6
      refine f_op rfl rfl (s_callF rfl ok127 (sim127 happ hp6)) ?_
      refine f_op rfl rfl (s_as (v := .int .i64 p6.1) rfl) ?_
      refine f_nil ?_
      refine f_keep [0, 3, 11, 12, 13, 14] ?_
      exact s117_j0 happ a0 a3 H.n p4.1 p5.1 p6.1 p6.2
    · skip
      refine f_know 36 rfl (dec_false h3) ?_
      refine f_condF rfl ?_
      refine f_skip ?_
      refine f_keep [0, 3, 11, 12, 13, 14] ?_
      exact s117_j0 happ a0 a3 H.n (w64 (a1 + (w64 ((w64 (Int.tdiv (w64 (a2 - a1)) 4)) * 1)))) (w64 (a1 + (w64 ((w64 (Int.tdiv (w64 (a2 - a1)) 4)) * 2)))) (w64 (a1 + (w64 ((w64 (Int.tdiv (w64 (a2 - a1)) 4)) * 3)))) H1
  · skip
    refine f_know 34 rfl (dec_false h2) ?_
    refine f_condF rfl ?_
    refine f_skip ?_
    refine f_keep [11, 13] ?_
    exact s117_j1 happ H.n (w64 (a1 + (w64 ((w64 (Int.tdiv (w64 (a2 - a1)) 4)) * 2)))) H1

/- 118 slices.reverseRangeCmpFunc[congou/cuts.Point] -/
theorem ok118 : FnOk Try.prog 118 := ⟨⟨Try.f118, Try.func118, by kernel_rfl, rfl⟩⟩
theorem s118_l0 : ∀ (k_ : Nat) (v1 : Sl) (v2 : Int) (v3 : Int) (H : Hp), Fin Try.prog Try.f118 ret118 34 (todoAt (bodyOf Try.f118) [1, 1, 0, 0] []) [(0, .sl v1), (8, .int .i64 v2), (9, .int .i64 v3)] H (r118_l0 k_ v1 v2 v3 H) := by
  intro k_
  induction k_ with
  | zero => intro _ _ _ _; exact f_none
  | succ k_ ih =>
    intro v1 v2 v3 H
    rw [r118_l0]
    refine f_seq ?_
    refine f_seq ?_
    refine f_region ?_
    refine f_op rfl rfl (s_mv (v := .int .i64 v2) rfl) ?_
    refine f_op rfl rfl (s_mv (v := .int .i64 v3) rfl) ?_
    refine f_op rfl rfl (s_lss rfl rfl) ?_
    refine f_nil ?_
    refine f_if (fun h1 => ?_) (fun h1 => ?_)
    · skip
      refine f_know 15 rfl (dec_true h1) ?_
      refine f_condT rfl ?_
      refine f_skip ?_
      refine f_block ?_
      refine f_seq ?_
      refine f_ck fun g2 => ?_
      refine f_bind ?_; intro x3 hx3
      refine f_bind ?_; intro x4 hx4
      refine f_bind ?_; intro x5 hx5
      refine f_bind ?_; intro x6 hx6
      refine f_ck fun g7 => ?_
      refine f_bind ?_; intro x8 hx8
      refine f_bind ?_; intro x9 hx9
      refine f_bind ?_; intro x10 hx10
      refine f_bind ?_; intro x11 hx11
      refine f_ck fun g12 => ?_
      refine f_bind ?_; intro H13 hH13
      refine f_ck fun g14 => ?_
      refine f_bind ?_; intro H15 hH15
      refine f_draw (Φ := fun _ => True) (lim := 1000000) [0, 0, 0, 0, 0, 0, 0, 1, 0, 0, 0, 1, 0, 2, 0, 2] (Trc.pure rfl rfl rfl (.inl fun _ => s_mv (v := .sl v1) rfl) (Trc.pure rfl rfl rfl (.inl fun _ => s_mv (v := .int .i64 v2) rfl) (Trc.pure rfl rfl rfl (.inl fun _ => s_mv (v := .sl v1) rfl) (Trc.pure rfl rfl rfl (.inl fun _ => s_mv (v := .int .i64 v3) rfl) (Trc.pure rfl rfl rfl (.inl fun _ => s_mv (v := .sl v1) rfl) (Trc.pure rfl rfl rfl (.inl fun _ => s_mv (v := .int .i64 v3) rfl) (Trc.pure rfl rfl rfl (.inl fun _ => s_idx Try.underlying83 ty32 rfl rfl g2) (Trc.read rfl rfl rfl (s_loads Try.underlying32 rfl ty32 rfl (lds_cons (ldI_eq hx3) (lds_cons (ldI_eq hx4) (lds_cons (ldI_eq hx5) (lds_cons (ldI_eq hx6) (lds_nil)))))) (Trc.pure rfl rfl rfl (.inl fun _ => s_mv (v := .sl v1) rfl) (Trc.pure rfl rfl rfl (.inl fun _ => s_mv (v := .int .i64 v2) rfl) (Trc.pure rfl rfl rfl (.inl fun _ => s_idx Try.underlying83 ty32 rfl rfl g7) (Trc.read rfl rfl rfl (s_loads Try.underlying32 rfl ty32 rfl (lds_cons (ldI_eq hx8) (lds_cons (ldI_eq hx9) (lds_cons (ldI_eq hx10) (lds_cons (ldI_eq hx11) (lds_nil)))))) (Trc.pure rfl rfl rfl (.inl fun _ => s_idx Try.underlying83 ty32 rfl rfl g12) (Trc.eff rfl rfl rfl (fun _ => trivial) (s_stores ty32 rfl rfl rfl rfl hH13 (Nat.le_of_eq (sts_mono hH13).symm)) (Trc.pure rfl rfl rfl (.inl fun _ => s_idx Try.underlying83 ty32 rfl rfl g14) (Trc.eff rfl rfl rfl (fun _ => trivial) (s_stores ty32 rfl rfl rfl rfl hH15 (Nat.le_of_eq (sts_mono hH15).symm)) (Trc.nil (fun _ => trivial)))))))))))))))))) rfl (by decide +kernel) mixed ?_
      refine f_seq ?_
      refine f_region ?_
      refine f_op rfl rfl (s_mv (v := .int .i64 v2) rfl) ?_
      refine f_op rfl rfl (s_add rfl rfl) ?_
      refine f_op rfl rfl (s_as (v := .int .i64 (w64 (v2 + 1))) rfl) ?_
      refine f_nil ?_
      refine f_region ?_
      refine f_op rfl rfl (s_mv (v := .int .i64 v3) rfl) ?_
      refine f_op rfl rfl (s_sub rfl rfl) ?_
      refine f_op rfl rfl (s_as (v := .int .i64 (w64 (v3 - 1))) rfl) ?_
      refine f_nil ?_
      refine f_inBlock ?_
      refine f_inLoop ?_
      refine f_keep [0, 8, 9] ?_
      exact ih v1 (w64 (v2 + 1)) (w64 (v3 - 1)) H15
    · skip
      refine f_know 15 rfl (dec_false h1) ?_
      refine f_condF rfl ?_
      refine f_exit rfl ?_
      exact f_end (.nil) rfl

theorem sim118 {a0 : Sl} {a1 : Int} {a2 : Int} {a3 : AV} {H : Hp} {p : Unit × Hp} (h : r118 a0 a1 a2 a3 H = some p) : CallSim Try.prog 118 [.sl a0, .int .i64 a1, .int .i64 a2, a3] H (.tup []) p.2 := by
  refine callSim (fn := Try.f118) (ret := ret118) Try.func118 rfl Try.ntmps118 rfl ?_ h
  unfold r118
  refine f_seq ?_
  refine f_region ?_
  refine f_op rfl rfl (s_mv (v := .int .i64 a1) rfl) ?_
  refine f_op rfl rfl (s_as (v := .int .i64 a1) rfl) ?_
  refine f_nil ?_
  refine f_seq ?_
  refine f_region ?_
  refine f_op rfl rfl (s_mv (v := .int .i64 a2) rfl) ?_
  refine f_op rfl rfl (s_sub rfl rfl) ?_
  refine f_op rfl rfl (s_as (v := .int .i64 (w64 (a2 - 1))) rfl) ?_
  refine f_nil ?_
  refine f_block ?_
  refine f_loop ?_
  refine f_keep [0, 8, 9] ?_
  exact s118_l0 FUEL a0 a1 (w64 (a2 - 1)) H

end Go.Lt.P2
