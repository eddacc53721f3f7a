/- PRINTED BY A PROGRAM OF OURS: what each function that 'DealsRules' reaches computes on the abstract heap, and that the translated code does just that. Nothing is asked of the input. -/
import Derived.Test.YtficeemoekikdaaDoorG3P1
set_option linter.unusedVariables false
set_option linter.unusedSimpArgs false
set_option maxRecDepth 100000
set_option maxHeartbeats 4000000
namespace Go.Lt.P5
open Go Go.Lt Go.Proofs
/- 65 slices.partitionEqualCmpFunc[[2]int] -/
theorem ok65 : FnOk Tryd.prog 65 := ⟨⟨Tryd.f65, Tryd.func65, by kernel_rfl, rfl⟩⟩
theorem s65_j4 {app : App} (happ : AppSim Tryd.prog app) (kt0 : Sl → Int → AV → Int → Int → Hp → Option (Int × Hp)) (hkt0 : ∀ (v1 : Sl) (v2 : Int) (v3 : AV) (v4 : Int) (v5 : Int) (H : Hp), Fin Tryd.prog Tryd.f65 ret65 90 (todoAt (bodyOf Tryd.f65) [1, 1, 1, 0, 0, 0] []) [(0, .sl v1), (1, .int .i64 v2), (4, v3), (11, .int .i64 v4), (12, .int .i64 v5)] H (kt0 v1 v2 v3 v4 v5 H)) (kt2 : Sl → Int → AV → Int → Int → Hp → Option (Int × Hp)) (hkt2 : ∀ (v1 : Sl) (v2 : Int) (v3 : AV) (v4 : Int) (v5 : Int) (H : Hp), Fin Tryd.prog Tryd.f65 ret65 90 (todoAt (bodyOf Tryd.f65) [1, 1, 1, 0, 0, 0, 0, 1, 0, 0, 0] []) [(0, .sl v1), (1, .int .i64 v2), (4, v3), (11, .int .i64 v4), (12, .int .i64 v5)] H (kt2 v1 v2 v3 v4 v5 H)) (v1 : Sl) (v2 : Int) (v3 : AV) (v4 : Int) (v5 : Int) (v6 : Bool) (H : Hp) : Fin Tryd.prog Tryd.f65 ret65 90 (todoAt (bodyOf Tryd.f65) [1, 1, 1, 0, 0, 0, 0, 1, 0, 0, 0, 0, 1] []) [(0, .sl v1), (1, .int .i64 v2), (4, v3), (11, .int .i64 v4), (12, .int .i64 v5), (65, .bool v6)] H (r65_j4 app kt0 kt2 v1 v2 v3 v4 v5 v6 H) := by
  unfold r65_j4
  refine f_if (fun h1 => ?_) (fun h1 => ?_)
  · skip
    refine f_know 65 rfl (bool_T h1) ?_
    refine f_condT rfl ?_
    refine f_skip ?_
    refine f_block ?_
    refine f_region ?_
    refine f_op rfl rfl (s_mv (v := .int .i64 v5) rfl) ?_
    refine f_op rfl rfl (s_sub rfl rfl) ?_
    refine f_op rfl rfl (s_as (v := .int .i64 (w64 (v5 - 1))) rfl) ?_
    refine f_nil ?_
    refine f_inBlock ?_
    refine f_inLoop ?_
    refine f_keep [0, 1, 4, 11, 12] ?_
    exact hkt2 v1 v2 v3 v4 (w64 (v5 - 1)) H
  · skip
    refine f_know 65 rfl (bool_F h1) ?_
    refine f_condF rfl ?_
    refine f_exit rfl ?_
    refine f_seq ?_
    refine f_seq ?_
    refine f_region ?_
    refine f_op rfl rfl (s_mv (v := .int .i64 v4) rfl) ?_
    refine f_op rfl rfl (s_mv (v := .int .i64 v5) rfl) ?_
    refine f_op rfl rfl (s_gtr rfl rfl) ?_
    refine f_nil ?_
    refine f_if (fun h2 => ?_) (fun h2 => ?_)
    · skip
      refine f_know 70 rfl (dec_true h2) ?_
      refine f_condT rfl ?_
      refine f_exit rfl ?_
      refine f_seq ?_
      refine f_region ?_
      refine f_op rfl rfl (s_mv (v := .int .i64 v4) rfl) ?_
      refine f_op rfl rfl (s_as (v := .int .i64 v4) rfl) ?_
      refine f_nil ?_
      exact f_ret (.tmp rfl (.nil)) rfl
    · skip
      refine f_know 70 rfl (dec_false h2) ?_
      refine f_condF rfl ?_
      refine f_skip ?_
      refine f_seq ?_
      refine f_ck fun g3 => ?_
      refine f_bind ?_; intro x4 hx4
      refine f_bind ?_; intro x5 hx5
      refine f_ck fun g6 => ?_
      refine f_bind ?_; intro x7 hx7
      refine f_bind ?_; intro x8 hx8
      refine f_ck fun g9 => ?_
      refine f_bind ?_; intro H10 hH10
      refine f_ck fun g11 => ?_
      refine f_bind ?_; intro H12 hH12
      refine f_draw (Φ := fun _ => True) (lim := 1000000) [0, 0, 0, 0, 0, 0, 0, 1, 0, 0, 0, 1, 0, 2, 0, 2] (Trc.pure rfl rfl rfl (.inl fun _ => s_mv (v := .sl v1) rfl) (Trc.pure rfl rfl rfl (.inl fun _ => s_mv (v := .int .i64 v4) rfl) (Trc.pure rfl rfl rfl (.inl fun _ => s_mv (v := .sl v1) rfl) (Trc.pure rfl rfl rfl (.inl fun _ => s_mv (v := .int .i64 v5) rfl) (Trc.pure rfl rfl rfl (.inl fun _ => s_mv (v := .sl v1) rfl) (Trc.pure rfl rfl rfl (.inl fun _ => s_mv (v := .int .i64 v5) rfl) (Trc.pure rfl rfl rfl (.inl fun _ => s_idx Tryd.underlying22 ty23 rfl rfl g3) (Trc.read rfl rfl rfl (s_loads Tryd.underlying23 rfl ty23 rfl (lds_cons (ldI_eq hx4) (lds_cons (ldI_eq hx5) (lds_nil)))) (Trc.pure rfl rfl rfl (.inl fun _ => s_mv (v := .sl v1) rfl) (Trc.pure rfl rfl rfl (.inl fun _ => s_mv (v := .int .i64 v4) rfl) (Trc.pure rfl rfl rfl (.inl fun _ => s_idx Tryd.underlying22 ty23 rfl rfl g6) (Trc.read rfl rfl rfl (s_loads Tryd.underlying23 rfl ty23 rfl (lds_cons (ldI_eq hx7) (lds_cons (ldI_eq hx8) (lds_nil)))) (Trc.pure rfl rfl rfl (.inl fun _ => s_idx Tryd.underlying22 ty23 rfl rfl g9) (Trc.eff rfl rfl rfl (fun _ => trivial) (s_stores ty23 rfl rfl rfl rfl hH10 (Nat.le_of_eq (sts_mono hH10).symm)) (Trc.pure rfl rfl rfl (.inl fun _ => s_idx Tryd.underlying22 ty23 rfl rfl g11) (Trc.eff rfl rfl rfl (fun _ => trivial) (s_stores ty23 rfl rfl rfl rfl hH12 (Nat.le_of_eq (sts_mono hH12).symm)) (Trc.nil (fun _ => trivial)))))))))))))))))) rfl (by decide +kernel) mixed ?_
      refine f_seq ?_
      refine f_region ?_
      refine f_op rfl rfl (s_mv (v := .int .i64 v4) rfl) ?_
      refine f_op rfl rfl (s_add rfl rfl) ?_
      refine f_op rfl rfl (s_as (v := .int .i64 (w64 (v4 + 1))) rfl) ?_
      refine f_nil ?_
      refine f_region ?_
      refine f_op rfl rfl (s_mv (v := .int .i64 v5) rfl) ?_
      refine f_op rfl rfl (s_sub rfl rfl) ?_
      refine f_op rfl rfl (s_as (v := .int .i64 (w64 (v5 - 1))) rfl) ?_
      refine f_nil ?_
      refine f_inBlock ?_
      refine f_inLoop ?_
      refine f_keep [0, 1, 4, 11, 12] ?_
      exact hkt0 v1 v2 v3 (w64 (v4 + 1)) (w64 (v5 - 1)) H12

theorem s65_l2 {app : App} (happ : AppSim Tryd.prog app) (kt0 : Sl → Int → AV → Int → Int → Hp → Option (Int × Hp)) (hkt0 : ∀ (v1 : Sl) (v2 : Int) (v3 : AV) (v4 : Int) (v5 : Int) (H : Hp), Fin Tryd.prog Tryd.f65 ret65 90 (todoAt (bodyOf Tryd.f65) [1, 1, 1, 0, 0, 0] []) [(0, .sl v1), (1, .int .i64 v2), (4, v3), (11, .int .i64 v4), (12, .int .i64 v5)] H (kt0 v1 v2 v3 v4 v5 H)) : ∀ (k_ : Nat) (v1 : Sl) (v2 : Int) (v3 : AV) (v4 : Int) (v5 : Int) (H : Hp), Fin Tryd.prog Tryd.f65 ret65 90 (todoAt (bodyOf Tryd.f65) [1, 1, 1, 0, 0, 0, 0, 1, 0, 0, 0] []) [(0, .sl v1), (1, .int .i64 v2), (4, v3), (11, .int .i64 v4), (12, .int .i64 v5)] H (r65_l2 app kt0 k_ v1 v2 v3 v4 v5 H) := by
  intro k_
  induction k_ with
  | zero => intro _ _ _ _ _ _; exact f_none
  | succ k_ ih =>
    intro v1 v2 v3 v4 v5 H
    rw [r65_l2]
    refine f_seq ?_
    refine f_seq ?_
    refine f_if (fun h1 => ?_) (fun h1 => ?_)
    · skip
      refine f_ck fun g2 => ?_
      refine f_bind ?_; intro x3 hx3
      refine f_bind ?_; intro x4 hx4
      refine f_ck fun g5 => ?_
      refine f_bind ?_; intro x6 hx6
      refine f_bind ?_; intro x7 hx7
      refine f_bind ?_; intro p8 hp8
      refine f_bind ?_; intro x9 hx9
      refine f_draw (Φ := fun _ => True) (lim := 1000000) [0, 0, 0, 0, 0, 0, 0, 0, 1, 0, 0, 0, 1, 2, 0, 0] (Trc.pure rfl rfl rfl (.inl fun _ => s_mv (v := .int .i64 v4) rfl) (Trc.pure rfl rfl rfl (.inl fun _ => s_mv (v := .int .i64 v5) rfl) (Trc.pure rfl rfl rfl (.inl fun _ => s_leq rfl rfl) (Trc.pure rfl rfl rfl (.inl fun _ => s_mv (v := .bool (decide (v4 ≤ v5))) rfl) (Trc.know 53 rfl (dec_true h1) (Trc.pure rfl rfl rfl (.inl fun _ => s_mv (v := v3) rfl) (Trc.pure rfl rfl rfl (.inl fun _ => s_mv (v := .sl v1) rfl) (Trc.pure rfl rfl rfl (.inl fun _ => s_mv (v := .int .i64 v2) rfl) (Trc.pure rfl rfl rfl (.inl fun _ => s_idx Tryd.underlying22 ty23 rfl rfl g2) (Trc.read rfl rfl rfl (s_loads Tryd.underlying23 rfl ty23 rfl (lds_cons (ldI_eq hx3) (lds_cons (ldI_eq hx4) (lds_nil)))) (Trc.pure rfl rfl rfl (.inl fun _ => s_mv (v := .sl v1) rfl) (Trc.pure rfl rfl rfl (.inl fun _ => s_mv (v := .int .i64 v5) rfl) (Trc.pure rfl rfl rfl (.inl fun _ => s_idx Tryd.underlying22 ty23 rfl rfl g5) (Trc.read rfl rfl rfl (s_loads Tryd.underlying23 rfl ty23 rfl (lds_cons (ldI_eq hx6) (lds_cons (ldI_eq hx7) (lds_nil)))) (Trc.eff rfl rfl rfl (fun _ => trivial) (s_callv happ rfl rfl hp8) (Trc.know 63 rfl (asI_eq hx9) (Trc.pure rfl rfl rfl (.inl fun _ => s_lss rfl rfl) (Trc.pure rfl rfl rfl (.inl fun _ => s_pickT (v := .bool (decide (x9 < 0))) rfl rfl) (Trc.nil (fun _ => trivial)))))))))))))))))))) rfl (by decide +kernel) mixed ?_
      refine f_keep [0, 1, 4, 11, 12, 65] ?_
      exact s65_j4 happ _ hkt0 _ (fun v1_ v2_ v3_ v4_ v5_ H_ => ih v1_ v2_ v3_ v4_ v5_ H_) v1 v2 v3 v4 v5 (decide (x9 < 0)) p8.2
    · skip
      refine f_draw (Φ := fun _ => True) (lim := 1000000) [0, 0, 0, 0, 0, 0, 0, 0, 0, 0, 0, 0, 0, 0, 0, 0] (Trc.pure rfl rfl rfl (.inl fun _ => s_mv (v := .int .i64 v4) rfl) (Trc.pure rfl rfl rfl (.inl fun _ => s_mv (v := .int .i64 v5) rfl) (Trc.pure rfl rfl rfl (.inl fun _ => s_leq rfl rfl) (Trc.pure rfl rfl rfl (.inl fun _ => s_mv (v := .bool (decide (v4 ≤ v5))) rfl) (Trc.know 53 rfl (dec_false h1) (Trc.no rfl rfl rfl (Trc.no rfl rfl rfl (Trc.no rfl rfl rfl (Trc.no rfl rfl rfl (Trc.no rfl rfl rfl (Trc.no rfl rfl rfl (Trc.no rfl rfl rfl (Trc.no rfl rfl rfl (Trc.no rfl rfl rfl (Trc.no rfl rfl rfl (Trc.no rfl rfl rfl (Trc.pure rfl rfl rfl (.inl fun _ => s_pickF (v := .bool false) rfl rfl) (Trc.nil (fun _ => trivial))))))))))))))))))) rfl (by decide +kernel) mixed ?_
      refine f_keep [0, 1, 4, 11, 12, 65] ?_
      exact s65_j4 happ _ hkt0 _ (fun v1_ v2_ v3_ v4_ v5_ H_ => ih v1_ v2_ v3_ v4_ v5_ H_) v1 v2 v3 v4 v5 false H

theorem s65_j3 {app : App} (happ : AppSim Tryd.prog app) (kt0 : Sl → Int → AV → Int → Int → Hp → Option (Int × Hp)) (hkt0 : ∀ (v1 : Sl) (v2 : Int) (v3 : AV) (v4 : Int) (v5 : Int) (H : Hp), Fin Tryd.prog Tryd.f65 ret65 90 (todoAt (bodyOf Tryd.f65) [1, 1, 1, 0, 0, 0] []) [(0, .sl v1), (1, .int .i64 v2), (4, v3), (11, .int .i64 v4), (12, .int .i64 v5)] H (kt0 v1 v2 v3 v4 v5 H)) (kt1 : Sl → Int → AV → Int → Int → Hp → Option (Int × Hp)) (hkt1 : ∀ (v1 : Sl) (v2 : Int) (v3 : AV) (v4 : Int) (v5 : Int) (H : Hp), Fin Tryd.prog Tryd.f65 ret65 90 (todoAt (bodyOf Tryd.f65) [1, 1, 1, 0, 0, 0, 0, 0, 0, 0] []) [(0, .sl v1), (1, .int .i64 v2), (4, v3), (11, .int .i64 v4), (12, .int .i64 v5)] H (kt1 v1 v2 v3 v4 v5 H)) (v1 : Sl) (v2 : Int) (v3 : AV) (v4 : Int) (v5 : Int) (v6 : Bool) (H : Hp) : Fin Tryd.prog Tryd.f65 ret65 90 (todoAt (bodyOf Tryd.f65) [1, 1, 1, 0, 0, 0, 0, 0, 0, 0, 0, 1] []) [(0, .sl v1), (1, .int .i64 v2), (4, v3), (11, .int .i64 v4), (12, .int .i64 v5), (47, .bool v6)] H (r65_j3 app kt0 kt1 v1 v2 v3 v4 v5 v6 H) := by
  unfold r65_j3
  refine f_if (fun h1 => ?_) (fun h1 => ?_)
  · skip
    refine f_know 47 rfl (bool_T h1) ?_
    refine f_condT rfl ?_
    refine f_skip ?_
    refine f_block ?_
    refine f_region ?_
    refine f_op rfl rfl (s_mv (v := .int .i64 v4) rfl) ?_
    refine f_op rfl rfl (s_add rfl rfl) ?_
    refine f_op rfl rfl (s_as (v := .int .i64 (w64 (v4 + 1))) rfl) ?_
    refine f_nil ?_
    refine f_inBlock ?_
    refine f_inLoop ?_
    refine f_keep [0, 1, 4, 11, 12] ?_
    exact hkt1 v1 v2 v3 (w64 (v4 + 1)) v5 H
  · skip
    refine f_know 47 rfl (bool_F h1) ?_
    refine f_condF rfl ?_
    refine f_exit rfl ?_
    refine f_seq ?_
    refine f_block ?_
    refine f_loop ?_
    refine f_keep [0, 1, 4, 11, 12] ?_
    exact s65_l2 happ _ hkt0 FUEL v1 v2 v3 v4 v5 H

theorem s65_l1 {app : App} (happ : AppSim Tryd.prog app) (kt0 : Sl → Int → AV → Int → Int → Hp → Option (Int × Hp)) (hkt0 : ∀ (v1 : Sl) (v2 : Int) (v3 : AV) (v4 : Int) (v5 : Int) (H : Hp), Fin Tryd.prog Tryd.f65 ret65 90 (todoAt (bodyOf Tryd.f65) [1, 1, 1, 0, 0, 0] []) [(0, .sl v1), (1, .int .i64 v2), (4, v3), (11, .int .i64 v4), (12, .int .i64 v5)] H (kt0 v1 v2 v3 v4 v5 H)) : ∀ (k_ : Nat) (v1 : Sl) (v2 : Int) (v3 : AV) (v4 : Int) (v5 : Int) (H : Hp), Fin Tryd.prog Tryd.f65 ret65 90 (todoAt (bodyOf Tryd.f65) [1, 1, 1, 0, 0, 0, 0, 0, 0, 0] []) [(0, .sl v1), (1, .int .i64 v2), (4, v3), (11, .int .i64 v4), (12, .int .i64 v5)] H (r65_l1 app kt0 k_ v1 v2 v3 v4 v5 H) := by
  intro k_
  induction k_ with
  | zero => intro _ _ _ _ _ _; exact f_none
  | succ k_ ih =>
    intro v1 v2 v3 v4 v5 H
    rw [r65_l1]
    refine f_seq ?_
    refine f_seq ?_
    refine f_if (fun h1 => ?_) (fun h1 => ?_)
    · skip
      refine f_ck fun g2 => ?_
      refine f_bind ?_; intro x3 hx3
      refine f_bind ?_; intro x4 hx4
      refine f_ck fun g5 => ?_
      refine f_bind ?_; intro x6 hx6
      refine f_bind ?_; intro x7 hx7
      refine f_bind ?_; intro p8 hp8
      refine f_bind ?_; intro x9 hx9
      refine f_draw (Φ := fun _ => True) (lim := 1000000) [0, 0, 0, 0, 0, 0, 0, 0, 1, 0, 0, 0, 1, 2, 0, 0, 0] (Trc.pure rfl rfl rfl (.inl fun _ => s_mv (v := .int .i64 v4) rfl) (Trc.pure rfl rfl rfl (.inl fun _ => s_mv (v := .int .i64 v5) rfl) (Trc.pure rfl rfl rfl (.inl fun _ => s_leq rfl rfl) (Trc.pure rfl rfl rfl (.inl fun _ => s_mv (v := .bool (decide (v4 ≤ v5))) rfl) (Trc.know 34 rfl (dec_true h1) (Trc.pure rfl rfl rfl (.inl fun _ => s_mv (v := v3) rfl) (Trc.pure rfl rfl rfl (.inl fun _ => s_mv (v := .sl v1) rfl) (Trc.pure rfl rfl rfl (.inl fun _ => s_mv (v := .int .i64 v2) rfl) (Trc.pure rfl rfl rfl (.inl fun _ => s_idx Tryd.underlying22 ty23 rfl rfl g2) (Trc.read rfl rfl rfl (s_loads Tryd.underlying23 rfl ty23 rfl (lds_cons (ldI_eq hx3) (lds_cons (ldI_eq hx4) (lds_nil)))) (Trc.pure rfl rfl rfl (.inl fun _ => s_mv (v := .sl v1) rfl) (Trc.pure rfl rfl rfl (.inl fun _ => s_mv (v := .int .i64 v4) rfl) (Trc.pure rfl rfl rfl (.inl fun _ => s_idx Tryd.underlying22 ty23 rfl rfl g5) (Trc.read rfl rfl rfl (s_loads Tryd.underlying23 rfl ty23 rfl (lds_cons (ldI_eq hx6) (lds_cons (ldI_eq hx7) (lds_nil)))) (Trc.eff rfl rfl rfl (fun _ => trivial) (s_callv happ rfl rfl hp8) (Trc.know 44 rfl (asI_eq hx9) (Trc.pure rfl rfl rfl (.inl fun _ => s_lss rfl rfl) (Trc.pure rfl rfl rfl (.inl fun _ => s_not rfl) (Trc.pure rfl rfl rfl (.inl fun _ => s_pickT (v := .bool (!(decide (x9 < 0)))) rfl rfl) (Trc.nil (fun _ => trivial))))))))))))))))))))) rfl (by decide +kernel) mixed ?_
      refine f_keep [0, 1, 4, 11, 12, 47] ?_
      exact s65_j3 happ _ hkt0 _ (fun v1_ v2_ v3_ v4_ v5_ H_ => ih v1_ v2_ v3_ v4_ v5_ H_) v1 v2 v3 v4 v5 (!(decide (x9 < 0))) p8.2
    · skip
      refine f_draw (Φ := fun _ => True) (lim := 1000000) [0, 0, 0, 0, 0, 0, 0, 0, 0, 0, 0, 0, 0, 0, 0, 0, 0] (Trc.pure rfl rfl rfl (.inl fun _ => s_mv (v := .int .i64 v4) rfl) (Trc.pure rfl rfl rfl (.inl fun _ => s_mv (v := .int .i64 v5) rfl) (Trc.pure rfl rfl rfl (.inl fun _ => s_leq rfl rfl) (Trc.pure rfl rfl rfl (.inl fun _ => s_mv (v := .bool (decide (v4 ≤ v5))) rfl) (Trc.know 34 rfl (dec_false h1) (Trc.no rfl rfl rfl (Trc.no rfl rfl rfl (Trc.no rfl rfl rfl (Trc.no rfl rfl rfl (Trc.no rfl rfl rfl (Trc.no rfl rfl rfl (Trc.no rfl rfl rfl (Trc.no rfl rfl rfl (Trc.no rfl rfl rfl (Trc.no rfl rfl rfl (Trc.no rfl rfl rfl (Trc.no rfl rfl rfl (Trc.pure rfl rfl rfl (.inl fun _ => s_pickF (v := .bool false) rfl rfl) (Trc.nil (fun _ => trivial)))))))))))))))))))) rfl (by decide +kernel) mixed ?_
      refine f_keep [0, 1, 4, 11, 12, 47] ?_
      exact s65_j3 happ _ hkt0 _ (fun v1_ v2_ v3_ v4_ v5_ H_ => ih v1_ v2_ v3_ v4_ v5_ H_) v1 v2 v3 v4 v5 false H

theorem s65_l0 {app : App} (happ : AppSim Tryd.prog app) : ∀ (k_ : Nat) (v1 : Sl) (v2 : Int) (v3 : AV) (v4 : Int) (v5 : Int) (H : Hp), Fin Tryd.prog Tryd.f65 ret65 90 (todoAt (bodyOf Tryd.f65) [1, 1, 1, 0, 0, 0] []) [(0, .sl v1), (1, .int .i64 v2), (4, v3), (11, .int .i64 v4), (12, .int .i64 v5)] H (r65_l0 app k_ v1 v2 v3 v4 v5 H) := by
  intro k_
  induction k_ with
  | zero => intro _ _ _ _ _ _; exact f_none
  | succ k_ ih =>
    intro v1 v2 v3 v4 v5 H
    rw [r65_l0]
    refine f_block ?_
    refine f_seq ?_
    refine f_block ?_
    refine f_loop ?_
    refine f_keep [0, 1, 4, 11, 12] ?_
    exact s65_l1 happ _ (fun v1_ v2_ v3_ v4_ v5_ H_ => ih v1_ v2_ v3_ v4_ v5_ H_) FUEL v1 v2 v3 v4 v5 H

theorem sim65 {app : App} (happ : AppSim Tryd.prog app) {a0 : Sl} {a1 : Int} {a2 : Int} {a3 : Int} {a4 : AV} {H : Hp} {p : Int × Hp} (h : r65 app a0 a1 a2 a3 a4 H = some p) : CallSim Tryd.prog 65 [.sl a0, .int .i64 a1, .int .i64 a2, .int .i64 a3, a4] H (.int .i64 p.1) p.2 := by
  refine callSim (fn := Tryd.f65) (ret := ret65) Tryd.func65 rfl Tryd.ntmps65 rfl ?_ h
  unfold r65
  refine f_seq ?_
  refine f_region ?_
  refine f_op rfl rfl (s_as (v := .int .i64 0) rfl) ?_
  refine f_nil ?_
  refine f_seq ?_
  refine f_ck fun g1 => ?_
  refine f_bind ?_; intro x2 hx2
  refine f_bind ?_; intro x3 hx3
  refine f_ck fun g4 => ?_
  refine f_bind ?_; intro x5 hx5
  refine f_bind ?_; intro x6 hx6
  refine f_ck fun g7 => ?_
  refine f_bind ?_; intro H8 hH8
  refine f_ck fun g9 => ?_
  refine f_bind ?_; intro H10 hH10
  refine f_draw (Φ := fun _ => True) (lim := 1000000) [0, 0, 0, 0, 0, 0, 0, 1, 0, 0, 0, 1, 0, 2, 0, 2] (Trc.pure rfl rfl rfl (.inl fun _ => s_mv (v := .sl a0) rfl) (Trc.pure rfl rfl rfl (.inl fun _ => s_mv (v := .int .i64 a1) rfl) (Trc.pure rfl rfl rfl (.inl fun _ => s_mv (v := .sl a0) rfl) (Trc.pure rfl rfl rfl (.inl fun _ => s_mv (v := .int .i64 a3) rfl) (Trc.pure rfl rfl rfl (.inl fun _ => s_mv (v := .sl a0) rfl) (Trc.pure rfl rfl rfl (.inl fun _ => s_mv (v := .int .i64 a3) rfl) (Trc.pure rfl rfl rfl (.inl fun _ => s_idx Tryd.underlying22 ty23 rfl rfl g1) (Trc.read rfl rfl rfl (s_loads Tryd.underlying23 rfl ty23 rfl (lds_cons (ldI_eq hx2) (lds_cons (ldI_eq hx3) (lds_nil)))) (Trc.pure rfl rfl rfl (.inl fun _ => s_mv (v := .sl a0) rfl) (Trc.pure rfl rfl rfl (.inl fun _ => s_mv (v := .int .i64 a1) rfl) (Trc.pure rfl rfl rfl (.inl fun _ => s_idx Tryd.underlying22 ty23 rfl rfl g4) (Trc.read rfl rfl rfl (s_loads Tryd.underlying23 rfl ty23 rfl (lds_cons (ldI_eq hx5) (lds_cons (ldI_eq hx6) (lds_nil)))) (Trc.pure rfl rfl rfl (.inl fun _ => s_idx Tryd.underlying22 ty23 rfl rfl g7) (Trc.eff rfl rfl rfl (fun _ => trivial) (s_stores ty23 rfl rfl rfl rfl hH8 (Nat.le_of_eq (sts_mono hH8).symm)) (Trc.pure rfl rfl rfl (.inl fun _ => s_idx Tryd.underlying22 ty23 rfl rfl g9) (Trc.eff rfl rfl rfl (fun _ => trivial) (s_stores ty23 rfl rfl rfl rfl hH10 (Nat.le_of_eq (sts_mono hH10).symm)) (Trc.nil (fun _ => trivial)))))))))))))))))) rfl (by decide +kernel) mixed ?_
  refine f_seq ?_
  refine f_region ?_
  refine f_op rfl rfl (s_mv (v := .int .i64 a1) rfl) ?_
  refine f_op rfl rfl (s_add rfl rfl) ?_
  refine f_op rfl rfl (s_mv (v := .int .i64 a2) rfl) ?_
  refine f_op rfl rfl (s_sub rfl rfl) ?_
  refine f_op rfl rfl (s_as (v := .int .i64 (w64 (a1 + 1))) rfl) ?_
  refine f_op rfl rfl (s_as (v := .int .i64 (w64 (a2 - 1))) rfl) ?_
  refine f_nil ?_
  refine f_seq ?_
  refine f_block ?_
  refine f_loop ?_
  refine f_keep [0, 1, 4, 11, 12] ?_
  exact s65_l0 happ FUEL a0 a1 a4 (w64 (a1 + 1)) (w64 (a2 - 1)) H10

/- 66 slices.partitionCmpFunc[[2]int] -/
theorem ok66 : FnOk Tryd.prog 66 := ⟨⟨Tryd.f66, Tryd.func66, by kernel_rfl, rfl⟩⟩
theorem s66_j8 {app : App} (happ : AppSim Tryd.prog app) (kt3 : Sl → Int → AV → Int → Int → Hp → Option ((Int × Bool) × Hp)) (hkt3 : ∀ (v1 : Sl) (v2 : Int) (v3 : AV) (v4 : Int) (v5 : Int) (H : Hp), Fin Tryd.prog Tryd.f66 ret66 178 (todoAt (bodyOf Tryd.f66) [1, 1, 1, 1, 1, 1, 1, 1, 1, 0, 0, 0] []) [(0, .sl v1), (1, .int .i64 v2), (4, v3), (12, .int .i64 v4), (13, .int .i64 v5)] H (kt3 v1 v2 v3 v4 v5 H)) (kt6 : Sl → Int → AV → Int → Int → Hp → Option ((Int × Bool) × Hp)) (hkt6 : ∀ (v1 : Sl) (v2 : Int) (v3 : AV) (v4 : Int) (v5 : Int) (H : Hp), Fin Tryd.prog Tryd.f66 ret66 178 (todoAt (bodyOf Tryd.f66) [1, 1, 1, 1, 1, 1, 1, 1, 1, 0, 0, 0, 0, 1, 0, 0, 0] []) [(0, .sl v1), (1, .int .i64 v2), (4, v3), (12, .int .i64 v4), (13, .int .i64 v5)] H (kt6 v1 v2 v3 v4 v5 H)) (v1 : Sl) (v2 : Int) (v3 : AV) (v4 : Int) (v5 : Int) (v6 : Bool) (H : Hp) : Fin Tryd.prog Tryd.f66 ret66 178 (todoAt (bodyOf Tryd.f66) [1, 1, 1, 1, 1, 1, 1, 1, 1, 0, 0, 0, 0, 1, 0, 0, 0, 0, 1] []) [(0, .sl v1), (1, .int .i64 v2), (4, v3), (12, .int .i64 v4), (13, .int .i64 v5), (139, .bool v6)] H (r66_j8 app kt3 kt6 v1 v2 v3 v4 v5 v6 H) := by
  unfold r66_j8
  refine f_if (fun h1 => ?_) (fun h1 => ?_)
  · skip
    refine f_know 139 rfl (bool_T h1) ?_
    refine f_condT rfl ?_
    refine f_skip ?_
    refine f_block ?_
    refine f_region ?_
    refine f_op rfl rfl (s_mv (v := .int .i64 v5) rfl) ?_
    refine f_op rfl rfl (s_sub rfl rfl) ?_
    refine f_op rfl rfl (s_as (v := .int .i64 (w64 (v5 - 1))) rfl) ?_
    refine f_nil ?_
    refine f_inBlock ?_
    refine f_inLoop ?_
    refine f_keep [0, 1, 4, 12, 13] ?_
    exact hkt6 v1 v2 v3 v4 (w64 (v5 - 1)) H
  · skip
    refine f_know 139 rfl (bool_F h1) ?_
    refine f_condF rfl ?_
    refine f_exit rfl ?_
    refine f_seq ?_
    refine f_seq ?_
    refine f_region ?_
    refine f_op rfl rfl (s_mv (v := .int .i64 v4) rfl) ?_
    refine f_op rfl rfl (s_mv (v := .int .i64 v5) rfl) ?_
    refine f_op rfl rfl (s_gtr rfl rfl) ?_
    refine f_nil ?_
    refine f_if (fun h2 => ?_) (fun h2 => ?_)
    · skip
      refine f_know 144 rfl (dec_true h2) ?_
      refine f_condT rfl ?_
      refine f_exit rfl ?_
      refine f_seq ?_
      refine f_ck fun g3 => ?_
      refine f_bind ?_; intro x4 hx4
      refine f_bind ?_; intro x5 hx5
      refine f_ck fun g6 => ?_
      refine f_bind ?_; intro x7 hx7
      refine f_bind ?_; intro x8 hx8
      refine f_ck fun g9 => ?_
      refine f_bind ?_; intro H10 hH10
      refine f_ck fun g11 => ?_
      refine f_bind ?_; intro H12 hH12
      refine f_draw (Φ := fun _ => True) (lim := 1000000) [0, 0, 0, 0, 0, 0, 0, 1, 0, 0, 0, 1, 0, 2, 0, 2] (Trc.pure rfl rfl rfl (.inl fun _ => s_mv (v := .sl v1) rfl) (Trc.pure rfl rfl rfl (.inl fun _ => s_mv (v := .int .i64 v5) rfl) (Trc.pure rfl rfl rfl (.inl fun _ => s_mv (v := .sl v1) rfl) (Trc.pure rfl rfl rfl (.inl fun _ => s_mv (v := .int .i64 v2) rfl) (Trc.pure rfl rfl rfl (.inl fun _ => s_mv (v := .sl v1) rfl) (Trc.pure rfl rfl rfl (.inl fun _ => s_mv (v := .int .i64 v2) rfl) (Trc.pure rfl rfl rfl (.inl fun _ => s_idx Tryd.underlying22 ty23 rfl rfl g3) (Trc.read rfl rfl rfl (s_loads Tryd.underlying23 rfl ty23 rfl (lds_cons (ldI_eq hx4) (lds_cons (ldI_eq hx5) (lds_nil)))) (Trc.pure rfl rfl rfl (.inl fun _ => s_mv (v := .sl v1) rfl) (Trc.pure rfl rfl rfl (.inl fun _ => s_mv (v := .int .i64 v5) rfl) (Trc.pure rfl rfl rfl (.inl fun _ => s_idx Tryd.underlying22 ty23 rfl rfl g6) (Trc.read rfl rfl rfl (s_loads Tryd.underlying23 rfl ty23 rfl (lds_cons (ldI_eq hx7) (lds_cons (ldI_eq hx8) (lds_nil)))) (Trc.pure rfl rfl rfl (.inl fun _ => s_idx Tryd.underlying22 ty23 rfl rfl g9) (Trc.eff rfl rfl rfl (fun _ => trivial) (s_stores ty23 rfl rfl rfl rfl hH10 (Nat.le_of_eq (sts_mono hH10).symm)) (Trc.pure rfl rfl rfl (.inl fun _ => s_idx Tryd.underlying22 ty23 rfl rfl g11) (Trc.eff rfl rfl rfl (fun _ => trivial) (s_stores ty23 rfl rfl rfl rfl hH12 (Nat.le_of_eq (sts_mono hH12).symm)) (Trc.nil (fun _ => trivial)))))))))))))))))) rfl (by decide +kernel) mixed ?_
      refine f_seq ?_
      refine f_region ?_
      refine f_op rfl rfl (s_mv (v := .int .i64 v5) rfl) ?_
      refine f_op rfl rfl (s_as (v := .int .i64 v5) rfl) ?_
      refine f_op rfl rfl (s_as (v := .bool false) rfl) ?_
      refine f_nil ?_
      exact f_ret (.tmp rfl (.tmp rfl (.nil))) rfl
    · skip
      refine f_know 144 rfl (dec_false h2) ?_
      refine f_condF rfl ?_
      refine f_skip ?_
      refine f_seq ?_
      refine f_ck fun g13 => ?_
      refine f_bind ?_; intro x14 hx14
      refine f_bind ?_; intro x15 hx15
      refine f_ck fun g16 => ?_
      refine f_bind ?_; intro x17 hx17
      refine f_bind ?_; intro x18 hx18
      refine f_ck fun g19 => ?_
      refine f_bind ?_; intro H20 hH20
      refine f_ck fun g21 => ?_
      refine f_bind ?_; intro H22 hH22
      refine f_draw (Φ := fun _ => True) (lim := 1000000) [0, 0, 0, 0, 0, 0, 0, 1, 0, 0, 0, 1, 0, 2, 0, 2] (Trc.pure rfl rfl rfl (.inl fun _ => s_mv (v := .sl v1) rfl) (Trc.pure rfl rfl rfl (.inl fun _ => s_mv (v := .int .i64 v4) rfl) (Trc.pure rfl rfl rfl (.inl fun _ => s_mv (v := .sl v1) rfl) (Trc.pure rfl rfl rfl (.inl fun _ => s_mv (v := .int .i64 v5) rfl) (Trc.pure rfl rfl rfl (.inl fun _ => s_mv (v := .sl v1) rfl) (Trc.pure rfl rfl rfl (.inl fun _ => s_mv (v := .int .i64 v5) rfl) (Trc.pure rfl rfl rfl (.inl fun _ => s_idx Tryd.underlying22 ty23 rfl rfl g13) (Trc.read rfl rfl rfl (s_loads Tryd.underlying23 rfl ty23 rfl (lds_cons (ldI_eq hx14) (lds_cons (ldI_eq hx15) (lds_nil)))) (Trc.pure rfl rfl rfl (.inl fun _ => s_mv (v := .sl v1) rfl) (Trc.pure rfl rfl rfl (.inl fun _ => s_mv (v := .int .i64 v4) rfl) (Trc.pure rfl rfl rfl (.inl fun _ => s_idx Tryd.underlying22 ty23 rfl rfl g16) (Trc.read rfl rfl rfl (s_loads Tryd.underlying23 rfl ty23 rfl (lds_cons (ldI_eq hx17) (lds_cons (ldI_eq hx18) (lds_nil)))) (Trc.pure rfl rfl rfl (.inl fun _ => s_idx Tryd.underlying22 ty23 rfl rfl g19) (Trc.eff rfl rfl rfl (fun _ => trivial) (s_stores ty23 rfl rfl rfl rfl hH20 (Nat.le_of_eq (sts_mono hH20).symm)) (Trc.pure rfl rfl rfl (.inl fun _ => s_idx Tryd.underlying22 ty23 rfl rfl g21) (Trc.eff rfl rfl rfl (fun _ => trivial) (s_stores ty23 rfl rfl rfl rfl hH22 (Nat.le_of_eq (sts_mono hH22).symm)) (Trc.nil (fun _ => trivial)))))))))))))))))) rfl (by decide +kernel) mixed ?_
      refine f_seq ?_
      refine f_region ?_
      refine f_op rfl rfl (s_mv (v := .int .i64 v4) rfl) ?_
      refine f_op rfl rfl (s_add rfl rfl) ?_
      refine f_op rfl rfl (s_as (v := .int .i64 (w64 (v4 + 1))) rfl) ?_
      refine f_nil ?_
      refine f_region ?_
      refine f_op rfl rfl (s_mv (v := .int .i64 v5) rfl) ?_
      refine f_op rfl rfl (s_sub rfl rfl) ?_
      refine f_op rfl rfl (s_as (v := .int .i64 (w64 (v5 - 1))) rfl) ?_
      refine f_nil ?_
      refine f_inBlock ?_
      refine f_inLoop ?_
      refine f_keep [0, 1, 4, 12, 13] ?_
      exact hkt3 v1 v2 v3 (w64 (v4 + 1)) (w64 (v5 - 1)) H22

theorem s66_l6 {app : App} (happ : AppSim Tryd.prog app) (kt3 : Sl → Int → AV → Int → Int → Hp → Option ((Int × Bool) × Hp)) (hkt3 : ∀ (v1 : Sl) (v2 : Int) (v3 : AV) (v4 : Int) (v5 : Int) (H : Hp), Fin Tryd.prog Tryd.f66 ret66 178 (todoAt (bodyOf Tryd.f66) [1, 1, 1, 1, 1, 1, 1, 1, 1, 0, 0, 0] []) [(0, .sl v1), (1, .int .i64 v2), (4, v3), (12, .int .i64 v4), (13, .int .i64 v5)] H (kt3 v1 v2 v3 v4 v5 H)) : ∀ (k_ : Nat) (v1 : Sl) (v2 : Int) (v3 : AV) (v4 : Int) (v5 : Int) (H : Hp), Fin Tryd.prog Tryd.f66 ret66 178 (todoAt (bodyOf Tryd.f66) [1, 1, 1, 1, 1, 1, 1, 1, 1, 0, 0, 0, 0, 1, 0, 0, 0] []) [(0, .sl v1), (1, .int .i64 v2), (4, v3), (12, .int .i64 v4), (13, .int .i64 v5)] H (r66_l6 app kt3 k_ v1 v2 v3 v4 v5 H) := by
  intro k_
  induction k_ with
  | zero => intro _ _ _ _ _ _; exact f_none
  | succ k_ ih =>
    intro v1 v2 v3 v4 v5 H
    rw [r66_l6]
    refine f_seq ?_
    refine f_seq ?_
    refine f_if (fun h1 => ?_) (fun h1 => ?_)
    · skip
      refine f_ck fun g2 => ?_
      refine f_bind ?_; intro x3 hx3
      refine f_bind ?_; intro x4 hx4
      refine f_ck fun g5 => ?_
      refine f_bind ?_; intro x6 hx6
      refine f_bind ?_; intro x7 hx7
      refine f_bind ?_; intro p8 hp8
      refine f_bind ?_; intro x9 hx9
      refine f_draw (Φ := fun _ => True) (lim := 1000000) [0, 0, 0, 0, 0, 0, 0, 0, 1, 0, 0, 0, 1, 2, 0, 0, 0] (Trc.pure rfl rfl rfl (.inl fun _ => s_mv (v := .int .i64 v4) rfl) (Trc.pure rfl rfl rfl (.inl fun _ => s_mv (v := .int .i64 v5) rfl) (Trc.pure rfl rfl rfl (.inl fun _ => s_leq rfl rfl) (Trc.pure rfl rfl rfl (.inl fun _ => s_mv (v := .bool (decide (v4 ≤ v5))) rfl) (Trc.know 126 rfl (dec_true h1) (Trc.pure rfl rfl rfl (.inl fun _ => s_mv (v := v3) rfl) (Trc.pure rfl rfl rfl (.inl fun _ => s_mv (v := .sl v1) rfl) (Trc.pure rfl rfl rfl (.inl fun _ => s_mv (v := .int .i64 v5) rfl) (Trc.pure rfl rfl rfl (.inl fun _ => s_idx Tryd.underlying22 ty23 rfl rfl g2) (Trc.read rfl rfl rfl (s_loads Tryd.underlying23 rfl ty23 rfl (lds_cons (ldI_eq hx3) (lds_cons (ldI_eq hx4) (lds_nil)))) (Trc.pure rfl rfl rfl (.inl fun _ => s_mv (v := .sl v1) rfl) (Trc.pure rfl rfl rfl (.inl fun _ => s_mv (v := .int .i64 v2) rfl) (Trc.pure rfl rfl rfl (.inl fun _ => s_idx Tryd.underlying22 ty23 rfl rfl g5) (Trc.read rfl rfl rfl (s_loads Tryd.underlying23 rfl ty23 rfl (lds_cons (ldI_eq hx6) (lds_cons (ldI_eq hx7) (lds_nil)))) (Trc.eff rfl rfl rfl (fun _ => trivial) (s_callv happ rfl rfl hp8) (Trc.know 136 rfl (asI_eq hx9) (Trc.pure rfl rfl rfl (.inl fun _ => s_lss rfl rfl) (Trc.pure rfl rfl rfl (.inl fun _ => s_not rfl) (Trc.pure rfl rfl rfl (.inl fun _ => s_pickT (v := .bool (!(decide (x9 < 0)))) rfl rfl) (Trc.nil (fun _ => trivial))))))))))))))))))))) rfl (by decide +kernel) mixed ?_
      refine f_keep [0, 1, 4, 12, 13, 139] ?_
      exact s66_j8 happ _ hkt3 _ (fun v1_ v2_ v3_ v4_ v5_ H_ => ih v1_ v2_ v3_ v4_ v5_ H_) v1 v2 v3 v4 v5 (!(decide (x9 < 0))) p8.2
    · skip
      refine f_draw (Φ := fun _ => True) (lim := 1000000) [0, 0, 0, 0, 0, 0, 0, 0, 0, 0, 0, 0, 0, 0, 0, 0, 0] (Trc.pure rfl rfl rfl (.inl fun _ => s_mv (v := .int .i64 v4) rfl) (Trc.pure rfl rfl rfl (.inl fun _ => s_mv (v := .int .i64 v5) rfl) (Trc.pure rfl rfl rfl (.inl fun _ => s_leq rfl rfl) (Trc.pure rfl rfl rfl (.inl fun _ => s_mv (v := .bool (decide (v4 ≤ v5))) rfl) (Trc.know 126 rfl (dec_false h1) (Trc.no rfl rfl rfl (Trc.no rfl rfl rfl (Trc.no rfl rfl rfl (Trc.no rfl rfl rfl (Trc.no rfl rfl rfl (Trc.no rfl rfl rfl (Trc.no rfl rfl rfl (Trc.no rfl rfl rfl (Trc.no rfl rfl rfl (Trc.no rfl rfl rfl (Trc.no rfl rfl rfl (Trc.no rfl rfl rfl (Trc.pure rfl rfl rfl (.inl fun _ => s_pickF (v := .bool false) rfl rfl) (Trc.nil (fun _ => trivial)))))))))))))))))))) rfl (by decide +kernel) mixed ?_
      refine f_keep [0, 1, 4, 12, 13, 139] ?_
      exact s66_j8 happ _ hkt3 _ (fun v1_ v2_ v3_ v4_ v5_ H_ => ih v1_ v2_ v3_ v4_ v5_ H_) v1 v2 v3 v4 v5 false H

theorem s66_j7 {app : App} (happ : AppSim Tryd.prog app) (kt3 : Sl → Int → AV → Int → Int → Hp → Option ((Int × Bool) × Hp)) (hkt3 : ∀ (v1 : Sl) (v2 : Int) (v3 : AV) (v4 : Int) (v5 : Int) (H : Hp), Fin Tryd.prog Tryd.f66 ret66 178 (todoAt (bodyOf Tryd.f66) [1, 1, 1, 1, 1, 1, 1, 1, 1, 0, 0, 0] []) [(0, .sl v1), (1, .int .i64 v2), (4, v3), (12, .int .i64 v4), (13, .int .i64 v5)] H (kt3 v1 v2 v3 v4 v5 H)) (kt5 : Sl → Int → AV → Int → Int → Hp → Option ((Int × Bool) × Hp)) (hkt5 : ∀ (v1 : Sl) (v2 : Int) (v3 : AV) (v4 : Int) (v5 : Int) (H : Hp), Fin Tryd.prog Tryd.f66 ret66 178 (todoAt (bodyOf Tryd.f66) [1, 1, 1, 1, 1, 1, 1, 1, 1, 0, 0, 0, 0, 0, 0, 0] []) [(0, .sl v1), (1, .int .i64 v2), (4, v3), (12, .int .i64 v4), (13, .int .i64 v5)] H (kt5 v1 v2 v3 v4 v5 H)) (v1 : Sl) (v2 : Int) (v3 : AV) (v4 : Int) (v5 : Int) (v6 : Bool) (H : Hp) : Fin Tryd.prog Tryd.f66 ret66 178 (todoAt (bodyOf Tryd.f66) [1, 1, 1, 1, 1, 1, 1, 1, 1, 0, 0, 0, 0, 0, 0, 0, 0, 1] []) [(0, .sl v1), (1, .int .i64 v2), (4, v3), (12, .int .i64 v4), (13, .int .i64 v5), (120, .bool v6)] H (r66_j7 app kt3 kt5 v1 v2 v3 v4 v5 v6 H) := by
  unfold r66_j7
  refine f_if (fun h1 => ?_) (fun h1 => ?_)
  · skip
    refine f_know 120 rfl (bool_T h1) ?_
    refine f_condT rfl ?_
    refine f_skip ?_
    refine f_block ?_
    refine f_region ?_
    refine f_op rfl rfl (s_mv (v := .int .i64 v4) rfl) ?_
    refine f_op rfl rfl (s_add rfl rfl) ?_
    refine f_op rfl rfl (s_as (v := .int .i64 (w64 (v4 + 1))) rfl) ?_
    refine f_nil ?_
    refine f_inBlock ?_
    refine f_inLoop ?_
    refine f_keep [0, 1, 4, 12, 13] ?_
    exact hkt5 v1 v2 v3 (w64 (v4 + 1)) v5 H
  · skip
    refine f_know 120 rfl (bool_F h1) ?_
    refine f_condF rfl ?_
    refine f_exit rfl ?_
    refine f_seq ?_
    refine f_block ?_
    refine f_loop ?_
    refine f_keep [0, 1, 4, 12, 13] ?_
    exact s66_l6 happ _ hkt3 FUEL v1 v2 v3 v4 v5 H

theorem s66_l5 {app : App} (happ : AppSim Tryd.prog app) (kt3 : Sl → Int → AV → Int → Int → Hp → Option ((Int × Bool) × Hp)) (hkt3 : ∀ (v1 : Sl) (v2 : Int) (v3 : AV) (v4 : Int) (v5 : Int) (H : Hp), Fin Tryd.prog Tryd.f66 ret66 178 (todoAt (bodyOf Tryd.f66) [1, 1, 1, 1, 1, 1, 1, 1, 1, 0, 0, 0] []) [(0, .sl v1), (1, .int .i64 v2), (4, v3), (12, .int .i64 v4), (13, .int .i64 v5)] H (kt3 v1 v2 v3 v4 v5 H)) : ∀ (k_ : Nat) (v1 : Sl) (v2 : Int) (v3 : AV) (v4 : Int) (v5 : Int) (H : Hp), Fin Tryd.prog Tryd.f66 ret66 178 (todoAt (bodyOf Tryd.f66) [1, 1, 1, 1, 1, 1, 1, 1, 1, 0, 0, 0, 0, 0, 0, 0] []) [(0, .sl v1), (1, .int .i64 v2), (4, v3), (12, .int .i64 v4), (13, .int .i64 v5)] H (r66_l5 app kt3 k_ v1 v2 v3 v4 v5 H) := by
  intro k_
  induction k_ with
  | zero => intro _ _ _ _ _ _; exact f_none
  | succ k_ ih =>
    intro v1 v2 v3 v4 v5 H
    rw [r66_l5]
    refine f_seq ?_
    refine f_seq ?_
    refine f_if (fun h1 => ?_) (fun h1 => ?_)
    · skip
      refine f_ck fun g2 => ?_
      refine f_bind ?_; intro x3 hx3
      refine f_bind ?_; intro x4 hx4
      refine f_ck fun g5 => ?_
      refine f_bind ?_; intro x6 hx6
      refine f_bind ?_; intro x7 hx7
      refine f_bind ?_; intro p8 hp8
      refine f_bind ?_; intro x9 hx9
      refine f_draw (Φ := fun _ => True) (lim := 1000000) [0, 0, 0, 0, 0, 0, 0, 0, 1, 0, 0, 0, 1, 2, 0, 0] (Trc.pure rfl rfl rfl (.inl fun _ => s_mv (v := .int .i64 v4) rfl) (Trc.pure rfl rfl rfl (.inl fun _ => s_mv (v := .int .i64 v5) rfl) (Trc.pure rfl rfl rfl (.inl fun _ => s_leq rfl rfl) (Trc.pure rfl rfl rfl (.inl fun _ => s_mv (v := .bool (decide (v4 ≤ v5))) rfl) (Trc.know 108 rfl (dec_true h1) (Trc.pure rfl rfl rfl (.inl fun _ => s_mv (v := v3) rfl) (Trc.pure rfl rfl rfl (.inl fun _ => s_mv (v := .sl v1) rfl) (Trc.pure rfl rfl rfl (.inl fun _ => s_mv (v := .int .i64 v4) rfl) (Trc.pure rfl rfl rfl (.inl fun _ => s_idx Tryd.underlying22 ty23 rfl rfl g2) (Trc.read rfl rfl rfl (s_loads Tryd.underlying23 rfl ty23 rfl (lds_cons (ldI_eq hx3) (lds_cons (ldI_eq hx4) (lds_nil)))) (Trc.pure rfl rfl rfl (.inl fun _ => s_mv (v := .sl v1) rfl) (Trc.pure rfl rfl rfl (.inl fun _ => s_mv (v := .int .i64 v2) rfl) (Trc.pure rfl rfl rfl (.inl fun _ => s_idx Tryd.underlying22 ty23 rfl rfl g5) (Trc.read rfl rfl rfl (s_loads Tryd.underlying23 rfl ty23 rfl (lds_cons (ldI_eq hx6) (lds_cons (ldI_eq hx7) (lds_nil)))) (Trc.eff rfl rfl rfl (fun _ => trivial) (s_callv happ rfl rfl hp8) (Trc.know 118 rfl (asI_eq hx9) (Trc.pure rfl rfl rfl (.inl fun _ => s_lss rfl rfl) (Trc.pure rfl rfl rfl (.inl fun _ => s_pickT (v := .bool (decide (x9 < 0))) rfl rfl) (Trc.nil (fun _ => trivial)))))))))))))))))))) rfl (by decide +kernel) mixed ?_
      refine f_keep [0, 1, 4, 12, 13, 120] ?_
      exact s66_j7 happ _ hkt3 _ (fun v1_ v2_ v3_ v4_ v5_ H_ => ih v1_ v2_ v3_ v4_ v5_ H_) v1 v2 v3 v4 v5 (decide (x9 < 0)) p8.2
    · skip
      refine f_draw (Φ := fun _ => True) (lim := 1000000) [0, 0, 0, 0, 0, 0, 0, 0, 0, 0, 0, 0, 0, 0, 0, 0] (Trc.pure rfl rfl rfl (.inl fun _ => s_mv (v := .int .i64 v4) rfl) (Trc.pure rfl rfl rfl (.inl fun _ => s_mv (v := .int .i64 v5) rfl) (Trc.pure rfl rfl rfl (.inl fun _ => s_leq rfl rfl) (Trc.pure rfl rfl rfl (.inl fun _ => s_mv (v := .bool (decide (v4 ≤ v5))) rfl) (Trc.know 108 rfl (dec_false h1) (Trc.no rfl rfl rfl (Trc.no rfl rfl rfl (Trc.no rfl rfl rfl (Trc.no rfl rfl rfl (Trc.no rfl rfl rfl (Trc.no rfl rfl rfl (Trc.no rfl rfl rfl (Trc.no rfl rfl rfl (Trc.no rfl rfl rfl (Trc.no rfl rfl rfl (Trc.no rfl rfl rfl (Trc.pure rfl rfl rfl (.inl fun _ => s_pickF (v := .bool false) rfl rfl) (Trc.nil (fun _ => trivial))))))))))))))))))) rfl (by decide +kernel) mixed ?_
      refine f_keep [0, 1, 4, 12, 13, 120] ?_
      exact s66_j7 happ _ hkt3 _ (fun v1_ v2_ v3_ v4_ v5_ H_ => ih v1_ v2_ v3_ v4_ v5_ H_) v1 v2 v3 v4 v5 false H

theorem s66_l3 {app : App} (happ : AppSim Tryd.prog app) : ∀ (k_ : Nat) (v1 : Sl) (v2 : Int) (v3 : AV) (v4 : Int) (v5 : Int) (H : Hp), Fin Tryd.prog Tryd.f66 ret66 178 (todoAt (bodyOf Tryd.f66) [1, 1, 1, 1, 1, 1, 1, 1, 1, 0, 0, 0] []) [(0, .sl v1), (1, .int .i64 v2), (4, v3), (12, .int .i64 v4), (13, .int .i64 v5)] H (r66_l3 app k_ v1 v2 v3 v4 v5 H) := by
  intro k_
  induction k_ with
  | zero => intro _ _ _ _ _ _; exact f_none
  | succ k_ ih =>
    intro v1 v2 v3 v4 v5 H
    rw [r66_l3]
    refine f_block ?_
    refine f_seq ?_
    refine f_block ?_
    refine f_loop ?_
    refine f_keep [0, 1, 4, 12, 13] ?_
    exact s66_l5 happ _ (fun v1_ v2_ v3_ v4_ v5_ H_ => ih v1_ v2_ v3_ v4_ v5_ H_) FUEL v1 v2 v3 v4 v5 H

theorem s66_j4 {app : App} (happ : AppSim Tryd.prog app) (kt1 : Sl → Int → AV → Int → Int → Hp → Option ((Int × Bool) × Hp)) (hkt1 : ∀ (v1 : Sl) (v2 : Int) (v3 : AV) (v4 : Int) (v5 : Int) (H : Hp), Fin Tryd.prog Tryd.f66 ret66 178 (todoAt (bodyOf Tryd.f66) [1, 1, 1, 1, 0, 0, 0] []) [(0, .sl v1), (1, .int .i64 v2), (4, v3), (12, .int .i64 v4), (13, .int .i64 v5)] H (kt1 v1 v2 v3 v4 v5 H)) (v1 : Sl) (v2 : Int) (v3 : AV) (v4 : Int) (v5 : Int) (v6 : Bool) (H : Hp) : Fin Tryd.prog Tryd.f66 ret66 178 (todoAt (bodyOf Tryd.f66) [1, 1, 1, 1, 0, 0, 0, 0, 1] []) [(0, .sl v1), (1, .int .i64 v2), (4, v3), (12, .int .i64 v4), (13, .int .i64 v5), (66, .bool v6)] H (r66_j4 app kt1 v1 v2 v3 v4 v5 v6 H) := by
  unfold r66_j4
  refine f_if (fun h1 => ?_) (fun h1 => ?_)
  · skip
    refine f_know 66 rfl (bool_T h1) ?_
    refine f_condT rfl ?_
    refine f_skip ?_
    refine f_block ?_
    refine f_region ?_
    refine f_op rfl rfl (s_mv (v := .int .i64 v5) rfl) ?_
    refine f_op rfl rfl (s_sub rfl rfl) ?_
    refine f_op rfl rfl (s_as (v := .int .i64 (w64 (v5 - 1))) rfl) ?_
    refine f_nil ?_
    refine f_inBlock ?_
    refine f_inLoop ?_
    refine f_keep [0, 1, 4, 12, 13] ?_
    exact hkt1 v1 v2 v3 v4 (w64 (v5 - 1)) H
  · skip
    refine f_know 66 rfl (bool_F h1) ?_
    refine f_condF rfl ?_
    refine f_exit rfl ?_
    refine f_seq ?_
    refine f_seq ?_
    refine f_region ?_
    refine f_op rfl rfl (s_mv (v := .int .i64 v4) rfl) ?_
    refine f_op rfl rfl (s_mv (v := .int .i64 v5) rfl) ?_
    refine f_op rfl rfl (s_gtr rfl rfl) ?_
    refine f_nil ?_
    refine f_if (fun h2 => ?_) (fun h2 => ?_)
    · skip
      refine f_know 71 rfl (dec_true h2) ?_
      refine f_condT rfl ?_
      refine f_seq ?_
      refine f_ck fun g3 => ?_
      refine f_bind ?_; intro x4 hx4
      refine f_bind ?_; intro x5 hx5
      refine f_ck fun g6 => ?_
      refine f_bind ?_; intro x7 hx7
      refine f_bind ?_; intro x8 hx8
      refine f_ck fun g9 => ?_
      refine f_bind ?_; intro H10 hH10
      refine f_ck fun g11 => ?_
      refine f_bind ?_; intro H12 hH12
      refine f_draw (Φ := fun _ => True) (lim := 1000000) [0, 0, 0, 0, 0, 0, 0, 1, 0, 0, 0, 1, 0, 2, 0, 2] (Trc.pure rfl rfl rfl (.inl fun _ => s_mv (v := .sl v1) rfl) (Trc.pure rfl rfl rfl (.inl fun _ => s_mv (v := .int .i64 v5) rfl) (Trc.pure rfl rfl rfl (.inl fun _ => s_mv (v := .sl v1) rfl) (Trc.pure rfl rfl rfl (.inl fun _ => s_mv (v := .int .i64 v2) rfl) (Trc.pure rfl rfl rfl (.inl fun _ => s_mv (v := .sl v1) rfl) (Trc.pure rfl rfl rfl (.inl fun _ => s_mv (v := .int .i64 v2) rfl) (Trc.pure rfl rfl rfl (.inl fun _ => s_idx Tryd.underlying22 ty23 rfl rfl g3) (Trc.read rfl rfl rfl (s_loads Tryd.underlying23 rfl ty23 rfl (lds_cons (ldI_eq hx4) (lds_cons (ldI_eq hx5) (lds_nil)))) (Trc.pure rfl rfl rfl (.inl fun _ => s_mv (v := .sl v1) rfl) (Trc.pure rfl rfl rfl (.inl fun _ => s_mv (v := .int .i64 v5) rfl) (Trc.pure rfl rfl rfl (.inl fun _ => s_idx Tryd.underlying22 ty23 rfl rfl g6) (Trc.read rfl rfl rfl (s_loads Tryd.underlying23 rfl ty23 rfl (lds_cons (ldI_eq hx7) (lds_cons (ldI_eq hx8) (lds_nil)))) (Trc.pure rfl rfl rfl (.inl fun _ => s_idx Tryd.underlying22 ty23 rfl rfl g9) (Trc.eff rfl rfl rfl (fun _ => trivial) (s_stores ty23 rfl rfl rfl rfl hH10 (Nat.le_of_eq (sts_mono hH10).symm)) (Trc.pure rfl rfl rfl (.inl fun _ => s_idx Tryd.underlying22 ty23 rfl rfl g11) (Trc.eff rfl rfl rfl (fun _ => trivial) (s_stores ty23 rfl rfl rfl rfl hH12 (Nat.le_of_eq (sts_mono hH12).symm)) (Trc.nil (fun _ => trivial)))))))))))))))))) rfl (by decide +kernel) mixed ?_
      refine f_seq ?_
      refine f_region ?_
      refine f_op rfl rfl (s_mv (v := .int .i64 v5) rfl) ?_
      refine f_op rfl rfl (s_as (v := .int .i64 v5) rfl) ?_
      refine f_op rfl rfl (s_as (v := .bool true) rfl) ?_
      refine f_nil ?_
      exact f_ret (.tmp rfl (.tmp rfl (.nil))) rfl
    · skip
      refine f_know 71 rfl (dec_false h2) ?_
      refine f_condF rfl ?_
      refine f_skip ?_
      refine f_seq ?_
      refine f_ck fun g13 => ?_
      refine f_bind ?_; intro x14 hx14
      refine f_bind ?_; intro x15 hx15
      refine f_ck fun g16 => ?_
      refine f_bind ?_; intro x17 hx17
      refine f_bind ?_; intro x18 hx18
      refine f_ck fun g19 => ?_
      refine f_bind ?_; intro H20 hH20
      refine f_ck fun g21 => ?_
      refine f_bind ?_; intro H22 hH22
      refine f_draw (Φ := fun _ => True) (lim := 1000000) [0, 0, 0, 0, 0, 0, 0, 1, 0, 0, 0, 1, 0, 2, 0, 2] (Trc.pure rfl rfl rfl (.inl fun _ => s_mv (v := .sl v1) rfl) (Trc.pure rfl rfl rfl (.inl fun _ => s_mv (v := .int .i64 v4) rfl) (Trc.pure rfl rfl rfl (.inl fun _ => s_mv (v := .sl v1) rfl) (Trc.pure rfl rfl rfl (.inl fun _ => s_mv (v := .int .i64 v5) rfl) (Trc.pure rfl rfl rfl (.inl fun _ => s_mv (v := .sl v1) rfl) (Trc.pure rfl rfl rfl (.inl fun _ => s_mv (v := .int .i64 v5) rfl) (Trc.pure rfl rfl rfl (.inl fun _ => s_idx Tryd.underlying22 ty23 rfl rfl g13) (Trc.read rfl rfl rfl (s_loads Tryd.underlying23 rfl ty23 rfl (lds_cons (ldI_eq hx14) (lds_cons (ldI_eq hx15) (lds_nil)))) (Trc.pure rfl rfl rfl (.inl fun _ => s_mv (v := .sl v1) rfl) (Trc.pure rfl rfl rfl (.inl fun _ => s_mv (v := .int .i64 v4) rfl) (Trc.pure rfl rfl rfl (.inl fun _ => s_idx Tryd.underlying22 ty23 rfl rfl g16) (Trc.read rfl rfl rfl (s_loads Tryd.underlying23 rfl ty23 rfl (lds_cons (ldI_eq hx17) (lds_cons (ldI_eq hx18) (lds_nil)))) (Trc.pure rfl rfl rfl (.inl fun _ => s_idx Tryd.underlying22 ty23 rfl rfl g19) (Trc.eff rfl rfl rfl (fun _ => trivial) (s_stores ty23 rfl rfl rfl rfl hH20 (Nat.le_of_eq (sts_mono hH20).symm)) (Trc.pure rfl rfl rfl (.inl fun _ => s_idx Tryd.underlying22 ty23 rfl rfl g21) (Trc.eff rfl rfl rfl (fun _ => trivial) (s_stores ty23 rfl rfl rfl rfl hH22 (Nat.le_of_eq (sts_mono hH22).symm)) (Trc.nil (fun _ => trivial)))))))))))))))))) rfl (by decide +kernel) mixed ?_
      refine f_seq ?_
      refine f_region ?_
      refine f_op rfl rfl (s_mv (v := .int .i64 v4) rfl) ?_
      refine f_op rfl rfl (s_add rfl rfl) ?_
      refine f_op rfl rfl (s_as (v := .int .i64 (w64 (v4 + 1))) rfl) ?_
      refine f_nil ?_
      refine f_seq ?_
      refine f_region ?_
      refine f_op rfl rfl (s_mv (v := .int .i64 v5) rfl) ?_
      refine f_op rfl rfl (s_sub rfl rfl) ?_
      refine f_op rfl rfl (s_as (v := .int .i64 (w64 (v5 - 1))) rfl) ?_
      refine f_nil ?_
      refine f_seq ?_
      refine f_block ?_
      refine f_loop ?_
      refine f_keep [0, 1, 4, 12, 13] ?_
      exact s66_l3 happ FUEL v1 v2 v3 (w64 (v4 + 1)) (w64 (v5 - 1)) H22

theorem s66_l1 {app : App} (happ : AppSim Tryd.prog app) : ∀ (k_ : Nat) (v1 : Sl) (v2 : Int) (v3 : AV) (v4 : Int) (v5 : Int) (H : Hp), Fin Tryd.prog Tryd.f66 ret66 178 (todoAt (bodyOf Tryd.f66) [1, 1, 1, 1, 0, 0, 0] []) [(0, .sl v1), (1, .int .i64 v2), (4, v3), (12, .int .i64 v4), (13, .int .i64 v5)] H (r66_l1 app k_ v1 v2 v3 v4 v5 H) := by
  intro k_
  induction k_ with
  | zero => intro _ _ _ _ _ _; exact f_none
  | succ k_ ih =>
    intro v1 v2 v3 v4 v5 H
    rw [r66_l1]
    refine f_seq ?_
    refine f_seq ?_
    refine f_if (fun h1 => ?_) (fun h1 => ?_)
    · skip
      refine f_ck fun g2 => ?_
      refine f_bind ?_; intro x3 hx3
      refine f_bind ?_; intro x4 hx4
      refine f_ck fun g5 => ?_
      refine f_bind ?_; intro x6 hx6
      refine f_bind ?_; intro x7 hx7
      refine f_bind ?_; intro p8 hp8
      refine f_bind ?_; intro x9 hx9
      refine f_draw (Φ := fun _ => True) (lim := 1000000) [0, 0, 0, 0, 0, 0, 0, 0, 1, 0, 0, 0, 1, 2, 0, 0, 0] (Trc.pure rfl rfl rfl (.inl fun _ => s_mv (v := .int .i64 v4) rfl) (Trc.pure rfl rfl rfl (.inl fun _ => s_mv (v := .int .i64 v5) rfl) (Trc.pure rfl rfl rfl (.inl fun _ => s_leq rfl rfl) (Trc.pure rfl rfl rfl (.inl fun _ => s_mv (v := .bool (decide (v4 ≤ v5))) rfl) (Trc.know 53 rfl (dec_true h1) (Trc.pure rfl rfl rfl (.inl fun _ => s_mv (v := v3) rfl) (Trc.pure rfl rfl rfl (.inl fun _ => s_mv (v := .sl v1) rfl) (Trc.pure rfl rfl rfl (.inl fun _ => s_mv (v := .int .i64 v5) rfl) (Trc.pure rfl rfl rfl (.inl fun _ => s_idx Tryd.underlying22 ty23 rfl rfl g2) (Trc.read rfl rfl rfl (s_loads Tryd.underlying23 rfl ty23 rfl (lds_cons (ldI_eq hx3) (lds_cons (ldI_eq hx4) (lds_nil)))) (Trc.pure rfl rfl rfl (.inl fun _ => s_mv (v := .sl v1) rfl) (Trc.pure rfl rfl rfl (.inl fun _ => s_mv (v := .int .i64 v2) rfl) (Trc.pure rfl rfl rfl (.inl fun _ => s_idx Tryd.underlying22 ty23 rfl rfl g5) (Trc.read rfl rfl rfl (s_loads Tryd.underlying23 rfl ty23 rfl (lds_cons (ldI_eq hx6) (lds_cons (ldI_eq hx7) (lds_nil)))) (Trc.eff rfl rfl rfl (fun _ => trivial) (s_callv happ rfl rfl hp8) (Trc.know 63 rfl (asI_eq hx9) (Trc.pure rfl rfl rfl (.inl fun _ => s_lss rfl rfl) (Trc.pure rfl rfl rfl (.inl fun _ => s_not rfl) (Trc.pure rfl rfl rfl (.inl fun _ => s_pickT (v := .bool (!(decide (x9 < 0)))) rfl rfl) (Trc.nil (fun _ => trivial))))))))))))))))))))) rfl (by decide +kernel) mixed ?_
      refine f_keep [0, 1, 4, 12, 13, 66] ?_
      exact s66_j4 happ _ (fun v1_ v2_ v3_ v4_ v5_ H_ => ih v1_ v2_ v3_ v4_ v5_ H_) v1 v2 v3 v4 v5 (!(decide (x9 < 0))) p8.2
    · skip
      refine f_draw (Φ := fun _ => True) (lim := 1000000) [0, 0, 0, 0, 0, 0, 0, 0, 0, 0, 0, 0, 0, 0, 0, 0, 0] (Trc.pure rfl rfl rfl (.inl fun _ => s_mv (v := .int .i64 v4) rfl) (Trc.pure rfl rfl rfl (.inl fun _ => s_mv (v := .int .i64 v5) rfl) (Trc.pure rfl rfl rfl (.inl fun _ => s_leq rfl rfl) (Trc.pure rfl rfl rfl (.inl fun _ => s_mv (v := .bool (decide (v4 ≤ v5))) rfl) (Trc.know 53 rfl (dec_false h1) (Trc.no rfl rfl rfl (Trc.no rfl rfl rfl (Trc.no rfl rfl rfl (Trc.no rfl rfl rfl (Trc.no rfl rfl rfl (Trc.no rfl rfl rfl (Trc.no rfl rfl rfl (Trc.no rfl rfl rfl (Trc.no rfl rfl rfl (Trc.no rfl rfl rfl (Trc.no rfl rfl rfl (Trc.no rfl rfl rfl (Trc.pure rfl rfl rfl (.inl fun _ => s_pickF (v := .bool false) rfl rfl) (Trc.nil (fun _ => trivial)))))))))))))))))))) rfl (by decide +kernel) mixed ?_
      refine f_keep [0, 1, 4, 12, 13, 66] ?_
      exact s66_j4 happ _ (fun v1_ v2_ v3_ v4_ v5_ H_ => ih v1_ v2_ v3_ v4_ v5_ H_) v1 v2 v3 v4 v5 false H

theorem s66_j2 {app : App} (happ : AppSim Tryd.prog app) (kt0 : Sl → Int → AV → Int → Int → Hp → Option ((Int × Bool) × Hp)) (hkt0 : ∀ (v1 : Sl) (v2 : Int) (v3 : AV) (v4 : Int) (v5 : Int) (H : Hp), Fin Tryd.prog Tryd.f66 ret66 178 (todoAt (bodyOf Tryd.f66) [1, 1, 1, 0, 0, 0] []) [(0, .sl v1), (1, .int .i64 v2), (4, v3), (12, .int .i64 v4), (13, .int .i64 v5)] H (kt0 v1 v2 v3 v4 v5 H)) (v1 : Sl) (v2 : Int) (v3 : AV) (v4 : Int) (v5 : Int) (v6 : Bool) (H : Hp) : Fin Tryd.prog Tryd.f66 ret66 178 (todoAt (bodyOf Tryd.f66) [1, 1, 1, 0, 0, 0, 0, 1] []) [(0, .sl v1), (1, .int .i64 v2), (4, v3), (12, .int .i64 v4), (13, .int .i64 v5), (47, .bool v6)] H (r66_j2 app kt0 v1 v2 v3 v4 v5 v6 H) := by
  unfold r66_j2
  refine f_if (fun h1 => ?_) (fun h1 => ?_)
  · skip
    refine f_know 47 rfl (bool_T h1) ?_
    refine f_condT rfl ?_
    refine f_skip ?_
    refine f_block ?_
    refine f_region ?_
    refine f_op rfl rfl (s_mv (v := .int .i64 v4) rfl) ?_
    refine f_op rfl rfl (s_add rfl rfl) ?_
    refine f_op rfl rfl (s_as (v := .int .i64 (w64 (v4 + 1))) rfl) ?_
    refine f_nil ?_
    refine f_inBlock ?_
    refine f_inLoop ?_
    refine f_keep [0, 1, 4, 12, 13] ?_
    exact hkt0 v1 v2 v3 (w64 (v4 + 1)) v5 H
  · skip
    refine f_know 47 rfl (bool_F h1) ?_
    refine f_condF rfl ?_
    refine f_exit rfl ?_
    refine f_seq ?_
    refine f_block ?_
    refine f_loop ?_
    refine f_keep [0, 1, 4, 12, 13] ?_
    exact s66_l1 happ FUEL v1 v2 v3 v4 v5 H

theorem s66_l0 {app : App} (happ : AppSim Tryd.prog app) : ∀ (k_ : Nat) (v1 : Sl) (v2 : Int) (v3 : AV) (v4 : Int) (v5 : Int) (H : Hp), Fin Tryd.prog Tryd.f66 ret66 178 (todoAt (bodyOf Tryd.f66) [1, 1, 1, 0, 0, 0] []) [(0, .sl v1), (1, .int .i64 v2), (4, v3), (12, .int .i64 v4), (13, .int .i64 v5)] H (r66_l0 app k_ v1 v2 v3 v4 v5 H) := by
  intro k_
  induction k_ with
  | zero => intro _ _ _ _ _ _; exact f_none
  | succ k_ ih =>
    intro v1 v2 v3 v4 v5 H
    rw [r66_l0]
    refine f_seq ?_
    refine f_seq ?_
    refine f_if (fun h1 => ?_) (fun h1 => ?_)
    · skip
      refine f_ck fun g2 => ?_
      refine f_bind ?_; intro x3 hx3
      refine f_bind ?_; intro x4 hx4
      refine f_ck fun g5 => ?_
      refine f_bind ?_; intro x6 hx6
      refine f_bind ?_; intro x7 hx7
      refine f_bind ?_; intro p8 hp8
      refine f_bind ?_; intro x9 hx9
      refine f_draw (Φ := fun _ => True) (lim := 1000000) [0, 0, 0, 0, 0, 0, 0, 0, 1, 0, 0, 0, 1, 2, 0, 0] (Trc.pure rfl rfl rfl (.inl fun _ => s_mv (v := .int .i64 v4) rfl) (Trc.pure rfl rfl rfl (.inl fun _ => s_mv (v := .int .i64 v5) rfl) (Trc.pure rfl rfl rfl (.inl fun _ => s_leq rfl rfl) (Trc.pure rfl rfl rfl (.inl fun _ => s_mv (v := .bool (decide (v4 ≤ v5))) rfl) (Trc.know 35 rfl (dec_true h1) (Trc.pure rfl rfl rfl (.inl fun _ => s_mv (v := v3) rfl) (Trc.pure rfl rfl rfl (.inl fun _ => s_mv (v := .sl v1) rfl) (Trc.pure rfl rfl rfl (.inl fun _ => s_mv (v := .int .i64 v4) rfl) (Trc.pure rfl rfl rfl (.inl fun _ => s_idx Tryd.underlying22 ty23 rfl rfl g2) (Trc.read rfl rfl rfl (s_loads Tryd.underlying23 rfl ty23 rfl (lds_cons (ldI_eq hx3) (lds_cons (ldI_eq hx4) (lds_nil)))) (Trc.pure rfl rfl rfl (.inl fun _ => s_mv (v := .sl v1) rfl) (Trc.pure rfl rfl rfl (.inl fun _ => s_mv (v := .int .i64 v2) rfl) (Trc.pure rfl rfl rfl (.inl fun _ => s_idx Tryd.underlying22 ty23 rfl rfl g5) (Trc.read rfl rfl rfl (s_loads Tryd.underlying23 rfl ty23 rfl (lds_cons (ldI_eq hx6) (lds_cons (ldI_eq hx7) (lds_nil)))) (Trc.eff rfl rfl rfl (fun _ => trivial) (s_callv happ rfl rfl hp8) (Trc.know 45 rfl (asI_eq hx9) (Trc.pure rfl rfl rfl (.inl fun _ => s_lss rfl rfl) (Trc.pure rfl rfl rfl (.inl fun _ => s_pickT (v := .bool (decide (x9 < 0))) rfl rfl) (Trc.nil (fun _ => trivial)))))))))))))))))))) rfl (by decide +kernel) mixed ?_
      refine f_keep [0, 1, 4, 12, 13, 47] ?_
      exact s66_j2 happ _ (fun v1_ v2_ v3_ v4_ v5_ H_ => ih v1_ v2_ v3_ v4_ v5_ H_) v1 v2 v3 v4 v5 (decide (x9 < 0)) p8.2
    · skip
      refine f_draw (Φ := fun _ => True) (lim := 1000000) [0, 0, 0, 0, 0, 0, 0, 0, 0, 0, 0, 0, 0, 0, 0, 0] (Trc.pure rfl rfl rfl (.inl fun _ => s_mv (v := .int .i64 v4) rfl) (Trc.pure rfl rfl rfl (.inl fun _ => s_mv (v := .int .i64 v5) rfl) (Trc.pure rfl rfl rfl (.inl fun _ => s_leq rfl rfl) (Trc.pure rfl rfl rfl (.inl fun _ => s_mv (v := .bool (decide (v4 ≤ v5))) rfl) (Trc.know 35 rfl (dec_false h1) (Trc.no rfl rfl rfl (Trc.no rfl rfl rfl (Trc.no rfl rfl rfl (Trc.no rfl rfl rfl (Trc.no rfl rfl rfl (Trc.no rfl rfl rfl (Trc.no rfl rfl rfl (Trc.no rfl rfl rfl (Trc.no rfl rfl rfl (Trc.no rfl rfl rfl (Trc.no rfl rfl rfl (Trc.pure rfl rfl rfl (.inl fun _ => s_pickF (v := .bool false) rfl rfl) (Trc.nil (fun _ => trivial))))))))))))))))))) rfl (by decide +kernel) mixed ?_
      refine f_keep [0, 1, 4, 12, 13, 47] ?_
      exact s66_j2 happ _ (fun v1_ v2_ v3_ v4_ v5_ H_ => ih v1_ v2_ v3_ v4_ v5_ H_) v1 v2 v3 v4 v5 false H

theorem sim66 {app : App} (happ : AppSim Tryd.prog app) {a0 : Sl} {a1 : Int} {a2 : Int} {a3 : Int} {a4 : AV} {H : Hp} {p : (Int × Bool) × Hp} (h : r66 app a0 a1 a2 a3 a4 H = some p) : CallSim Tryd.prog 66 [.sl a0, .int .i64 a1, .int .i64 a2, .int .i64 a3, a4] H (.tup [.int .i64 p.1.1, .bool p.1.2]) p.2 := by
  refine callSim (fn := Tryd.f66) (ret := ret66) Tryd.func66 rfl Tryd.ntmps66 rfl ?_ h
  unfold r66
  refine f_seq ?_
  refine f_region ?_
  refine f_op rfl rfl (s_as (v := .int .i64 0) rfl) ?_
  refine f_op rfl rfl (s_as (v := .bool false) rfl) ?_
  refine f_nil ?_
  refine f_seq ?_
  refine f_ck fun g1 => ?_
  refine f_bind ?_; intro x2 hx2
  refine f_bind ?_; intro x3 hx3
  refine f_ck fun g4 => ?_
  refine f_bind ?_; intro x5 hx5
  refine f_bind ?_; intro x6 hx6
  refine f_ck fun g7 => ?_
  refine f_bind ?_; intro H8 hH8
  refine f_ck fun g9 => ?_
  refine f_bind ?_; intro H10 hH10
  refine f_draw (Φ := fun _ => True) (lim := 1000000) [0, 0, 0, 0, 0, 0, 0, 1, 0, 0, 0, 1, 0, 2, 0, 2] (Trc.pure rfl rfl rfl (.inl fun _ => s_mv (v := .sl a0) rfl) (Trc.pure rfl rfl rfl (.inl fun _ => s_mv (v := .int .i64 a1) rfl) (Trc.pure rfl rfl rfl (.inl fun _ => s_mv (v := .sl a0) rfl) (Trc.pure rfl rfl rfl (.inl fun _ => s_mv (v := .int .i64 a3) rfl) (Trc.pure rfl rfl rfl (.inl fun _ => s_mv (v := .sl a0) rfl) (Trc.pure rfl rfl rfl (.inl fun _ => s_mv (v := .int .i64 a3) rfl) (Trc.pure rfl rfl rfl (.inl fun _ => s_idx Tryd.underlying22 ty23 rfl rfl g1) (Trc.read rfl rfl rfl (s_loads Tryd.underlying23 rfl ty23 rfl (lds_cons (ldI_eq hx2) (lds_cons (ldI_eq hx3) (lds_nil)))) (Trc.pure rfl rfl rfl (.inl fun _ => s_mv (v := .sl a0) rfl) (Trc.pure rfl rfl rfl (.inl fun _ => s_mv (v := .int .i64 a1) rfl) (Trc.pure rfl rfl rfl (.inl fun _ => s_idx Tryd.underlying22 ty23 rfl rfl g4) (Trc.read rfl rfl rfl (s_loads Tryd.underlying23 rfl ty23 rfl (lds_cons (ldI_eq hx5) (lds_cons (ldI_eq hx6) (lds_nil)))) (Trc.pure rfl rfl rfl (.inl fun _ => s_idx Tryd.underlying22 ty23 rfl rfl g7) (Trc.eff rfl rfl rfl (fun _ => trivial) (s_stores ty23 rfl rfl rfl rfl hH8 (Nat.le_of_eq (sts_mono hH8).symm)) (Trc.pure rfl rfl rfl (.inl fun _ => s_idx Tryd.underlying22 ty23 rfl rfl g9) (Trc.eff rfl rfl rfl (fun _ => trivial) (s_stores ty23 rfl rfl rfl rfl hH10 (Nat.le_of_eq (sts_mono hH10).symm)) (Trc.nil (fun _ => trivial)))))))))))))))))) rfl (by decide +kernel) mixed ?_
  refine f_seq ?_
  refine f_region ?_
  refine f_op rfl rfl (s_mv (v := .int .i64 a1) rfl) ?_
  refine f_op rfl rfl (s_add rfl rfl) ?_
  refine f_op rfl rfl (s_mv (v := .int .i64 a2) rfl) ?_
  refine f_op rfl rfl (s_sub rfl rfl) ?_
  refine f_op rfl rfl (s_as (v := .int .i64 (w64 (a1 + 1))) rfl) ?_
  refine f_op rfl rfl (s_as (v := .int .i64 (w64 (a2 - 1))) rfl) ?_
  refine f_nil ?_
  refine f_seq ?_
  refine f_block ?_
  refine f_loop ?_
  refine f_keep [0, 1, 4, 12, 13] ?_
  exact s66_l0 happ FUEL a0 a1 a4 (w64 (a1 + 1)) (w64 (a2 - 1)) H10

end Go.Lt.P5
