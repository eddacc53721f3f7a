/- PRINTED BY A PROGRAM OF OURS: what each function that 'DealsEqual' reaches computes on the abstract heap, and that the translated code does just that. Nothing is asked of the input. -/
import Derived.Test.YtficeemoekikdaaG9P2
set_option linter.unusedVariables false
set_option linter.unusedSimpArgs false
set_option maxRecDepth 100000
set_option maxHeartbeats 4000000
namespace Go.Lt.P5
open Go Go.Lt Go.Proofs
/- 96 slices.partitionCmpFunc[[2]int] -/
theorem ok96 : FnOk Try.prog 96 := ⟨⟨Try.f96, Try.func96, by kernel_rfl, rfl⟩⟩
theorem s96_j8 {app : App} (happ : AppSim Try.prog app) (kt3 : Sl → Int → AV → Int → Int → Hp → Option ((Int × Bool) × Hp)) (hkt3 : ∀ (v1 : Sl) (v2 : Int) (v3 : AV) (v4 : Int) (v5 : Int) (H : Hp), Fin Try.prog Try.f96 ret96 178 (todoAt (bodyOf Try.f96) [1, 1, 1, 1, 1, 1, 1, 1, 1, 0, 0, 0] []) [(0, .sl v1), (1, .int .i64 v2), (4, v3), (12, .int .i64 v4), (13, .int .i64 v5)] H (kt3 v1 v2 v3 v4 v5 H)) (kt6 : Sl → Int → AV → Int → Int → Hp → Option ((Int × Bool) × Hp)) (hkt6 : ∀ (v1 : Sl) (v2 : Int) (v3 : AV) (v4 : Int) (v5 : Int) (H : Hp), Fin Try.prog Try.f96 ret96 178 (todoAt (bodyOf Try.f96) [1, 1, 1, 1, 1, 1, 1, 1, 1, 0, 0, 0, 0, 1, 0, 0, 0] []) [(0, .sl v1), (1, .int .i64 v2), (4, v3), (12, .int .i64 v4), (13, .int .i64 v5)] H (kt6 v1 v2 v3 v4 v5 H)) (v1 : Sl) (v2 : Int) (v3 : AV) (v4 : Int) (v5 : Int) (v6 : Bool) (H : Hp) : Fin Try.prog Try.f96 ret96 178 (todoAt (bodyOf Try.f96) [1, 1, 1, 1, 1, 1, 1, 1, 1, 0, 0, 0, 0, 1, 0, 0, 0, 0, 1] []) [(0, .sl v1), (1, .int .i64 v2), (4, v3), (12, .int .i64 v4), (13, .int .i64 v5), (139, .bool v6)] H (r96_j8 app kt3 kt6 v1 v2 v3 v4 v5 v6 H) := by
  unfold r96_j8
  refine f_if (fun h1 => ?_) (fun h1 => ?_)
  · skip
    refine f_know 139 rfl (bool_T h1) ?_
    refine f_condT rfl ?_
    refine f_skip ?_
    refine f_block ?_
    refine f_region ?_
    refine f_op rfl rfl (s_mv (v := .int .i64 v5) rfl) ?_
    refine f_op rfl rfl (s_sub rfl rfl) ?_
    refine f_op rfl rfl (s_as (v := .int .i64 (w64 (v5 - 1))) rfl) ?_
    refine f_nil ?_
    refine f_inBlock ?_
    refine f_inLoop ?_
    refine f_keep [0, 1, 4, 12, 13] ?_
    exact hkt6 v1 v2 v3 v4 (w64 (v5 - 1)) H
  · skip
    refine f_know 139 rfl (bool_F h1) ?_
    refine f_condF rfl ?_
    refine f_exit rfl ?_
    refine f_seq ?_
    refine f_seq ?_
    refine f_region ?_
    refine f_op rfl rfl (s_mv (v := .int .i64 v4) rfl) ?_
    refine f_op rfl rfl (s_mv (v := .int .i64 v5) rfl) ?_
    refine f_op rfl rfl (s_gtr rfl rfl) ?_
    refine f_nil ?_
    refine f_if (fun h2 => ?_) (fun h2 => ?_)
    · skip
      refine f_know 144 rfl (dec_true h2) ?_
      refine f_condT rfl ?_
      refine f_exit rfl ?_
      refine f_seq ?_
      refine f_ck fun g3 => ?_
      refine f_bind ?_; intro x4 hx4
      refine f_bind ?_; intro x5 hx5
      refine f_ck fun g6 => ?_
      refine f_bind ?_; intro x7 hx7
      refine f_bind ?_; intro x8 hx8
      refine f_ck fun g9 => ?_
      refine f_bind ?_; intro H10 hH10
      refine f_ck fun g11 => ?_
      refine f_bind ?_; intro H12 hH12
      refine f_draw (Φ := fun _ => True) (lim := 1000000) [0, 0, 0, 0, 0, 0, 0, 1, 0, 0, 0, 1, 0, 2, 0, 2] (Trc.pure rfl rfl rfl (.inl fun _ => s_mv (v := .sl v1) rfl) (Trc.pure rfl rfl rfl (.inl fun _ => s_mv (v := .int .i64 v5) rfl) (Trc.pure rfl rfl rfl (.inl fun _ => s_mv (v := .sl v1) rfl) (Trc.pure rfl rfl rfl (.inl fun _ => s_mv (v := .int .i64 v2) rfl) (Trc.pure rfl rfl rfl (.inl fun _ => s_mv (v := .sl v1) rfl) (Trc.pure rfl rfl rfl (.inl fun _ => s_mv (v := .int .i64 v2) rfl) (Trc.pure rfl rfl rfl (.inl fun _ => s_idx Try.underlying35 ty49 rfl rfl g3) (Trc.read rfl rfl rfl (s_loads Try.underlying49 rfl ty49 rfl (lds_cons (ldI_eq hx4) (lds_cons (ldI_eq hx5) (lds_nil)))) (Trc.pure rfl rfl rfl (.inl fun _ => s_mv (v := .sl v1) rfl) (Trc.pure rfl rfl rfl (.inl fun _ => s_mv (v := .int .i64 v5) rfl) (Trc.pure rfl rfl rfl (.inl fun _ => s_idx Try.underlying35 ty49 rfl rfl g6) (Trc.read rfl rfl rfl (s_loads Try.underlying49 rfl ty49 rfl (lds_cons (ldI_eq hx7) (lds_cons (ldI_eq hx8) (lds_nil)))) (Trc.pure rfl rfl rfl (.inl fun _ => s_idx Try.underlying35 ty49 rfl rfl g9) (Trc.eff rfl rfl rfl (fun _ => trivial) (s_stores ty49 rfl rfl rfl rfl hH10 (Nat.le_of_eq (sts_mono hH10).symm)) (Trc.pure rfl rfl rfl (.inl fun _ => s_idx Try.underlying35 ty49 rfl rfl g11) (Trc.eff rfl rfl rfl (fun _ => trivial) (s_stores ty49 rfl rfl rfl rfl hH12 (Nat.le_of_eq (sts_mono hH12).symm)) (Trc.nil (fun _ => trivial)))))))))))))))))) rfl (by decide +kernel) mixed ?_
      refine f_seq ?_
      refine f_region ?_
      refine f_op rfl rfl (s_mv (v := .int .i64 v5) rfl) ?_
      refine f_op rfl rfl (s_as (v := .int .i64 v5) rfl) ?_
      refine f_op rfl rfl (s_as (v := .bool false) rfl) ?_
      refine f_nil ?_
      exact f_ret (.tmp rfl (.tmp rfl (.nil))) rfl
    · skip
      refine f_know 144 rfl (dec_false h2) ?_
      refine f_condF rfl ?_
      refine f_skip ?_
      refine f_seq ?_
      refine f_ck fun g13 => ?_
      refine f_bind ?_; intro x14 hx14
      refine f_bind ?_; intro x15 hx15
      refine f_ck fun g16 => ?_
      refine f_bind ?_; intro x17 hx17
      refine f_bind ?_; intro x18 hx18
      refine f_ck fun g19 => ?_
      refine f_bind ?_; intro H20 hH20
      refine f_ck fun g21 => ?_
      refine f_bind ?_; intro H22 hH22
      refine f_draw (Φ := fun _ => True) (lim := 1000000) [0, 0, 0, 0, 0, 0, 0, 1, 0, 0, 0, 1, 0, 2, 0, 2] (Trc.pure rfl rfl rfl (.inl fun _ => s_mv (v := .sl v1) rfl) (Trc.pure rfl rfl rfl (.inl fun _ => s_mv (v := .int .i64 v4) rfl) (Trc.pure rfl rfl rfl (.inl fun _ => s_mv (v := .sl v1) rfl) (Trc.pure rfl rfl rfl (.inl fun _ => s_mv (v := .int .i64 v5) rfl) (Trc.pure rfl rfl rfl (.inl fun _ => s_mv (v := .sl v1) rfl) (Trc.pure rfl rfl rfl (.inl fun _ => s_mv (v := .int .i64 v5) rfl) (Trc.pure rfl rfl rfl (.inl fun _ => s_idx Try.underlying35 ty49 rfl rfl g13) (Trc.read rfl rfl rfl (s_loads Try.underlying49 rfl ty49 rfl (lds_cons (ldI_eq hx14) (lds_cons (ldI_eq hx15) (lds_nil)))) (Trc.pure rfl rfl rfl (.inl fun _ => s_mv (v := .sl v1) rfl) (Trc.pure rfl rfl rfl (.inl fun _ => s_mv (v := .int .i64 v4) rfl) (Trc.pure rfl rfl rfl (.inl fun _ => s_idx Try.underlying35 ty49 rfl rfl g16) (Trc.read rfl rfl rfl (s_loads Try.underlying49 rfl ty49 rfl (lds_cons (ldI_eq hx17) (lds_cons (ldI_eq hx18) (lds_nil)))) (Trc.pure rfl rfl rfl (.inl fun _ => s_idx Try.underlying35 ty49 rfl rfl g19) (Trc.eff rfl rfl rfl (fun _ => trivial) (s_stores ty49 rfl rfl rfl rfl hH20 (Nat.le_of_eq (sts_mono hH20).symm)) (Trc.pure rfl rfl rfl (.inl fun _ => s_idx Try.underlying35 ty49 rfl rfl g21) (Trc.eff rfl rfl rfl (fun _ => trivial) (s_stores ty49 rfl rfl rfl rfl hH22 (Nat.le_of_eq (sts_mono hH22).symm)) (Trc.nil (fun _ => trivial)))))))))))))))))) rfl (by decide +kernel) mixed ?_
      refine f_seq ?_
      refine f_region ?_
      refine f_op rfl rfl (s_mv (v := .int .i64 v4) rfl) ?_
      refine f_op rfl rfl (s_add rfl rfl) ?_
      refine f_op rfl rfl (s_as (v := .int .i64 (w64 (v4 + 1))) rfl) ?_
      refine f_nil ?_
      refine f_region ?_
      refine f_op rfl rfl (s_mv (v := .int .i64 v5) rfl) ?_
      refine f_op rfl rfl (s_sub rfl rfl) ?_
      refine f_op rfl rfl (s_as (v := .int .i64 (w64 (v5 - 1))) rfl) ?_
      refine f_nil ?_
      refine f_inBlock ?_
      refine f_inLoop ?_
      refine f_keep [0, 1, 4, 12, 13] ?_
      exact hkt3 v1 v2 v3 (w64 (v4 + 1)) (w64 (v5 - 1)) H22

theorem s96_l6 {app : App} (happ : AppSim Try.prog app) (kt3 : Sl → Int → AV → Int → Int → Hp → Option ((Int × Bool) × Hp)) (hkt3 : ∀ (v1 : Sl) (v2 : Int) (v3 : AV) (v4 : Int) (v5 : Int) (H : Hp), Fin Try.prog Try.f96 ret96 178 (todoAt (bodyOf Try.f96) [1, 1, 1, 1, 1, 1, 1, 1, 1, 0, 0, 0] []) [(0, .sl v1), (1, .int .i64 v2), (4, v3), (12, .int .i64 v4), (13, .int .i64 v5)] H (kt3 v1 v2 v3 v4 v5 H)) : ∀ (k_ : Nat) (v1 : Sl) (v2 : Int) (v3 : AV) (v4 : Int) (v5 : Int) (H : Hp), Fin Try.prog Try.f96 ret96 178 (todoAt (bodyOf Try.f96) [1, 1, 1, 1, 1, 1, 1, 1, 1, 0, 0, 0, 0, 1, 0, 0, 0] []) [(0, .sl v1), (1, .int .i64 v2), (4, v3), (12, .int .i64 v4), (13, .int .i64 v5)] H (r96_l6 app kt3 k_ v1 v2 v3 v4 v5 H) := by
  intro k_
  induction k_ with
  | zero => intro _ _ _ _ _ _; exact f_none
  | succ k_ ih =>
    intro v1 v2 v3 v4 v5 H
    rw [r96_l6]
    refine f_seq ?_
    refine f_seq ?_
    refine f_if (fun h1 => ?_) (fun h1 => ?_)
    · skip
      refine f_ck fun g2 => ?_
      refine f_bind ?_; intro x3 hx3
      refine f_bind ?_; intro x4 hx4
      refine f_ck fun g5 => ?_
      refine f_bind ?_; intro x6 hx6
      refine f_bind ?_; intro x7 hx7
      refine f_bind ?_; intro p8 hp8
      refine f_bind ?_; intro x9 hx9
      refine f_draw (Φ := fun _ => True) (lim := 1000000) [0, 0, 0, 0, 0, 0, 0, 0, 1, 0, 0, 0, 1, 2, 0, 0, 0] (Trc.pure rfl rfl rfl (.inl fun _ => s_mv (v := .int .i64 v4) rfl) (Trc.pure rfl rfl rfl (.inl fun _ => s_mv (v := .int .i64 v5) rfl) (Trc.pure rfl rfl rfl (.inl fun _ => s_leq rfl rfl) (Trc.pure rfl rfl rfl (.inl fun _ => s_mv (v := .bool (decide (v4 ≤ v5))) rfl) (Trc.know 126 rfl (dec_true h1) (Trc.pure rfl rfl rfl (.inl fun _ => s_mv (v := v3) rfl) (Trc.pure rfl rfl rfl (.inl fun _ => s_mv (v := .sl v1) rfl) (Trc.pure rfl rfl rfl (.inl fun _ => s_mv (v := .int .i64 v5) rfl) (Trc.pure rfl rfl rfl (.inl fun _ => s_idx Try.underlying35 ty49 rfl rfl g2) (Trc.read rfl rfl rfl (s_loads Try.underlying49 rfl ty49 rfl (lds_cons (ldI_eq hx3) (lds_cons (ldI_eq hx4) (lds_nil)))) (Trc.pure rfl rfl rfl (.inl fun _ => s_mv (v := .sl v1) rfl) (Trc.pure rfl rfl rfl (.inl fun _ => s_mv (v := .int .i64 v2) rfl) (Trc.pure rfl rfl rfl (.inl fun _ => s_idx Try.underlying35 ty49 rfl rfl g5) (Trc.read rfl rfl rfl (s_loads Try.underlying49 rfl ty49 rfl (lds_cons (ldI_eq hx6) (lds_cons (ldI_eq hx7) (lds_nil)))) (Trc.eff rfl rfl rfl (fun _ => trivial) (s_callv happ rfl rfl hp8) (Trc.know 136 rfl (asI_eq hx9) (Trc.pure rfl rfl rfl (.inl fun _ => s_lss rfl rfl) (Trc.pure rfl rfl rfl (.inl fun _ => s_not rfl) (Trc.pure rfl rfl rfl (.inl fun _ => s_pickT (v := .bool (!(decide (x9 < 0)))) rfl rfl) (Trc.nil (fun _ => trivial))))))))))))))))))))) rfl (by decide +kernel) mixed ?_
      refine f_keep [0, 1, 4, 12, 13, 139] ?_
      exact s96_j8 happ _ hkt3 _ (fun v1_ v2_ v3_ v4_ v5_ H_ => ih v1_ v2_ v3_ v4_ v5_ H_) v1 v2 v3 v4 v5 (!(decide (x9 < 0))) p8.2
    · skip
      refine f_draw (Φ := fun _ => True) (lim := 1000000) [0, 0, 0, 0, 0, 0, 0, 0, 0, 0, 0, 0, 0, 0, 0, 0, 0] (Trc.pure rfl rfl rfl (.inl fun _ => s_mv (v := .int .i64 v4) rfl) (Trc.pure rfl rfl rfl (.inl fun _ => s_mv (v := .int .i64 v5) rfl) (Trc.pure rfl rfl rfl (.inl fun _ => s_leq rfl rfl) (Trc.pure rfl rfl rfl (.inl fun _ => s_mv (v := .bool (decide (v4 ≤ v5))) rfl) (Trc.know 126 rfl (dec_false h1) (Trc.no rfl rfl rfl (Trc.no rfl rfl rfl (Trc.no rfl rfl rfl (Trc.no rfl rfl rfl (Trc.no rfl rfl rfl (Trc.no rfl rfl rfl (Trc.no rfl rfl rfl (Trc.no rfl rfl rfl (Trc.no rfl rfl rfl (Trc.no rfl rfl rfl (Trc.no rfl rfl rfl (Trc.no rfl rfl rfl (Trc.pure rfl rfl rfl (.inl fun _ => s_pickF (v := .bool false) rfl rfl) (Trc.nil (fun _ => trivial)))))))))))))))))))) rfl (by decide +kernel) mixed ?_
      refine f_keep [0, 1, 4, 12, 13, 139] ?_
      exact s96_j8 happ _ hkt3 _ (fun v1_ v2_ v3_ v4_ v5_ H_ => ih v1_ v2_ v3_ v4_ v5_ H_) v1 v2 v3 v4 v5 false H

theorem s96_j7 {app : App} (happ : AppSim Try.prog app) (kt3 : Sl → Int → AV → Int → Int → Hp → Option ((Int × Bool) × Hp)) (hkt3 : ∀ (v1 : Sl) (v2 : Int) (v3 : AV) (v4 : Int) (v5 : Int) (H : Hp), Fin Try.prog Try.f96 ret96 178 (todoAt (bodyOf Try.f96) [1, 1, 1, 1, 1, 1, 1, 1, 1, 0, 0, 0] []) [(0, .sl v1), (1, .int .i64 v2), (4, v3), (12, .int .i64 v4), (13, .int .i64 v5)] H (kt3 v1 v2 v3 v4 v5 H)) (kt5 : Sl → Int → AV → Int → Int → Hp → Option ((Int × Bool) × Hp)) (hkt5 : ∀ (v1 : Sl) (v2 : Int) (v3 : AV) (v4 : Int) (v5 : Int) (H : Hp), Fin Try.prog Try.f96 ret96 178 (todoAt (bodyOf Try.f96) [1, 1, 1, 1, 1, 1, 1, 1, 1, 0, 0, 0, 0, 0, 0, 0] []) [(0, .sl v1), (1, .int .i64 v2), (4, v3), (12, .int .i64 v4), (13, .int .i64 v5)] H (kt5 v1 v2 v3 v4 v5 H)) (v1 : Sl) (v2 : Int) (v3 : AV) (v4 : Int) (v5 : Int) (v6 : Bool) (H : Hp) : Fin Try.prog Try.f96 ret96 178 (todoAt (bodyOf Try.f96) [1, 1, 1, 1, 1, 1, 1, 1, 1, 0, 0, 0, 0, 0, 0, 0, 0, 1] []) [(0, .sl v1), (1, .int .i64 v2), (4, v3), (12, .int .i64 v4), (13, .int .i64 v5), (120, .bool v6)] H (r96_j7 app kt3 kt5 v1 v2 v3 v4 v5 v6 H) := by
  unfold r96_j7
  refine f_if (fun h1 => ?_) (fun h1 => ?_)
  · skip
    refine f_know 120 rfl (bool_T h1) ?_
    refine f_condT rfl ?_
    refine f_skip ?_
    refine f_block ?_
    refine f_region ?_
    refine f_op rfl rfl (s_mv (v := .int .i64 v4) rfl) ?_
    refine f_op rfl rfl (s_add rfl rfl) ?_
    refine f_op rfl rfl (s_as (v := .int .i64 (w64 (v4 + 1))) rfl) ?_
    refine f_nil ?_
    refine f_inBlock ?_
    refine f_inLoop ?_
    refine f_keep [0, 1, 4, 12, 13] ?_
    exact hkt5 v1 v2 v3 (w64 (v4 + 1)) v5 H
  · skip
    refine f_know 120 rfl (bool_F h1) ?_
    refine f_condF rfl ?_
    refine f_exit rfl ?_
    refine f_seq ?_
    refine f_block ?_
    refine f_loop ?_
    refine f_keep [0, 1, 4, 12, 13] ?_
    exact s96_l6 happ _ hkt3 FUEL v1 v2 v3 v4 v5 H

theorem s96_l5 {app : App} (happ : AppSim Try.prog app) (kt3 : Sl → Int → AV → Int → Int → Hp → Option ((Int × Bool) × Hp)) (hkt3 : ∀ (v1 : Sl) (v2 : Int) (v3 : AV) (v4 : Int) (v5 : Int) (H : Hp), Fin Try.prog Try.f96 ret96 178 (todoAt (bodyOf Try.f96) [1, 1, 1, 1, 1, 1, 1, 1, 1, 0, 0, 0] []) [(0, .sl v1), (1, .int .i64 v2), (4, v3), (12, .int .i64 v4), (13, .int .i64 v5)] H (kt3 v1 v2 v3 v4 v5 H)) : ∀ (k_ : Nat) (v1 : Sl) (v2 : Int) (v3 : AV) (v4 : Int) (v5 : Int) (H : Hp), Fin Try.prog Try.f96 ret96 178 (todoAt (bodyOf Try.f96) [1, 1, 1, 1, 1, 1, 1, 1, 1, 0, 0, 0, 0, 0, 0, 0] []) [(0, .sl v1), (1, .int .i64 v2), (4, v3), (12, .int .i64 v4), (13, .int .i64 v5)] H (r96_l5 app kt3 k_ v1 v2 v3 v4 v5 H) := by
  intro k_
  induction k_ with
  | zero => intro _ _ _ _ _ _; exact f_none
  | succ k_ ih =>
    intro v1 v2 v3 v4 v5 H
    rw [r96_l5]
    refine f_seq ?_
    refine f_seq ?_
    refine f_if (fun h1 => ?_) (fun h1 => ?_)
    · skip
      refine f_ck fun g2 => ?_
      refine f_bind ?_; intro x3 hx3
      refine f_bind ?_; intro x4 hx4
      refine f_ck fun g5 => ?_
      refine f_bind ?_; intro x6 hx6
      refine f_bind ?_; intro x7 hx7
      refine f_bind ?_; intro p8 hp8
      refine f_bind ?_; intro x9 hx9
      refine f_draw (Φ := fun _ => True) (lim := 1000000) [0, 0, 0, 0, 0, 0, 0, 0, 1, 0, 0, 0, 1, 2, 0, 0] (Trc.pure rfl rfl rfl (.inl fun _ => s_mv (v := .int .i64 v4) rfl) (Trc.pure rfl rfl rfl (.inl fun _ => s_mv (v := .int .i64 v5) rfl) (Trc.pure rfl rfl rfl (.inl fun _ => s_leq rfl rfl) (Trc.pure rfl rfl rfl (.inl fun _ => s_mv (v := .bool (decide (v4 ≤ v5))) rfl) (Trc.know 108 rfl (dec_true h1) (Trc.pure rfl rfl rfl (.inl fun _ => s_mv (v := v3) rfl) (Trc.pure rfl rfl rfl (.inl fun _ => s_mv (v := .sl v1) rfl) (Trc.pure rfl rfl rfl (.inl fun _ => s_mv (v := .int .i64 v4) rfl) (Trc.pure rfl rfl rfl (.inl fun _ => s_idx Try.underlying35 ty49 rfl rfl g2) (Trc.read rfl rfl rfl (s_loads Try.underlying49 rfl ty49 rfl (lds_cons (ldI_eq hx3) (lds_cons (ldI_eq hx4) (lds_nil)))) (Trc.pure rfl rfl rfl (.inl fun _ => s_mv (v := .sl v1) rfl) (Trc.pure rfl rfl rfl (.inl fun _ => s_mv (v := .int .i64 v2) rfl) (Trc.pure rfl rfl rfl (.inl fun _ => s_idx Try.underlying35 ty49 rfl rfl g5) (Trc.read rfl rfl rfl (s_loads Try.underlying49 rfl ty49 rfl (lds_cons (ldI_eq hx6) (lds_cons (ldI_eq hx7) (lds_nil)))) (Trc.eff rfl rfl rfl (fun _ => trivial) (s_callv happ rfl rfl hp8) (Trc.know 118 rfl (asI_eq hx9) (Trc.pure rfl rfl rfl (.inl fun _ => s_lss rfl rfl) (Trc.pure rfl rfl rfl (.inl fun _ => s_pickT (v := .bool (decide (x9 < 0))) rfl rfl) (Trc.nil (fun _ => trivial)))))))))))))))))))) rfl (by decide +kernel) mixed ?_
      refine f_keep [0, 1, 4, 12, 13, 120] ?_
      exact s96_j7 happ _ hkt3 _ (fun v1_ v2_ v3_ v4_ v5_ H_ => ih v1_ v2_ v3_ v4_ v5_ H_) v1 v2 v3 v4 v5 (decide (x9 < 0)) p8.2
    · skip
      refine f_draw (Φ := fun _ => True) (lim := 1000000) [0, 0, 0, 0, 0, 0, 0, 0, 0, 0, 0, 0, 0, 0, 0, 0] (Trc.pure rfl rfl rfl (.inl fun _ => s_mv (v := .int .i64 v4) rfl) (Trc.pure rfl rfl rfl (.inl fun _ => s_mv (v := .int .i64 v5) rfl) (Trc.pure rfl rfl rfl (.inl fun _ => s_leq rfl rfl) (Trc.pure rfl rfl rfl (.inl fun _ => s_mv (v := .bool (decide (v4 ≤ v5))) rfl) (Trc.know 108 rfl (dec_false h1) (Trc.no rfl rfl rfl (Trc.no rfl rfl rfl (Trc.no rfl rfl rfl (Trc.no rfl rfl rfl (Trc.no rfl rfl rfl (Trc.no rfl rfl rfl (Trc.no rfl rfl rfl (Trc.no rfl rfl rfl (Trc.no rfl rfl rfl (Trc.no rfl rfl rfl (Trc.no rfl rfl rfl (Trc.pure rfl rfl rfl (.inl fun _ => s_pickF (v := .bool false) rfl rfl) (Trc.nil (fun _ => trivial))))))))))))))))))) rfl (by decide +kernel) mixed ?_
      refine f_keep [0, 1, 4, 12, 13, 120] ?_
      exact s96_j7 happ _ hkt3 _ (fun v1_ v2_ v3_ v4_ v5_ H_ => ih v1_ v2_ v3_ v4_ v5_ H_) v1 v2 v3 v4 v5 false H

theorem s96_l3 {app : App} (happ : AppSim Try.prog app) : ∀ (k_ : Nat) (v1 : Sl) (v2 : Int) (v3 : AV) (v4 : Int) (v5 : Int) (H : Hp), Fin Try.prog Try.f96 ret96 178 (todoAt (bodyOf Try.f96) [1, 1, 1, 1, 1, 1, 1, 1, 1, 0, 0, 0] []) [(0, .sl v1), (1, .int .i64 v2), (4, v3), (12, .int .i64 v4), (13, .int .i64 v5)] H (r96_l3 app k_ v1 v2 v3 v4 v5 H) := by
  intro k_
  induction k_ with
  | zero => intro _ _ _ _ _ _; exact f_none
  | succ k_ ih =>
    intro v1 v2 v3 v4 v5 H
    rw [r96_l3]
    refine f_block ?_
    refine f_seq ?_
    refine f_block ?_
    refine f_loop ?_
    refine f_keep [0, 1, 4, 12, 13] ?_
    exact s96_l5 happ _ (fun v1_ v2_ v3_ v4_ v5_ H_ => ih v1_ v2_ v3_ v4_ v5_ H_) FUEL v1 v2 v3 v4 v5 H

theorem s96_j4 {app : App} (happ : AppSim Try.prog app) (kt1 : Sl → Int → AV → Int → Int → Hp → Option ((Int × Bool) × Hp)) (hkt1 : ∀ (v1 : Sl) (v2 : Int) (v3 : AV) (v4 : Int) (v5 : Int) (H : Hp), Fin Try.prog Try.f96 ret96 178 (todoAt (bodyOf Try.f96) [1, 1, 1, 1, 0, 0, 0] []) [(0, .sl v1), (1, .int .i64 v2), (4, v3), (12, .int .i64 v4), (13, .int .i64 v5)] H (kt1 v1 v2 v3 v4 v5 H)) (v1 : Sl) (v2 : Int) (v3 : AV) (v4 : Int) (v5 : Int) (v6 : Bool) (H : Hp) : Fin Try.prog Try.f96 ret96 178 (todoAt (bodyOf Try.f96) [1, 1, 1, 1, 0, 0, 0, 0, 1] []) [(0, .sl v1), (1, .int .i64 v2), (4, v3), (12, .int .i64 v4), (13, .int .i64 v5), (66, .bool v6)] H (r96_j4 app kt1 v1 v2 v3 v4 v5 v6 H) := by
  unfold r96_j4
  refine f_if (fun h1 => ?_) (fun h1 => ?_)
  · skip
    refine f_know 66 rfl (bool_T h1) ?_
    refine f_condT rfl ?_
    refine f_skip ?_
    refine f_block ?_
    refine f_region ?_
    refine f_op rfl rfl (s_mv (v := .int .i64 v5) rfl) ?_
    refine f_op rfl rfl (s_sub rfl rfl) ?_
    refine f_op rfl rfl (s_as (v := .int .i64 (w64 (v5 - 1))) rfl) ?_
    refine f_nil ?_
    refine f_inBlock ?_
    refine f_inLoop ?_
    refine f_keep [0, 1, 4, 12, 13] ?_
    exact hkt1 v1 v2 v3 v4 (w64 (v5 - 1)) H
  · skip
    refine f_know 66 rfl (bool_F h1) ?_
    refine f_condF rfl ?_
    refine f_exit rfl ?_
    refine f_seq ?_
    refine f_seq ?_
    refine f_region ?_
    refine f_op rfl rfl (s_mv (v := .int .i64 v4) rfl) ?_
    refine f_op rfl rfl (s_mv (v := .int .i64 v5) rfl) ?_
    refine f_op rfl rfl (s_gtr rfl rfl) ?_
    refine f_nil ?_
    refine f_if (fun h2 => ?_) (fun h2 => ?_)
    · skip
      refine f_know 71 rfl (dec_true h2) ?_
      refine f_condT rfl ?_
      refine f_seq ?_
      refine f_ck fun g3 => ?_
      refine f_bind ?_; intro x4 hx4
      refine f_bind ?_; intro x5 hx5
      refine f_ck fun g6 => ?_
      refine f_bind ?_; intro x7 hx7
      refine f_bind ?_; intro x8 hx8
      refine f_ck fun g9 => ?_
      refine f_bind ?_; intro H10 hH10
      refine f_ck fun g11 => ?_
      refine f_bind ?_; intro H12 hH12
      refine f_draw (Φ := fun _ => True) (lim := 1000000) [0, 0, 0, 0, 0, 0, 0, 1, 0, 0, 0, 1, 0, 2, 0, 2] (Trc.pure rfl rfl rfl (.inl fun _ => s_mv (v := .sl v1) rfl) (Trc.pure rfl rfl rfl (.inl fun _ => s_mv (v := .int .i64 v5) rfl) (Trc.pure rfl rfl rfl (.inl fun _ => s_mv (v := .sl v1) rfl) (Trc.pure rfl rfl rfl (.inl fun _ => s_mv (v := .int .i64 v2) rfl) (Trc.pure rfl rfl rfl (.inl fun _ => s_mv (v := .sl v1) rfl) (Trc.pure rfl rfl rfl (.inl fun _ => s_mv (v := .int .i64 v2) rfl) (Trc.pure rfl rfl rfl (.inl fun _ => s_idx Try.underlying35 ty49 rfl rfl g3) (Trc.read rfl rfl rfl (s_loads Try.underlying49 rfl ty49 rfl (lds_cons (ldI_eq hx4) (lds_cons (ldI_eq hx5) (lds_nil)))) (Trc.pure rfl rfl rfl (.inl fun _ => s_mv (v := .sl v1) rfl) (Trc.pure rfl rfl rfl (.inl fun _ => s_mv (v := .int .i64 v5) rfl) (Trc.pure rfl rfl rfl (.inl fun _ => s_idx Try.underlying35 ty49 rfl rfl g6) (Trc.read rfl rfl rfl (s_loads Try.underlying49 rfl ty49 rfl (lds_cons (ldI_eq hx7) (lds_cons (ldI_eq hx8) (lds_nil)))) (Trc.pure rfl rfl rfl (.inl fun _ => s_idx Try.underlying35 ty49 rfl rfl g9) (Trc.eff rfl rfl rfl (fun _ => trivial) (s_stores ty49 rfl rfl rfl rfl hH10 (Nat.le_of_eq (sts_mono hH10).symm)) (Trc.pure rfl rfl rfl (.inl fun _ => s_idx Try.underlying35 ty49 rfl rfl g11) (Trc.eff rfl rfl rfl (fun _ => trivial) (s_stores ty49 rfl rfl rfl rfl hH12 (Nat.le_of_eq (sts_mono hH12).symm)) (Trc.nil (fun _ => trivial)))))))))))))))))) rfl (by decide +kernel) mixed ?_
      refine f_seq ?_
      refine f_region ?_
      refine f_op rfl rfl (s_mv (v := .int .i64 v5) rfl) ?_
      refine f_op rfl rfl (s_as (v := .int .i64 v5) rfl) ?_
      refine f_op rfl rfl (s_as (v := .bool true) rfl) ?_
      refine f_nil ?_
      exact f_ret (.tmp rfl (.tmp rfl (.nil))) rfl
    · skip
      refine f_know 71 rfl (dec_false h2) ?_
      refine f_condF rfl ?_
      refine f_skip ?_
      refine f_seq ?_
      refine f_ck fun g13 => ?_
      refine f_bind ?_; intro x14 hx14
      refine f_bind ?_; intro x15 hx15
      refine f_ck fun g16 => ?_
      refine f_bind ?_; intro x17 hx17
      refine f_bind ?_; intro x18 hx18
      refine f_ck fun g19 => ?_
      refine f_bind ?_; intro H20 hH20
      refine f_ck fun g21 => ?_
      refine f_bind ?_; intro H22 hH22
      refine f_draw (Φ := fun _ => True) (lim := 1000000) [0, 0, 0, 0, 0, 0, 0, 1, 0, 0, 0, 1, 0, 2, 0, 2] (Trc.pure rfl rfl rfl (.inl fun _ => s_mv (v := .sl v1) rfl) (Trc.pure rfl rfl rfl (.inl fun _ => s_mv (v := .int .i64 v4) rfl) (Trc.pure rfl rfl rfl (.inl fun _ => s_mv (v := .sl v1) rfl) (Trc.pure rfl rfl rfl (.inl fun _ => s_mv (v := .int .i64 v5) rfl) (Trc.pure rfl rfl rfl (.inl fun _ => s_mv (v := .sl v1) rfl) (Trc.pure rfl rfl rfl (.inl fun _ => s_mv (v := .int .i64 v5) rfl) (Trc.pure rfl rfl rfl (.inl fun _ => s_idx Try.underlying35 ty49 rfl rfl g13) (Trc.read rfl rfl rfl (s_loads Try.underlying49 rfl ty49 rfl (lds_cons (ldI_eq hx14) (lds_cons (ldI_eq hx15) (lds_nil)))) (Trc.pure rfl rfl rfl (.inl fun _ => s_mv (v := .sl v1) rfl) (Trc.pure rfl rfl rfl (.inl fun _ => s_mv (v := .int .i64 v4) rfl) (Trc.pure rfl rfl rfl (.inl fun _ => s_idx Try.underlying35 ty49 rfl rfl g16) (Trc.read rfl rfl rfl (s_loads Try.underlying49 rfl ty49 rfl (lds_cons (ldI_eq hx17) (lds_cons (ldI_eq hx18) (lds_nil)))) (Trc.pure rfl rfl rfl (.inl fun _ => s_idx Try.underlying35 ty49 rfl rfl g19) (Trc.eff rfl rfl rfl (fun _ => trivial) (s_stores ty49 rfl rfl rfl rfl hH20 (Nat.le_of_eq (sts_mono hH20).symm)) (Trc.pure rfl rfl rfl (.inl fun _ => s_idx Try.underlying35 ty49 rfl rfl g21) (Trc.eff rfl rfl rfl (fun _ => trivial) (s_stores ty49 rfl rfl rfl rfl hH22 (Nat.le_of_eq (sts_mono hH22).symm)) (Trc.nil (fun _ => trivial)))))))))))))))))) rfl (by decide +kernel) mixed ?_
      refine f_seq ?_
      refine f_region ?_
      refine f_op rfl rfl (s_mv (v := .int .i64 v4) rfl) ?_
      refine f_op rfl rfl (s_add rfl rfl) ?_
      refine f_op rfl rfl (s_as (v := .int .i64 (w64 (v4 + 1))) rfl) ?_
      refine f_nil ?_
      refine f_seq ?_
      refine f_region ?_
      refine f_op rfl rfl (s_mv (v := .int .i64 v5) rfl) ?_
      refine f_op rfl rfl (s_sub rfl rfl) ?_
      refine f_op rfl rfl (s_as (v := .int .i64 (w64 (v5 - 1))) rfl) ?_
      refine f_nil ?_
      refine f_seq ?_
      refine f_block ?_
      refine f_loop ?_
      refine f_keep [0, 1, 4, 12, 13] ?_
      exact s96_l3 happ FUEL v1 v2 v3 (w64 (v4 + 1)) (w64 (v5 - 1)) H22

theorem s96_l1 {app : App} (happ : AppSim Try.prog app) : ∀ (k_ : Nat) (v1 : Sl) (v2 : Int) (v3 : AV) (v4 : Int) (v5 : Int) (H : Hp), Fin Try.prog Try.f96 ret96 178 (todoAt (bodyOf Try.f96) [1, 1, 1, 1, 0, 0, 0] []) [(0, .sl v1), (1, .int .i64 v2), (4, v3), (12, .int .i64 v4), (13, .int .i64 v5)] H (r96_l1 app k_ v1 v2 v3 v4 v5 H) := by
  intro k_
  induction k_ with
  | zero => intro _ _ _ _ _ _; exact f_none
  | succ k_ ih =>
    intro v1 v2 v3 v4 v5 H
    rw [r96_l1]
    refine f_seq ?_
    refine f_seq ?_
    refine f_if (fun h1 => ?_) (fun h1 => ?_)
    · skip
      refine f_ck fun g2 => ?_
      refine f_bind ?_; intro x3 hx3
      refine f_bind ?_; intro x4 hx4
      refine f_ck fun g5 => ?_
      refine f_bind ?_; intro x6 hx6
      refine f_bind ?_; intro x7 hx7
      refine f_bind ?_; intro p8 hp8
      refine f_bind ?_; intro x9 hx9
      refine f_draw (Φ := fun _ => True) (lim := 1000000) [0, 0, 0, 0, 0, 0, 0, 0, 1, 0, 0, 0, 1, 2, 0, 0, 0] (Trc.pure rfl rfl rfl (.inl fun _ => s_mv (v := .int .i64 v4) rfl) (Trc.pure rfl rfl rfl (.inl fun _ => s_mv (v := .int .i64 v5) rfl) (Trc.pure rfl rfl rfl (.inl fun _ => s_leq rfl rfl) (Trc.pure rfl rfl rfl (.inl fun _ => s_mv (v := .bool (decide (v4 ≤ v5))) rfl) (Trc.know 53 rfl (dec_true h1) (Trc.pure rfl rfl rfl (.inl fun _ => s_mv (v := v3) rfl) (Trc.pure rfl rfl rfl (.inl fun _ => s_mv (v := .sl v1) rfl) (Trc.pure rfl rfl rfl (.inl fun _ => s_mv (v := .int .i64 v5) rfl) (Trc.pure rfl rfl rfl (.inl fun _ => s_idx Try.underlying35 ty49 rfl rfl g2) (Trc.read rfl rfl rfl (s_loads Try.underlying49 rfl ty49 rfl (lds_cons (ldI_eq hx3) (lds_cons (ldI_eq hx4) (lds_nil)))) (Trc.pure rfl rfl rfl (.inl fun _ => s_mv (v := .sl v1) rfl) (Trc.pure rfl rfl rfl (.inl fun _ => s_mv (v := .int .i64 v2) rfl) (Trc.pure rfl rfl rfl (.inl fun _ => s_idx Try.underlying35 ty49 rfl rfl g5) (Trc.read rfl rfl rfl (s_loads Try.underlying49 rfl ty49 rfl (lds_cons (ldI_eq hx6) (lds_cons (ldI_eq hx7) (lds_nil)))) (Trc.eff rfl rfl rfl (fun _ => trivial) (s_callv happ rfl rfl hp8) (Trc.know 63 rfl (asI_eq hx9) (Trc.pure rfl rfl rfl (.inl fun _ => s_lss rfl rfl) (Trc.pure rfl rfl rfl (.inl fun _ => s_not rfl) (Trc.pure rfl rfl rfl (.inl fun _ => s_pickT (v := .bool (!(decide (x9 < 0)))) rfl rfl) (Trc.nil (fun _ => trivial))))))))))))))))))))) rfl (by decide +kernel) mixed ?_
      refine f_keep [0, 1, 4, 12, 13, 66] ?_
      exact s96_j4 happ _ (fun v1_ v2_ v3_ v4_ v5_ H_ => ih v1_ v2_ v3_ v4_ v5_ H_) v1 v2 v3 v4 v5 (!(decide (x9 < 0))) p8.2
    · skip
      refine f_draw (Φ := fun _ => True) (lim := 1000000) [0, 0, 0, 0, 0, 0, 0, 0, 0, 0, 0, 0, 0, 0, 0, 0, 0] (Trc.pure rfl rfl rfl (.inl fun _ => s_mv (v := .int .i64 v4) rfl) (Trc.pure rfl rfl rfl (.inl fun _ => s_mv (v := .int .i64 v5) rfl) (Trc.pure rfl rfl rfl (.inl fun _ => s_leq rfl rfl) (Trc.pure rfl rfl rfl (.inl fun _ => s_mv (v := .bool (decide (v4 ≤ v5))) rfl) (Trc.know 53 rfl (dec_false h1) (Trc.no rfl rfl rfl (Trc.no rfl rfl rfl (Trc.no rfl rfl rfl (Trc.no rfl rfl rfl (Trc.no rfl rfl rfl (Trc.no rfl rfl rfl (Trc.no rfl rfl rfl (Trc.no rfl rfl rfl (Trc.no rfl rfl rfl (Trc.no rfl rfl rfl (Trc.no rfl rfl rfl (Trc.no rfl rfl rfl (Trc.pure rfl rfl rfl (.inl fun _ => s_pickF (v := .bool false) rfl rfl) (Trc.nil (fun _ => trivial)))))))))))))))))))) rfl (by decide +kernel) mixed ?_
      refine f_keep [0, 1, 4, 12, 13, 66] ?_
      exact s96_j4 happ _ (fun v1_ v2_ v3_ v4_ v5_ H_ => ih v1_ v2_ v3_ v4_ v5_ H_) v1 v2 v3 v4 v5 false H

theorem s96_j2 {app : App} (happ : AppSim Try.prog app) (kt0 : Sl → Int → AV → Int → Int → Hp → Option ((Int × Bool) × Hp)) (hkt0 : ∀ (v1 : Sl) (v2 : Int) (v3 : AV) (v4 : Int) (v5 : Int) (H : Hp), Fin Try.prog Try.f96 ret96 178 (todoAt (bodyOf Try.f96) [1, 1, 1, 0, 0, 0] []) [(0, .sl v1), (1, .int .i64 v2), (4, v3), (12, .int .i64 v4), (13, .int .i64 v5)] H (kt0 v1 v2 v3 v4 v5 H)) (v1 : Sl) (v2 : Int) (v3 : AV) (v4 : Int) (v5 : Int) (v6 : Bool) (H : Hp) : Fin Try.prog Try.f96 ret96 178 (todoAt (bodyOf Try.f96) [1, 1, 1, 0, 0, 0, 0, 1] []) [(0, .sl v1), (1, .int .i64 v2), (4, v3), (12, .int .i64 v4), (13, .int .i64 v5), (47, .bool v6)] H (r96_j2 app kt0 v1 v2 v3 v4 v5 v6 H) := by
  unfold r96_j2
  refine f_if (fun h1 => ?_) (fun h1 => ?_)
  · skip
    refine f_know 47 rfl (bool_T h1) ?_
    refine f_condT rfl ?_
    refine f_skip ?_
    refine f_block ?_
    refine f_region ?_
    refine f_op rfl rfl (s_mv (v := .int .i64 v4) rfl) ?_
    refine f_op rfl rfl (s_add rfl rfl) ?_
    refine f_op rfl rfl (s_as (v := .int .i64 (w64 (v4 + 1))) rfl) ?_
    refine f_nil ?_
    refine f_inBlock ?_
    refine f_inLoop ?_
    refine f_keep [0, 1, 4, 12, 13] ?_
    exact hkt0 v1 v2 v3 (w64 (v4 + 1)) v5 H
  · skip
    refine f_know 47 rfl (bool_F h1) ?_
    refine f_condF rfl ?_
    refine f_exit rfl ?_
    refine f_seq ?_
    refine f_block ?_
    refine f_loop ?_
    refine f_keep [0, 1, 4, 12, 13] ?_
    exact s96_l1 happ FUEL v1 v2 v3 v4 v5 H

theorem s96_l0 {app : App} (happ : AppSim Try.prog app) : ∀ (k_ : Nat) (v1 : Sl) (v2 : Int) (v3 : AV) (v4 : Int) (v5 : Int) (H : Hp), Fin Try.prog Try.f96 ret96 178 (todoAt (bodyOf Try.f96) [1, 1, 1, 0, 0, 0] []) [(0, .sl v1), (1, .int .i64 v2), (4, v3), (12, .int .i64 v4), (13, .int .i64 v5)] H (r96_l0 app k_ v1 v2 v3 v4 v5 H) := by
  intro k_
  induction k_ with
  | zero => intro _ _ _ _ _ _; exact f_none
  | succ k_ ih =>
    intro v1 v2 v3 v4 v5 H
    rw [r96_l0]
    refine f_seq ?_
    refine f_seq ?_
    refine f_if (fun h1 => ?_) (fun h1 => ?_)
    · skip
      refine f_ck fun g2 => ?_
      refine f_bind ?_; intro x3 hx3
      refine f_bind ?_; intro x4 hx4
      refine f_ck fun g5 => ?_
      refine f_bind ?_; intro x6 hx6
      refine f_bind ?_; intro x7 hx7
      refine f_bind ?_; intro p8 hp8
      refine f_bind ?_; intro x9 hx9
      refine f_draw (Φ := fun _ => True) (lim := 1000000) [0, 0, 0, 0, 0, 0, 0, 0, 1, 0, 0, 0, 1, 2, 0, 0] (Trc.pure rfl rfl rfl (.inl fun _ => s_mv (v := .int .i64 v4) rfl) (Trc.pure rfl rfl rfl (.inl fun _ => s_mv (v := .int .i64 v5) rfl) (Trc.pure rfl rfl rfl (.inl fun _ => s_leq rfl rfl) (Trc.pure rfl rfl rfl (.inl fun _ => s_mv (v := .bool (decide (v4 ≤ v5))) rfl) (Trc.know 35 rfl (dec_true h1) (Trc.pure rfl rfl rfl (.inl fun _ => s_mv (v := v3) rfl) (Trc.pure rfl rfl rfl (.inl fun _ => s_mv (v := .sl v1) rfl) (Trc.pure rfl rfl rfl (.inl fun _ => s_mv (v := .int .i64 v4) rfl) (Trc.pure rfl rfl rfl (.inl fun _ => s_idx Try.underlying35 ty49 rfl rfl g2) (Trc.read rfl rfl rfl (s_loads Try.underlying49 rfl ty49 rfl (lds_cons (ldI_eq hx3) (lds_cons (ldI_eq hx4) (lds_nil)))) (Trc.pure rfl rfl rfl (.inl fun _ => s_mv (v := .sl v1) rfl) (Trc.pure rfl rfl rfl (.inl fun _ => s_mv (v := .int .i64 v2) rfl) (Trc.pure rfl rfl rfl (.inl fun _ => s_idx Try.underlying35 ty49 rfl rfl g5) (Trc.read rfl rfl rfl (s_loads Try.underlying49 rfl ty49 rfl (lds_cons (ldI_eq hx6) (lds_cons (ldI_eq hx7) (lds_nil)))) (Trc.eff rfl rfl rfl (fun _ => trivial) (s_callv happ rfl rfl hp8) (Trc.know 45 rfl (asI_eq hx9) (Trc.pure rfl rfl rfl (.inl fun _ => s_lss rfl rfl) (Trc.pure rfl rfl rfl (.inl fun _ => s_pickT (v := .bool (decide (x9 < 0))) rfl rfl) (Trc.nil (fun _ => trivial)))))))))))))))))))) rfl (by decide +kernel) mixed ?_
      refine f_keep [0, 1, 4, 12, 13, 47] ?_
      exact s96_j2 happ _ (fun v1_ v2_ v3_ v4_ v5_ H_ => ih v1_ v2_ v3_ v4_ v5_ H_) v1 v2 v3 v4 v5 (decide (x9 < 0)) p8.2
    · skip
      refine f_draw (Φ := fun _ => True) (lim := 1000000) [0, 0, 0, 0, 0, 0, 0, 0, 0, 0, 0, 0, 0, 0, 0, 0] (Trc.pure rfl rfl rfl (.inl fun _ => s_mv (v := .int .i64 v4) rfl) (Trc.pure rfl rfl rfl (.inl fun _ => s_mv (v := .int .i64 v5) rfl) (Trc.pure rfl rfl rfl (.inl fun _ => s_leq rfl rfl) (Trc.pure rfl rfl rfl (.inl fun _ => s_mv (v := .bool (decide (v4 ≤ v5))) rfl) (Trc.know 35 rfl (dec_false h1) (Trc.no rfl rfl rfl (Trc.no rfl rfl rfl (Trc.no rfl rfl rfl (Trc.no rfl rfl rfl (Trc.no rfl rfl rfl (Trc.no rfl rfl rfl (Trc.no rfl rfl rfl (Trc.no rfl rfl rfl (Trc.no rfl rfl rfl (Trc.no rfl rfl rfl (Trc.no rfl rfl rfl (Trc.pure rfl rfl rfl (.inl fun _ => s_pickF (v := .bool false) rfl rfl) (Trc.nil (fun _ => trivial))))))))))))))))))) rfl (by decide +kernel) mixed ?_
      refine f_keep [0, 1, 4, 12, 13, 47] ?_
      exact s96_j2 happ _ (fun v1_ v2_ v3_ v4_ v5_ H_ => ih v1_ v2_ v3_ v4_ v5_ H_) v1 v2 v3 v4 v5 false H

theorem sim96 {app : App} (happ : AppSim Try.prog app) {a0 : Sl} {a1 : Int} {a2 : Int} {a3 : Int} {a4 : AV} {H : Hp} {p : (Int × Bool) × Hp} (h : r96 app a0 a1 a2 a3 a4 H = some p) : CallSim Try.prog 96 [.sl a0, .int .i64 a1, .int .i64 a2, .int .i64 a3, a4] H (.tup [.int .i64 p.1.1, .bool p.1.2]) p.2 := by
  refine callSim (fn := Try.f96) (ret := ret96) Try.func96 rfl Try.ntmps96 rfl ?_ h
  unfold r96
  refine f_seq ?_
  refine f_region ?_
  refine f_op rfl rfl (s_as (v := .int .i64 0) rfl) ?_
  refine f_op rfl rfl (s_as (v := .bool false) rfl) ?_
  refine f_nil ?_
  refine f_seq ?_
  refine f_ck fun g1 => ?_
  refine f_bind ?_; intro x2 hx2
  refine f_bind ?_; intro x3 hx3
  refine f_ck fun g4 => ?_
  refine f_bind ?_; intro x5 hx5
  refine f_bind ?_; intro x6 hx6
  refine f_ck fun g7 => ?_
  refine f_bind ?_; intro H8 hH8
  refine f_ck fun g9 => ?_
  refine f_bind ?_; intro H10 hH10
  refine f_draw (Φ := fun _ => True) (lim := 1000000) [0, 0, 0, 0, 0, 0, 0, 1, 0, 0, 0, 1, 0, 2, 0, 2] (Trc.pure rfl rfl rfl (.inl fun _ => s_mv (v := .sl a0) rfl) (Trc.pure rfl rfl rfl (.inl fun _ => s_mv (v := .int .i64 a1) rfl) (Trc.pure rfl rfl rfl (.inl fun _ => s_mv (v := .sl a0) rfl) (Trc.pure rfl rfl rfl (.inl fun _ => s_mv (v := .int .i64 a3) rfl) (Trc.pure rfl rfl rfl (.inl fun _ => s_mv (v := .sl a0) rfl) (Trc.pure rfl rfl rfl (.inl fun _ => s_mv (v := .int .i64 a3) rfl) (Trc.pure rfl rfl rfl (.inl fun _ => s_idx Try.underlying35 ty49 rfl rfl g1) (Trc.read rfl rfl rfl (s_loads Try.underlying49 rfl ty49 rfl (lds_cons (ldI_eq hx2) (lds_cons (ldI_eq hx3) (lds_nil)))) (Trc.pure rfl rfl rfl (.inl fun _ => s_mv (v := .sl a0) rfl) (Trc.pure rfl rfl rfl (.inl fun _ => s_mv (v := .int .i64 a1) rfl) (Trc.pure rfl rfl rfl (.inl fun _ => s_idx Try.underlying35 ty49 rfl rfl g4) (Trc.read rfl rfl rfl (s_loads Try.underlying49 rfl ty49 rfl (lds_cons (ldI_eq hx5) (lds_cons (ldI_eq hx6) (lds_nil)))) (Trc.pure rfl rfl rfl (.inl fun _ => s_idx Try.underlying35 ty49 rfl rfl g7) (Trc.eff rfl rfl rfl (fun _ => trivial) (s_stores ty49 rfl rfl rfl rfl hH8 (Nat.le_of_eq (sts_mono hH8).symm)) (Trc.pure rfl rfl rfl (.inl fun _ => s_idx Try.underlying35 ty49 rfl rfl g9) (Trc.eff rfl rfl rfl (fun _ => trivial) (s_stores ty49 rfl rfl rfl rfl hH10 (Nat.le_of_eq (sts_mono hH10).symm)) (Trc.nil (fun _ => trivial)))))))))))))))))) rfl (by decide +kernel) mixed ?_
  refine f_seq ?_
  refine f_region ?_
  refine f_op rfl rfl (s_mv (v := .int .i64 a1) rfl) ?_
  refine f_op rfl rfl (s_add rfl rfl) ?_
  refine f_op rfl rfl (s_mv (v := .int .i64 a2) rfl) ?_
  refine f_op rfl rfl (s_sub rfl rfl) ?_
  refine f_op rfl rfl (s_as (v := .int .i64 (w64 (a1 + 1))) rfl) ?_
  refine f_op rfl rfl (s_as (v := .int .i64 (w64 (a2 - 1))) rfl) ?_
  refine f_nil ?_
  refine f_seq ?_
  refine f_block ?_
  refine f_loop ?_
  refine f_keep [0, 1, 4, 12, 13] ?_
  exact s96_l0 happ FUEL a0 a1 a4 (w64 (a1 + 1)) (w64 (a2 - 1)) H10

/- 87 slices.pdqsortCmpFunc[[2]int] -/
theorem ok87 : FnOk Try.prog 87 := ⟨⟨Try.f87, Try.func87, by kernel_rfl, rfl⟩⟩
theorem s87_j1 {app : App} (happ : AppSim Try.prog app) (kt0 : Sl → Int → Int → Int → AV → Bool → Bool → Hp → Option (Unit × Hp)) (hkt0 : ∀ (v1 : Sl) (v2 : Int) (v3 : Int) (v4 : Int) (v5 : AV) (v6 : Bool) (v7 : Bool) (H : Hp), Fin Try.prog Try.f87 ret87 148 (todoAt (bodyOf Try.f87) [1, 1, 0, 0] []) [(0, .sl v1), (1, .int .i64 v2), (2, .int .i64 v3), (3, .int .i64 v4), (4, v5), (10, .bool v6), (11, .bool v7)] H (kt0 v1 v2 v3 v4 v5 v6 v7 H)) (v1 : Sl) (v2 : Int) (v3 : Int) (v4 : Int) (v5 : AV) (v6 : Bool) (v7 : Bool) (v8 : Int) (v9 : Int) (v10 : Bool) (H : Hp) : Fin Try.prog Try.f87 ret87 148 (todoAt (bodyOf Try.f87) [1, 1, 0, 0, 0, 1, 1, 1, 1, 1, 1, 1, 0, 1] []) [(0, .sl v1), (1, .int .i64 v2), (2, .int .i64 v3), (3, .int .i64 v4), (4, v5), (10, .bool v6), (11, .bool v7), (12, .int .i64 v8), (13, .int .i64 v9), (97, .bool v10)] H (r87_j1 app kt0 v1 v2 v3 v4 v5 v6 v7 v8 v9 v10 H) := by
  unfold r87_j1
  refine f_if (fun h1 => ?_) (fun h1 => ?_)
  · skip
    refine f_know 97 rfl (bool_T h1) ?_
    refine f_condT rfl ?_
    refine f_seq ?_
    refine f_region ?_
    refine f_op rfl rfl (s_mv (v := .sl v1) rfl) ?_
    refine f_op rfl rfl (s_mv (v := .int .i64 v2) rfl) ?_
    refine f_op rfl rfl (s_mv (v := .int .i64 v3) rfl) ?_
    refine f_op rfl rfl (s_mv (v := .int .i64 v9) rfl) ?_
    refine f_op rfl rfl (s_mv (v := v5) rfl) ?_
    refine o_bind ?_; intro p2 hp2
    refine f_op rfl rfl (s_callF rfl ok95 (sim95 happ hp2)) ?_
    refine f_op rfl rfl (s_as (v := .int .i64 p2.1) rfl) ?_
    refine f_nil ?_
    refine f_seq ?_
    refine f_region ?_
    refine f_op rfl rfl (s_mv (v := .int .i64 p2.1) rfl) ?_
    refine f_op rfl rfl (s_as (v := .int .i64 p2.1) rfl) ?_
    refine f_nil ?_
    refine f_exit rfl ?_
    refine f_inLoop ?_
    refine f_keep [0, 1, 2, 3, 4, 10, 11] ?_
    exact hkt0 v1 p2.1 v3 v4 v5 v6 v7 p2.2
  · skip
    refine f_know 97 rfl (bool_F h1) ?_
    refine f_condF rfl ?_
    refine f_skip ?_
    refine f_seq ?_
    refine f_region ?_
    refine f_op rfl rfl (s_mv (v := .sl v1) rfl) ?_
    refine f_op rfl rfl (s_mv (v := .int .i64 v2) rfl) ?_
    refine f_op rfl rfl (s_mv (v := .int .i64 v3) rfl) ?_
    refine f_op rfl rfl (s_mv (v := .int .i64 v9) rfl) ?_
    refine f_op rfl rfl (s_mv (v := v5) rfl) ?_
    refine o_bind ?_; intro p3 hp3
    refine f_op rfl rfl (s_callF rfl ok96 (sim96 happ hp3)) ?_
    refine f_op rfl rfl (s_mv (v := .tup [.int .i64 p3.1.1, .bool p3.1.2]) rfl) ?_
    refine f_op rfl rfl (s_extract (r := .int .i64 p3.1.1) rfl rfl) ?_
    refine f_op rfl rfl (s_extract (r := .bool p3.1.2) rfl rfl) ?_
    refine f_op rfl rfl (s_as (v := .int .i64 p3.1.1) rfl) ?_
    refine f_op rfl rfl (s_as (v := .bool p3.1.2) rfl) ?_
    refine f_nil ?_
    refine f_seq ?_
    refine f_region ?_
    refine f_op rfl rfl (s_mv (v := .bool p3.1.2) rfl) ?_
    refine f_op rfl rfl (s_as (v := .bool p3.1.2) rfl) ?_
    refine f_nil ?_
    refine f_seq ?_
    refine f_region ?_
    refine f_op rfl rfl (s_mv (v := .int .i64 p3.1.1) rfl) ?_
    refine f_op rfl rfl (s_mv (v := .int .i64 v2) rfl) ?_
    refine f_op rfl rfl (s_sub rfl rfl) ?_
    refine f_op rfl rfl (s_mv (v := .int .i64 v3) rfl) ?_
    refine f_op rfl rfl (s_mv (v := .int .i64 p3.1.1) rfl) ?_
    refine f_op rfl rfl (s_sub rfl rfl) ?_
    refine f_op rfl rfl (s_as (v := .int .i64 (w64 (p3.1.1 - v2))) rfl) ?_
    refine f_op rfl rfl (s_as (v := .int .i64 (w64 (v3 - p3.1.1))) rfl) ?_
    refine f_nil ?_
    refine f_seq ?_
    refine f_region ?_
    refine f_op rfl rfl (s_mv (v := .int .i64 v8) rfl) ?_
    refine f_op rfl rfl (s_quo rfl rfl (by decide)) ?_
    refine f_op rfl rfl (s_as (v := .int .i64 (w64 (Int.tdiv v8 8))) rfl) ?_
    refine f_nil ?_
    refine f_seq ?_
    refine f_region ?_
    refine f_op rfl rfl (s_mv (v := .int .i64 (w64 (p3.1.1 - v2))) rfl) ?_
    refine f_op rfl rfl (s_mv (v := .int .i64 (w64 (v3 - p3.1.1))) rfl) ?_
    refine f_op rfl rfl (s_lss rfl rfl) ?_
    refine f_nil ?_
    refine f_if (fun h4 => ?_) (fun h4 => ?_)
    · skip
      refine f_know 125 rfl (dec_true h4) ?_
      refine f_condT rfl ?_
      refine f_seq ?_
      refine f_region ?_
      refine f_op rfl rfl (s_mv (v := .int .i64 (w64 (p3.1.1 - v2))) rfl) ?_
      refine f_op rfl rfl (s_mv (v := .int .i64 (w64 (Int.tdiv v8 8))) rfl) ?_
      refine f_op rfl rfl (s_geq rfl rfl) ?_
      refine f_op rfl rfl (s_as (v := .bool (decide ((w64 (Int.tdiv v8 8)) ≤ (w64 (p3.1.1 - v2))))) rfl) ?_
      refine f_nil ?_
      refine f_seq ?_
      refine f_region ?_
      refine f_op rfl rfl (s_mv (v := .sl v1) rfl) ?_
      refine f_op rfl rfl (s_mv (v := .int .i64 v2) rfl) ?_
      refine f_op rfl rfl (s_mv (v := .int .i64 p3.1.1) rfl) ?_
      refine f_op rfl rfl (s_mv (v := .int .i64 v4) rfl) ?_
      refine f_op rfl rfl (s_mv (v := v5) rfl) ?_
      refine o_bind ?_; intro p5 hp5
      refine f_op rfl rfl (s_callA happ rfl hp5) ?_
      refine f_nil ?_
      refine f_region ?_
      refine f_op rfl rfl (s_mv (v := .int .i64 p3.1.1) rfl) ?_
      refine f_op rfl rfl (s_add rfl rfl) ?_
      refine f_op rfl rfl (s_as (v := .int .i64 (w64 (p3.1.1 + 1))) rfl) ?_
      refine f_nil ?_
      refine f_inBlock ?_
      refine f_inLoop ?_
      refine f_keep [0, 1, 2, 3, 4, 10, 11] ?_
      exact hkt0 v1 (w64 (p3.1.1 + 1)) v3 v4 v5 (decide ((w64 (Int.tdiv v8 8)) ≤ (w64 (p3.1.1 - v2)))) p3.1.2 p5.2
    · skip
      refine f_know 125 rfl (dec_false h4) ?_
      refine f_condF rfl ?_
      refine f_seq ?_
      refine f_region ?_
      refine f_op rfl rfl (s_mv (v := .int .i64 (w64 (v3 - p3.1.1))) rfl) ?_
      refine f_op rfl rfl (s_mv (v := .int .i64 (w64 (Int.tdiv v8 8))) rfl) ?_
      refine f_op rfl rfl (s_geq rfl rfl) ?_
      refine f_op rfl rfl (s_as (v := .bool (decide ((w64 (Int.tdiv v8 8)) ≤ (w64 (v3 - p3.1.1))))) rfl) ?_
      refine f_nil ?_
      refine f_seq ?_
      refine f_region ?_
      refine f_op rfl rfl (s_mv (v := .sl v1) rfl) ?_
      refine f_op rfl rfl (s_mv (v := .int .i64 p3.1.1) rfl) ?_
      refine f_op rfl rfl (s_add rfl rfl) ?_
      refine f_op rfl rfl (s_mv (v := .int .i64 v3) rfl) ?_
      refine f_op rfl rfl (s_mv (v := .int .i64 v4) rfl) ?_
      refine f_op rfl rfl (s_mv (v := v5) rfl) ?_
      refine o_bind ?_; intro p6 hp6
      refine f_op rfl rfl (s_callA happ rfl hp6) ?_
      refine f_nil ?_
      refine f_region ?_
      refine f_op rfl rfl (s_mv (v := .int .i64 p3.1.1) rfl) ?_
      refine f_op rfl rfl (s_as (v := .int .i64 p3.1.1) rfl) ?_
      refine f_nil ?_
      refine f_inBlock ?_
      refine f_inLoop ?_
      refine f_keep [0, 1, 2, 3, 4, 10, 11] ?_
      exact hkt0 v1 v2 p3.1.1 v4 v5 (decide ((w64 (Int.tdiv v8 8)) ≤ (w64 (v3 - p3.1.1)))) p3.1.2 p6.2

theorem s87_j2 {app : App} (happ : AppSim Try.prog app) (kt0 : Sl → Int → Int → Int → AV → Bool → Bool → Hp → Option (Unit × Hp)) (hkt0 : ∀ (v1 : Sl) (v2 : Int) (v3 : Int) (v4 : Int) (v5 : AV) (v6 : Bool) (v7 : Bool) (H : Hp), Fin Try.prog Try.f87 ret87 148 (todoAt (bodyOf Try.f87) [1, 1, 0, 0] []) [(0, .sl v1), (1, .int .i64 v2), (2, .int .i64 v3), (3, .int .i64 v4), (4, v5), (10, .bool v6), (11, .bool v7)] H (kt0 v1 v2 v3 v4 v5 v6 v7 H)) (v1 : Sl) (v2 : Int) (v3 : Int) (v4 : Int) (v5 : AV) (v6 : Bool) (v7 : Bool) (v8 : Int) (v9 : Int) (H : Hp) : Fin Try.prog Try.f87 ret87 148 (todoAt (bodyOf Try.f87) [1, 1, 0, 0, 0, 1, 1, 1, 1, 1, 1, 1] []) [(0, .sl v1), (1, .int .i64 v2), (2, .int .i64 v3), (3, .int .i64 v4), (4, v5), (10, .bool v6), (11, .bool v7), (12, .int .i64 v8), (13, .int .i64 v9)] H (r87_j2 app kt0 v1 v2 v3 v4 v5 v6 v7 v8 v9 H) := by
  unfold r87_j2
  refine f_seq ?_
  refine f_seq ?_
  refine f_if (fun h1 => ?_) (fun h1 => ?_)
  · skip
    refine f_ck fun g2 => ?_
    refine f_bind ?_; intro x3 hx3
    refine f_bind ?_; intro x4 hx4
    refine f_ck fun g5 => ?_
    refine f_bind ?_; intro x6 hx6
    refine f_bind ?_; intro x7 hx7
    refine f_bind ?_; intro p8 hp8
    refine f_bind ?_; intro x9 hx9
    refine f_draw (Φ := fun _ => True) (lim := 1000000) [0, 0, 0, 0, 0, 0, 0, 0, 1, 0, 0, 0, 1, 2, 0, 0, 0] (Trc.pure rfl rfl rfl (.inl fun _ => s_mv (v := .int .i64 v2) rfl) (Trc.pure rfl rfl rfl (.inl fun _ => s_gtr rfl rfl) (Trc.pure rfl rfl rfl (.inl fun _ => s_mv (v := .bool (decide (0 < v2))) rfl) (Trc.know 83 rfl (dec_true h1) (Trc.pure rfl rfl rfl (.inl fun _ => s_mv (v := v5) rfl) (Trc.pure rfl rfl rfl (.inl fun _ => s_mv (v := .sl v1) rfl) (Trc.pure rfl rfl rfl (.inl fun _ => s_mv (v := .int .i64 v2) rfl) (Trc.pure rfl rfl rfl (.inl fun _ => s_sub rfl rfl) (Trc.pure rfl rfl rfl (.inl fun _ => s_idx Try.underlying35 ty49 rfl rfl g2) (Trc.read rfl rfl rfl (s_loads Try.underlying49 rfl ty49 rfl (lds_cons (ldI_eq hx3) (lds_cons (ldI_eq hx4) (lds_nil)))) (Trc.pure rfl rfl rfl (.inl fun _ => s_mv (v := .sl v1) rfl) (Trc.pure rfl rfl rfl (.inl fun _ => s_mv (v := .int .i64 v9) rfl) (Trc.pure rfl rfl rfl (.inl fun _ => s_idx Try.underlying35 ty49 rfl rfl g5) (Trc.read rfl rfl rfl (s_loads Try.underlying49 rfl ty49 rfl (lds_cons (ldI_eq hx6) (lds_cons (ldI_eq hx7) (lds_nil)))) (Trc.eff rfl rfl rfl (fun _ => trivial) (s_callv happ rfl rfl hp8) (Trc.know 94 rfl (asI_eq hx9) (Trc.pure rfl rfl rfl (.inl fun _ => s_lss rfl rfl) (Trc.pure rfl rfl rfl (.inl fun _ => s_not rfl) (Trc.pure rfl rfl rfl (.inl fun _ => s_pickT (v := .bool (!(decide (x9 < 0)))) rfl rfl) (Trc.nil (fun _ => trivial))))))))))))))))))))) rfl (by decide +kernel) mixed ?_
    refine f_keep [0, 1, 2, 3, 4, 10, 11, 12, 13, 97] ?_
    exact s87_j1 happ _ hkt0 v1 v2 v3 v4 v5 v6 v7 v8 v9 (!(decide (x9 < 0))) p8.2
  · skip
    refine f_draw (Φ := fun _ => True) (lim := 1000000) [0, 0, 0, 0, 0, 0, 0, 0, 0, 0, 0, 0, 0, 0, 0, 0, 0] (Trc.pure rfl rfl rfl (.inl fun _ => s_mv (v := .int .i64 v2) rfl) (Trc.pure rfl rfl rfl (.inl fun _ => s_gtr rfl rfl) (Trc.pure rfl rfl rfl (.inl fun _ => s_mv (v := .bool (decide (0 < v2))) rfl) (Trc.know 83 rfl (dec_false h1) (Trc.no rfl rfl rfl (Trc.no rfl rfl rfl (Trc.no rfl rfl rfl (Trc.no rfl rfl rfl (Trc.no rfl rfl rfl (Trc.no rfl rfl rfl (Trc.no rfl rfl rfl (Trc.no rfl rfl rfl (Trc.no rfl rfl rfl (Trc.no rfl rfl rfl (Trc.no rfl rfl rfl (Trc.no rfl rfl rfl (Trc.no rfl rfl rfl (Trc.pure rfl rfl rfl (.inl fun _ => s_pickF (v := .bool false) rfl rfl) (Trc.nil (fun _ => trivial)))))))))))))))))))) rfl (by decide +kernel) mixed ?_
    refine f_keep [0, 1, 2, 3, 4, 10, 11, 12, 13, 97] ?_
    exact s87_j1 happ _ hkt0 v1 v2 v3 v4 v5 v6 v7 v8 v9 false H

theorem s87_j3 {app : App} (happ : AppSim Try.prog app) (kt0 : Sl → Int → Int → Int → AV → Bool → Bool → Hp → Option (Unit × Hp)) (hkt0 : ∀ (v1 : Sl) (v2 : Int) (v3 : Int) (v4 : Int) (v5 : AV) (v6 : Bool) (v7 : Bool) (H : Hp), Fin Try.prog Try.f87 ret87 148 (todoAt (bodyOf Try.f87) [1, 1, 0, 0] []) [(0, .sl v1), (1, .int .i64 v2), (2, .int .i64 v3), (3, .int .i64 v4), (4, v5), (10, .bool v6), (11, .bool v7)] H (kt0 v1 v2 v3 v4 v5 v6 v7 H)) (v1 : Sl) (v2 : Int) (v3 : Int) (v4 : Int) (v5 : AV) (v6 : Bool) (v7 : Bool) (v8 : Int) (v9 : Int) (v10 : Bool) (H : Hp) : Fin Try.prog Try.f87 ret87 148 (todoAt (bodyOf Try.f87) [1, 1, 0, 0, 0, 1, 1, 1, 1, 1, 1, 0, 1] []) [(0, .sl v1), (1, .int .i64 v2), (2, .int .i64 v3), (3, .int .i64 v4), (4, v5), (10, .bool v6), (11, .bool v7), (12, .int .i64 v8), (13, .int .i64 v9), (75, .bool v10)] H (r87_j3 app kt0 v1 v2 v3 v4 v5 v6 v7 v8 v9 v10 H) := by
  unfold r87_j3
  refine f_if (fun h1 => ?_) (fun h1 => ?_)
  · skip
    refine f_know 75 rfl (bool_T h1) ?_
    refine f_condT rfl ?_
    refine f_seq ?_
    refine f_region ?_
    refine f_op rfl rfl (s_mv (v := .sl v1) rfl) ?_
    refine f_op rfl rfl (s_mv (v := .int .i64 v2) rfl) ?_
    refine f_op rfl rfl (s_mv (v := .int .i64 v3) rfl) ?_
    refine f_op rfl rfl (s_mv (v := v5) rfl) ?_
    refine o_bind ?_; intro p2 hp2
    refine f_op rfl rfl (s_callF rfl ok94 (sim94 happ hp2)) ?_
    refine f_nil ?_
    refine f_if (fun h3 => ?_) (fun h3 => ?_)
    · skip
      refine f_know 80 rfl (bool_T h3) ?_
      refine f_condT rfl ?_
      exact f_ret (.nil) rfl
    · skip
      refine f_know 80 rfl (bool_F h3) ?_
      refine f_condF rfl ?_
      refine f_skip ?_
      refine f_keep [0, 1, 2, 3, 4, 10, 11, 12, 13] ?_
      exact s87_j2 happ _ hkt0 v1 v2 v3 v4 v5 v6 v7 v8 v9 p2.2
  · skip
    refine f_know 75 rfl (bool_F h1) ?_
    refine f_condF rfl ?_
    refine f_skip ?_
    refine f_keep [0, 1, 2, 3, 4, 10, 11, 12, 13] ?_
    exact s87_j2 happ _ hkt0 v1 v2 v3 v4 v5 v6 v7 v8 v9 H

theorem s87_j4 {app : App} (happ : AppSim Try.prog app) (kt0 : Sl → Int → Int → Int → AV → Bool → Bool → Hp → Option (Unit × Hp)) (hkt0 : ∀ (v1 : Sl) (v2 : Int) (v3 : Int) (v4 : Int) (v5 : AV) (v6 : Bool) (v7 : Bool) (H : Hp), Fin Try.prog Try.f87 ret87 148 (todoAt (bodyOf Try.f87) [1, 1, 0, 0] []) [(0, .sl v1), (1, .int .i64 v2), (2, .int .i64 v3), (3, .int .i64 v4), (4, v5), (10, .bool v6), (11, .bool v7)] H (kt0 v1 v2 v3 v4 v5 v6 v7 H)) (v1 : Sl) (v2 : Int) (v3 : Int) (v4 : Int) (v5 : AV) (v6 : Bool) (v7 : Bool) (v8 : Int) (v9 : Int) (v10 : Int) (H : Hp) : Fin Try.prog Try.f87 ret87 148 (todoAt (bodyOf Try.f87) [1, 1, 0, 0, 0, 1, 1, 1, 1, 1, 1] []) [(0, .sl v1), (1, .int .i64 v2), (2, .int .i64 v3), (3, .int .i64 v4), (4, v5), (10, .bool v6), (11, .bool v7), (12, .int .i64 v8), (13, .int .i64 v9), (14, .int .i64 v10)] H (r87_j4 app kt0 v1 v2 v3 v4 v5 v6 v7 v8 v9 v10 H) := by
  unfold r87_j4
  refine f_seq ?_
  refine f_seq ?_
  refine f_region ?_
  refine f_op rfl rfl (s_mv (v := .bool v6) rfl) ?_
  refine f_op rfl rfl (s_mv (v := .bool v6) rfl) ?_
  refine o_if (fun h1 => ?_) (fun h1 => ?_)
  · skip
    refine o_know 69 rfl (bool_T h1) ?_
    refine f_op rfl rfl (s_mv (v := .bool v7) rfl) ?_
    refine f_op rfl rfl (s_pickT (v := .bool v7) rfl rfl) ?_
    refine f_op rfl rfl (s_mv (v := .bool v7) rfl) ?_
    refine o_if (fun h2 => ?_) (fun h2 => ?_)
    · skip
      refine o_know 72 rfl (bool_T h2) ?_
      refine f_op rfl rfl (s_mv (v := .int .i64 v10) rfl) ?_
      refine f_op rfl rfl (s_eql rfl rfl) ?_
      refine f_op rfl rfl (s_pickT (v := .bool (decide (v10 = 1))) rfl rfl) ?_
      refine f_nil ?_
      refine f_know 10 rfl (bool_T h1) ?_
      refine f_know 11 rfl (bool_T h2) ?_
      refine f_keep [0, 1, 2, 3, 4, 10, 11, 12, 13, 75] ?_
      exact s87_j3 happ _ hkt0 v1 v2 v3 v4 v5 true true v8 v9 (decide (v10 = 1)) H
    · skip
      refine o_know 72 rfl (bool_F h2) ?_
      refine f_no rfl rfl ?_
      refine f_no rfl rfl ?_
      refine f_op rfl rfl (s_pickF (v := .bool false) rfl rfl) ?_
      refine f_nil ?_
      refine f_know 10 rfl (bool_T h1) ?_
      refine f_know 11 rfl (bool_F h2) ?_
      refine f_keep [0, 1, 2, 3, 4, 10, 11, 12, 13, 75] ?_
      exact s87_j3 happ _ hkt0 v1 v2 v3 v4 v5 true false v8 v9 false H
  · skip
    refine o_know 69 rfl (bool_F h1) ?_
    refine f_no rfl rfl ?_
    refine f_op rfl rfl (s_pickF (v := .bool false) rfl rfl) ?_
    refine f_op rfl rfl (s_mv (v := .bool false) rfl) ?_
    refine f_no rfl rfl ?_
    refine f_no rfl rfl ?_
    refine f_op rfl rfl (s_pickF (v := .bool false) rfl rfl) ?_
    refine f_nil ?_
    refine f_know 10 rfl (bool_F h1) ?_
    refine f_keep [0, 1, 2, 3, 4, 10, 11, 12, 13, 75] ?_
    exact s87_j3 happ _ hkt0 v1 v2 v3 v4 v5 false v7 v8 v9 false H

theorem s87_j5 {app : App} (happ : AppSim Try.prog app) (kt0 : Sl → Int → Int → Int → AV → Bool → Bool → Hp → Option (Unit × Hp)) (hkt0 : ∀ (v1 : Sl) (v2 : Int) (v3 : Int) (v4 : Int) (v5 : AV) (v6 : Bool) (v7 : Bool) (H : Hp), Fin Try.prog Try.f87 ret87 148 (todoAt (bodyOf Try.f87) [1, 1, 0, 0] []) [(0, .sl v1), (1, .int .i64 v2), (2, .int .i64 v3), (3, .int .i64 v4), (4, v5), (10, .bool v6), (11, .bool v7)] H (kt0 v1 v2 v3 v4 v5 v6 v7 H)) (v1 : Sl) (v2 : Int) (v3 : Int) (v4 : Int) (v5 : AV) (v6 : Bool) (v7 : Bool) (v8 : Int) (H : Hp) : Fin Try.prog Try.f87 ret87 148 (todoAt (bodyOf Try.f87) [1, 1, 0, 0, 0, 1, 1, 1, 1] []) [(0, .sl v1), (1, .int .i64 v2), (2, .int .i64 v3), (3, .int .i64 v4), (4, v5), (10, .bool v6), (11, .bool v7), (12, .int .i64 v8)] H (r87_j5 app kt0 v1 v2 v3 v4 v5 v6 v7 v8 H) := by
  unfold r87_j5
  refine f_seq ?_
  refine f_region ?_
  refine f_op rfl rfl (s_mv (v := .sl v1) rfl) ?_
  refine f_op rfl rfl (s_mv (v := .int .i64 v2) rfl) ?_
  refine f_op rfl rfl (s_mv (v := .int .i64 v3) rfl) ?_
  refine f_op rfl rfl (s_mv (v := v5) rfl) ?_
  refine o_bind ?_; intro p1 hp1
  refine f_op rfl rfl (s_callF rfl ok92 (sim92 happ hp1)) ?_
  refine f_op rfl rfl (s_mv (v := .tup [.int .i64 p1.1.1, .int .i64 p1.1.2]) rfl) ?_
  refine f_op rfl rfl (s_extract (r := .int .i64 p1.1.1) rfl rfl) ?_
  refine f_op rfl rfl (s_extract (r := .int .i64 p1.1.2) rfl rfl) ?_
  refine f_op rfl rfl (s_as (v := .int .i64 p1.1.1) rfl) ?_
  refine f_op rfl rfl (s_as (v := .int .i64 p1.1.2) rfl) ?_
  refine f_nil ?_
  refine f_seq ?_
  refine f_seq ?_
  refine f_region ?_
  refine f_op rfl rfl (s_mv (v := .int .i64 p1.1.2) rfl) ?_
  refine f_op rfl rfl (s_eql rfl rfl) ?_
  refine f_nil ?_
  refine f_if (fun h2 => ?_) (fun h2 => ?_)
  · skip
    refine f_know 56 rfl (dec_true h2) ?_
    refine f_condT rfl ?_
    refine f_seq ?_
    refine f_region ?_
    refine f_op rfl rfl (s_mv (v := .sl v1) rfl) ?_
    refine f_op rfl rfl (s_mv (v := .int .i64 v2) rfl) ?_
    refine f_op rfl rfl (s_mv (v := .int .i64 v3) rfl) ?_
    refine f_op rfl rfl (s_mv (v := v5) rfl) ?_
    refine o_bind ?_; intro p3 hp3
    refine f_op rfl rfl (s_callF rfl ok93 (sim93 hp3)) ?_
    refine f_nil ?_
    refine f_seq ?_
    refine f_region ?_
    refine f_op rfl rfl (s_mv (v := .int .i64 v3) rfl) ?_
    refine f_op rfl rfl (s_sub rfl rfl) ?_
    refine f_op rfl rfl (s_mv (v := .int .i64 p1.1.1) rfl) ?_
    refine f_op rfl rfl (s_mv (v := .int .i64 v2) rfl) ?_
    refine f_op rfl rfl (s_sub rfl rfl) ?_
    refine f_op rfl rfl (s_sub rfl rfl) ?_
    refine f_op rfl rfl (s_as (v := .int .i64 (w64 ((w64 (v3 - 1)) - (w64 (p1.1.1 - v2))))) rfl) ?_
    refine f_nil ?_
    refine f_region ?_
    refine f_op rfl rfl (s_as (v := .int .i64 1) rfl) ?_
    refine f_nil ?_
    refine f_keep [0, 1, 2, 3, 4, 10, 11, 12, 13, 14] ?_
    exact s87_j4 happ _ hkt0 v1 v2 v3 v4 v5 v6 v7 v8 (w64 ((w64 (v3 - 1)) - (w64 (p1.1.1 - v2)))) 1 p3.2
  · skip
    refine f_know 56 rfl (dec_false h2) ?_
    refine f_condF rfl ?_
    refine f_skip ?_
    refine f_keep [0, 1, 2, 3, 4, 10, 11, 12, 13, 14] ?_
    exact s87_j4 happ _ hkt0 v1 v2 v3 v4 v5 v6 v7 v8 p1.1.1 p1.1.2 p1.2

theorem s87_l0 {app : App} (happ : AppSim Try.prog app) : ∀ (k_ : Nat) (v1 : Sl) (v2 : Int) (v3 : Int) (v4 : Int) (v5 : AV) (v6 : Bool) (v7 : Bool) (H : Hp), Fin Try.prog Try.f87 ret87 148 (todoAt (bodyOf Try.f87) [1, 1, 0, 0] []) [(0, .sl v1), (1, .int .i64 v2), (2, .int .i64 v3), (3, .int .i64 v4), (4, v5), (10, .bool v6), (11, .bool v7)] H (r87_l0 app k_ v1 v2 v3 v4 v5 v6 v7 H) := by
  intro k_
  induction k_ with
  | zero => intro _ _ _ _ _ _ _ _; exact f_none
  | succ k_ ih =>
    intro v1 v2 v3 v4 v5 v6 v7 H
    rw [r87_l0]
    refine f_block ?_
    refine f_seq ?_
    refine f_region ?_
    refine f_op rfl rfl (s_mv (v := .int .i64 v3) rfl) ?_
    refine f_op rfl rfl (s_mv (v := .int .i64 v2) rfl) ?_
    refine f_op rfl rfl (s_sub rfl rfl) ?_
    refine f_op rfl rfl (s_as (v := .int .i64 (w64 (v3 - v2))) rfl) ?_
    refine f_nil ?_
    refine f_seq ?_
    refine f_seq ?_
    refine f_region ?_
    refine f_op rfl rfl (s_mv (v := .int .i64 (w64 (v3 - v2))) rfl) ?_
    refine f_op rfl rfl (s_leq rfl rfl) ?_
    refine f_nil ?_
    refine f_if (fun h1 => ?_) (fun h1 => ?_)
    · skip
      refine f_know 25 rfl (dec_true h1) ?_
      refine f_condT rfl ?_
      refine f_seq ?_
      refine f_region ?_
      refine f_op rfl rfl (s_mv (v := .sl v1) rfl) ?_
      refine f_op rfl rfl (s_mv (v := .int .i64 v2) rfl) ?_
      refine f_op rfl rfl (s_mv (v := .int .i64 v3) rfl) ?_
      refine f_op rfl rfl (s_mv (v := v5) rfl) ?_
      refine o_bind ?_; intro p2 hp2
      refine f_op rfl rfl (s_callF rfl ok89 (sim89 happ hp2)) ?_
      refine f_nil ?_
      exact f_ret (.nil) rfl
    · skip
      refine f_know 25 rfl (dec_false h1) ?_
      refine f_condF rfl ?_
      refine f_skip ?_
      refine f_seq ?_
      refine f_seq ?_
      refine f_region ?_
      refine f_op rfl rfl (s_mv (v := .int .i64 v4) rfl) ?_
      refine f_op rfl rfl (s_eql rfl rfl) ?_
      refine f_nil ?_
      refine f_if (fun h3 => ?_) (fun h3 => ?_)
      · skip
        refine f_know 32 rfl (dec_true h3) ?_
        refine f_condT rfl ?_
        refine f_seq ?_
        refine f_region ?_
        refine f_op rfl rfl (s_mv (v := .sl v1) rfl) ?_
        refine f_op rfl rfl (s_mv (v := .int .i64 v2) rfl) ?_
        refine f_op rfl rfl (s_mv (v := .int .i64 v3) rfl) ?_
        refine f_op rfl rfl (s_mv (v := v5) rfl) ?_
        refine o_bind ?_; intro p4 hp4
        refine f_op rfl rfl (s_callF rfl ok90 (sim90 happ hp4)) ?_
        refine f_nil ?_
        exact f_ret (.nil) rfl
      · skip
        refine f_know 32 rfl (dec_false h3) ?_
        refine f_condF rfl ?_
        refine f_skip ?_
        refine f_seq ?_
        refine f_seq ?_
        refine f_region ?_
        refine f_op rfl rfl (s_mv (v := .bool v6) rfl) ?_
        refine f_op rfl rfl (s_not rfl) ?_
        refine f_nil ?_
        refine f_if (fun h5 => ?_) (fun h5 => ?_)
        · skip
          refine f_know 39 rfl (bool_notT h5) ?_
          refine f_condF rfl ?_
          refine f_skip ?_
          refine f_know 10 rfl (bool_T h5) ?_
          refine f_keep [0, 1, 2, 3, 4, 10, 11, 12] ?_
          exact s87_j5 happ _ (fun v1_ v2_ v3_ v4_ v5_ v6_ v7_ H_ => ih v1_ v2_ v3_ v4_ v5_ v6_ v7_ H_) v1 v2 v3 v4 v5 true v7 (w64 (v3 - v2)) H
        · skip
          refine f_know 39 rfl (bool_notF h5) ?_
          refine f_condT rfl ?_
          refine f_seq ?_
          refine f_region ?_
          refine f_op rfl rfl (s_mv (v := .sl v1) rfl) ?_
          refine f_op rfl rfl (s_mv (v := .int .i64 v2) rfl) ?_
          refine f_op rfl rfl (s_mv (v := .int .i64 v3) rfl) ?_
          refine f_op rfl rfl (s_mv (v := v5) rfl) ?_
          refine o_bind ?_; intro p6 hp6
          refine f_op rfl rfl (s_callF rfl ok91 (sim91 hp6)) ?_
          refine f_nil ?_
          refine f_region ?_
          refine f_op rfl rfl (s_mv (v := .int .i64 v4) rfl) ?_
          refine f_op rfl rfl (s_sub rfl rfl) ?_
          refine f_op rfl rfl (s_as (v := .int .i64 (w64 (v4 - 1))) rfl) ?_
          refine f_nil ?_
          refine f_know 10 rfl (bool_F h5) ?_
          refine f_keep [0, 1, 2, 3, 4, 10, 11, 12] ?_
          exact s87_j5 happ _ (fun v1_ v2_ v3_ v4_ v5_ v6_ v7_ H_ => ih v1_ v2_ v3_ v4_ v5_ v6_ v7_ H_) v1 v2 v3 (w64 (v4 - 1)) v5 false v7 (w64 (v3 - v2)) p6.2

theorem sim87 {app : App} (happ : AppSim Try.prog app) {a0 : Sl} {a1 : Int} {a2 : Int} {a3 : Int} {a4 : AV} {H : Hp} {p : Unit × Hp} (h : r87 app a0 a1 a2 a3 a4 H = some p) : CallSim Try.prog 87 [.sl a0, .int .i64 a1, .int .i64 a2, .int .i64 a3, a4] H (.tup []) p.2 := by
  refine callSim (fn := Try.f87) (ret := ret87) Try.func87 rfl Try.ntmps87 rfl ?_ h
  unfold r87
  refine f_seq ?_
  refine f_region ?_
  refine f_op rfl rfl (s_as (v := .bool true) rfl) ?_
  refine f_nil ?_
  refine f_seq ?_
  refine f_region ?_
  refine f_op rfl rfl (s_as (v := .bool true) rfl) ?_
  refine f_nil ?_
  refine f_block ?_
  refine f_loop ?_
  refine f_keep [0, 1, 2, 3, 4, 10, 11] ?_
  exact s87_l0 happ FUEL a0 a1 a2 a3 a4 true true H

/- 83 slices.SortFunc[[][2]int,[2]int] -/
theorem ok83 : FnOk Try.prog 83 := ⟨⟨Try.f83, Try.func83, by kernel_rfl, rfl⟩⟩
theorem sim83 {app : App} (happ : AppSim Try.prog app) {a0 : Sl} {a1 : AV} {H : Hp} {p : Unit × Hp} (h : r83 app a0 a1 H = some p) : CallSim Try.prog 83 [.sl a0, a1] H (.tup []) p.2 := by
  refine callSim (fn := Try.f83) (ret := ret83) Try.func83 rfl Try.ntmps83 rfl ?_ h
  unfold r83
  refine f_seq ?_
  refine f_region ?_
  refine f_op rfl rfl (s_mv (v := .sl a0) rfl) ?_
  refine f_op rfl rfl (s_lenS rfl Try.underlying35 rfl) ?_
  refine f_op rfl rfl (s_as (v := .int .i64 (a0.len : Int)) rfl) ?_
  refine f_nil ?_
  refine f_region ?_
  refine f_op rfl rfl (s_mv (v := .sl a0) rfl) ?_
  refine f_op rfl rfl (s_mv (v := .int .i64 (a0.len : Int)) rfl) ?_
  refine f_op rfl rfl (s_mv (v := .int .i64 (a0.len : Int)) rfl) ?_
  refine f_op rfl rfl (s_convInt Try.underlying3 Try.underlying63 rfl) ?_
  refine o_bind ?_; intro p1 hp1
  refine f_op rfl rfl (s_callF rfl ok88 (sim88 hp1)) ?_
  refine f_op rfl rfl (s_mv (v := a1) rfl) ?_
  refine o_bind ?_; intro p2 hp2
  refine f_op rfl rfl (s_callF rfl ok87 (sim87 happ hp2)) ?_
  refine f_nil ?_
  exact f_end (.nil) rfl

end Go.Lt.P5
