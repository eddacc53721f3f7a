/- PRINTED BY A PROGRAM OF OURS: what each function that 'DealsEqual' reaches computes on the abstract heap, and that the translated code does just that. Nothing is asked of the input. -/
import Derived.Test.YtficeemoekikdaaG9R2
set_option linter.unusedVariables false
set_option linter.unusedSimpArgs false
set_option maxRecDepth 100000
set_option maxHeartbeats 4000000
namespace Go.Lt.P5
open Go Go.Lt Go.Proofs
/- 53 congou/deals.gcd -/
theorem ok53 : FnOk Try.prog 53 := ⟨⟨Try.f53, Try.func53, by kernel_rfl, rfl⟩⟩
theorem s53_l0 : ∀ (k_ : Nat) (v1 : Int) (v2 : Int) (H : Hp), Fin Try.prog Try.f53 ret53 15 (todoAt (bodyOf Try.f53) [1, 0, 0, 0] []) [(0, .int .i64 v1), (1, .int .i64 v2)] H (r53_l0 k_ v1 v2 H) := by
  intro k_
  induction k_ with
  | zero => intro _ _ _; exact f_none
  | succ k_ ih =>
    intro v1 v2 H
    rw [r53_l0]
    refine f_seq ?_
    refine f_seq ?_
    refine f_region ?_
    refine f_op rfl rfl (s_mv (v := .int .i64 v2) rfl) ?_
    refine f_op rfl rfl (s_neq rfl rfl) ?_
    refine f_nil ?_
    refine f_if (fun h1 => ?_) (fun h1 => ?_)
    · skip
      refine f_know 6 rfl (dec_true h1) ?_
      refine f_condT rfl ?_
      refine f_skip ?_
      refine f_block ?_
      refine f_ck fun g2 => ?_
      refine f_draw (Φ := fun _ => True) (lim := 1000000) [0, 0, 0, 0, 0, 0] (Trc.pure rfl rfl rfl (.inl fun _ => s_mv (v := .int .i64 v2) rfl) (Trc.pure rfl rfl rfl (.inl fun _ => s_mv (v := .int .i64 v1) rfl) (Trc.pure rfl rfl rfl (.inl fun _ => s_mv (v := .int .i64 v2) rfl) (Trc.pure rfl rfl rfl (.inl fun _ => s_rem rfl rfl g2) (Trc.pure rfl rfl rfl (.inl fun _ => s_as (v := .int .i64 v2) rfl) (Trc.pure rfl rfl rfl (.inl fun _ => s_as (v := .int .i64 (Int.tmod v1 v2)) rfl) (Trc.nil (fun _ => trivial)))))))) rfl (by decide +kernel) mixed ?_
      refine f_inBlock ?_
      refine f_inLoop ?_
      refine f_keep [0, 1] ?_
      exact ih v2 (Int.tmod v1 v2) H
    · skip
      refine f_know 6 rfl (dec_false h1) ?_
      refine f_condF rfl ?_
      refine f_exit rfl ?_
      refine f_seq ?_
      refine f_region ?_
      refine f_op rfl rfl (s_mv (v := .int .i64 v1) rfl) ?_
      refine f_op rfl rfl (s_mv (v := .int .i64 v1) rfl) ?_
      refine f_op rfl rfl (s_neg rfl) ?_
      refine f_op rfl rfl (s_max2 rfl rfl) ?_
      refine f_op rfl rfl (s_as (v := .int .i64 (if v1 < (w64 (0 - v1)) then (w64 (0 - v1)) else v1)) rfl) ?_
      refine f_nil ?_
      exact f_ret (.tmp rfl (.nil)) rfl

theorem sim53 {a0 : Int} {a1 : Int} {H : Hp} {p : Int × Hp} (h : r53 a0 a1 H = some p) : CallSim Try.prog 53 [.int .i64 a0, .int .i64 a1] H (.int .i64 p.1) p.2 := by
  refine callSim (fn := Try.f53) (ret := ret53) Try.func53 rfl Try.ntmps53 rfl ?_ h
  unfold r53
  refine f_seq ?_
  refine f_region ?_
  refine f_op rfl rfl (s_as (v := .int .i64 0) rfl) ?_
  refine f_nil ?_
  refine f_seq ?_
  refine f_block ?_
  refine f_loop ?_
  refine f_keep [0, 1] ?_
  exact s53_l0 FUEL a0 a1 H

/- 48 congou/deals.frac -/
theorem ok48 : FnOk Try.prog 48 := ⟨⟨Try.f48, Try.func48, by kernel_rfl, rfl⟩⟩
theorem s48_j0 (v1 : Int) (v2 : Int) (v3 : Nat) (H : Hp) : Fin Try.prog Try.f48 ret48 22 (todoAt (bodyOf Try.f48) [1, 1] []) [(0, .int .i64 v1), (1, .int .i64 v2), (4, .ptr v3 0)] H (r48_j0 v1 v2 v3 H) := by
  unfold r48_j0
  refine f_seq ?_
  refine f_region ?_
  refine f_op rfl rfl (s_mv (v := .int .i64 v1) rfl) ?_
  refine f_op rfl rfl (s_mv (v := .int .i64 v2) rfl) ?_
  refine o_bind ?_; intro p1 hp1
  refine f_op rfl rfl (s_callO rfl ok53 (sim53 hp1) rfl rfl) ?_
  refine f_op rfl rfl (s_as (v := .int .i64 p1.1) rfl) ?_
  refine f_nil ?_
  refine f_seq ?_
  refine f_ck fun g2 => ?_
  refine f_ck fun g3 => ?_
  refine f_bind ?_; intro H4 hH4
  refine f_draw (Φ := fun _ => True) (lim := 1000000) [0, 0, 0, 0, 0, 0, 0, 2] (Trc.pure rfl rfl rfl (.inl fun _ => s_mv (v := .int .i64 v1) rfl) (Trc.pure rfl rfl rfl (.inl fun _ => s_mv (v := .int .i64 p1.1) rfl) (Trc.pure rfl rfl rfl (.inl fun _ => s_quo rfl rfl g2) (Trc.pure rfl rfl rfl (.inl fun _ => s_mv (v := .int .i64 v2) rfl) (Trc.pure rfl rfl rfl (.inl fun _ => s_mv (v := .int .i64 p1.1) rfl) (Trc.pure rfl rfl rfl (.inl fun _ => s_quo rfl rfl g3) (Trc.pure rfl rfl rfl (.inl fun _ => s_build (cs := [.int .i64 (w64 (Int.tdiv v1 p1.1)), .int .i64 (w64 (Int.tdiv v2 p1.1))]) Try.underlying23 ty23 rfl pl23 rfl) (Trc.eff rfl rfl rfl (fun _ => trivial) (s_stores ty23 rfl rfl rfl rfl hH4 (Nat.le_of_eq (sts_mono hH4).symm)) (Trc.nil (fun _ => trivial)))))))))) rfl (by decide +kernel) mixed ?_
  refine f_bind ?_; intro x5 hx5
  refine f_bind ?_; intro x6 hx6
  exact f_ret (.cells Try.underlying23 rfl sz23 rfl (lds_cons (ldI_eq hx5) (lds_cons (ldI_eq hx6) (lds_nil))) (.nil)) rfl

theorem sim48 {a0 : Int} {a1 : Int} {H : Hp} {p : (Int × Int) × Hp} (h : r48 a0 a1 H = some p) : CallSim Try.prog 48 [.int .i64 a0, .int .i64 a1] H (.agg [.int .i64 p.1.1, .int .i64 p.1.2]) p.2 := by
  refine callSim (fn := Try.f48) (ret := ret48) Try.func48 rfl Try.ntmps48 rfl ?_ h
  unfold r48
  refine f_seq ?_
  refine f_region ?_
  refine f_op rfl rfl (s_alloc (zs := [.int .i64 0, .int .i64 0]) ty23 rfl rfl) ?_
  refine o_hp ?_; intro H1 hH1
  refine f_nil ?_
  refine f_seq ?_
  refine f_seq ?_
  refine f_region ?_
  refine f_op rfl rfl (s_mv (v := .int .i64 a1) rfl) ?_
  refine f_op rfl rfl (s_lss rfl rfl) ?_
  refine f_nil ?_
  refine f_if (fun h2 => ?_) (fun h2 => ?_)
  · skip
    refine f_know 7 rfl (dec_true h2) ?_
    refine f_condT rfl ?_
    refine f_region ?_
    refine f_op rfl rfl (s_mv (v := .int .i64 a0) rfl) ?_
    refine f_op rfl rfl (s_neg rfl) ?_
    refine f_op rfl rfl (s_mv (v := .int .i64 a1) rfl) ?_
    refine f_op rfl rfl (s_neg rfl) ?_
    refine f_op rfl rfl (s_as (v := .int .i64 (w64 (0 - a0))) rfl) ?_
    refine f_op rfl rfl (s_as (v := .int .i64 (w64 (0 - a1))) rfl) ?_
    refine f_nil ?_
    refine f_keep [0, 1, 4] ?_
    exact s48_j0 (w64 (0 - a0)) (w64 (0 - a1)) H.n H1
  · skip
    refine f_know 7 rfl (dec_false h2) ?_
    refine f_condF rfl ?_
    refine f_skip ?_
    refine f_keep [0, 1, 4] ?_
    exact s48_j0 a0 a1 H.n H1

/- 70 congou/deals.isNumber -/
theorem ok70 : FnOk Try.prog 70 := ⟨⟨Try.f70, Try.func70, by kernel_rfl, rfl⟩⟩
theorem sim70 {a0 : Int} {H : Hp} {p : Bool × Hp} (h : r70 a0 H = some p) : CallSim Try.prog 70 [.int .i64 a0] H (.bool p.1) p.2 := by
  refine callSim (fn := Try.f70) (ret := ret70) Try.func70 rfl Try.ntmps70 rfl ?_ h
  unfold r70
  refine f_seq ?_
  refine f_region ?_
  refine f_op rfl rfl (s_as (v := .bool false) rfl) ?_
  refine f_nil ?_
  refine f_seq ?_
  refine f_region ?_
  refine f_op rfl rfl (s_mv (v := .int .i64 a0) rfl) ?_
  refine f_op rfl rfl (s_geq rfl rfl) ?_
  refine f_op rfl rfl (s_mv (v := .bool (decide (0 ≤ a0))) rfl) ?_
  refine o_if (fun h1 => ?_) (fun h1 => ?_)
  · skip
    refine o_know 5 rfl (dec_true h1) ?_
    refine f_op rfl rfl (s_mv (v := .int .i64 a0) rfl) ?_
    refine f_op rfl rfl (s_leq rfl rfl) ?_
    refine f_op rfl rfl (s_pickT (v := .bool (decide (a0 ≤ 30))) rfl rfl) ?_
    refine f_op rfl rfl (s_as (v := .bool (decide (a0 ≤ 30))) rfl) ?_
    refine f_nil ?_
    exact f_ret (.tmp rfl (.nil)) rfl
  · skip
    refine o_know 5 rfl (dec_false h1) ?_
    refine f_no rfl rfl ?_
    refine f_no rfl rfl ?_
    refine f_op rfl rfl (s_pickF (v := .bool false) rfl rfl) ?_
    refine f_op rfl rfl (s_as (v := .bool false) rfl) ?_
    refine f_nil ?_
    exact f_ret (.tmp rfl (.nil)) rfl

/- 81 slices.Index[congou/deals.offers,[2]int] -/
theorem ok81 : FnOk Try.prog 81 := ⟨⟨Try.f81, Try.func81, by kernel_rfl, rfl⟩⟩
theorem s81_l0 : ∀ (k_ : Nat) (v1 : Sl) (v2 : Nat) (v3 : Int) (v4 : Int) (H : Hp), Fin Try.prog Try.f81 ret81 19 (todoAt (bodyOf Try.f81) [1, 0, 1, 0, 0] []) [(0, .sl v1), (3, .ptr v2 0), (7, .int .i64 v3), (8, .int .i64 v4)] H (r81_l0 k_ v1 v2 v3 v4 H) := by
  intro k_
  induction k_ with
  | zero => intro _ _ _ _ _; exact f_none
  | succ k_ ih =>
    intro v1 v2 v3 v4 H
    rw [r81_l0]
    refine f_seq ?_
    refine f_region ?_
    refine f_op rfl rfl (s_lss rfl rfl) ?_
    refine f_nil ?_
    refine f_seq ?_
    refine f_if (fun h1 => ?_) (fun h1 => ?_)
    · skip
      refine f_know 9 rfl (dec_true h1) ?_
      refine f_condT rfl ?_
      refine f_skip ?_
      refine f_seq ?_
      refine f_block ?_
      refine f_seq ?_
      refine f_region ?_
      refine f_op rfl rfl (s_mv (v := .int .i64 v4) rfl) ?_
      refine f_op rfl rfl (s_as (v := .int .i64 v4) rfl) ?_
      refine f_nil ?_
      refine f_seq ?_
      refine f_bind ?_; intro x2 hx2
      refine f_bind ?_; intro x3 hx3
      refine f_ck fun g4 => ?_
      refine f_bind ?_; intro x5 hx5
      refine f_bind ?_; intro x6 hx6
      refine f_draw (Φ := fun _ => True) (lim := 1000000) [1, 0, 0, 0, 1, 0] (Trc.read rfl rfl rfl (s_loads Try.underlying49 rfl ty49 rfl (lds_cons (ldI_eq hx2) (lds_cons (ldI_eq hx3) (lds_nil)))) (Trc.pure rfl rfl rfl (.inl fun _ => s_mv (v := .sl v1) rfl) (Trc.pure rfl rfl rfl (.inl fun _ => s_mv (v := .int .i64 v4) rfl) (Trc.pure rfl rfl rfl (.inl fun _ => s_idx Try.underlying72 ty49 rfl rfl g4) (Trc.read rfl rfl rfl (s_loads Try.underlying49 rfl ty49 rfl (lds_cons (ldI_eq hx5) (lds_cons (ldI_eq hx6) (lds_nil)))) (Trc.pure rfl rfl rfl (.inl fun _ => s_eqArr eg49 Try.underlying49 Try.underlying3 ty3 rfl rfl rfl rfl rfl rfl) (Trc.nil (fun _ => trivial)))))))) rfl (by decide +kernel) mixed ?_
      refine f_if (fun h7 => ?_) (fun h7 => ?_)
      · skip
        refine f_know 16 rfl (bool_T h7) ?_
        refine f_condT rfl ?_
        refine f_seq ?_
        refine f_region ?_
        refine f_op rfl rfl (s_mv (v := .int .i64 v4) rfl) ?_
        refine f_op rfl rfl (s_as (v := .int .i64 v4) rfl) ?_
        refine f_nil ?_
        exact f_ret (.tmp rfl (.nil)) rfl
      · skip
        refine f_know 16 rfl (bool_F h7) ?_
        refine f_condF rfl ?_
        refine f_skip ?_
        refine f_inBlock ?_
        refine f_region ?_
        refine f_op rfl rfl (s_add rfl rfl) ?_
        refine f_op rfl rfl (s_mv (v := .int .i64 (w64 (v4 + 1))) rfl) ?_
        refine f_nil ?_
        refine f_inLoop ?_
        refine f_keep [0, 3, 7, 8] ?_
        exact ih v1 v2 v3 (w64 (v4 + 1)) H
    · skip
      refine f_know 9 rfl (dec_false h1) ?_
      refine f_condF rfl ?_
      refine f_exit rfl ?_
      refine f_seq ?_
      refine f_region ?_
      refine f_op rfl rfl (s_as (v := .int .i64 (-1)) rfl) ?_
      refine f_nil ?_
      exact f_ret (.tmp rfl (.nil)) rfl

theorem sim81 {a0 : Sl} {a1_0 : Int} {a1_1 : Int} {H : Hp} {p : Int × Hp} (h : r81 a0 a1_0 a1_1 H = some p) : CallSim Try.prog 81 [.sl a0, .agg [.int .i64 a1_0, .int .i64 a1_1]] H (.int .i64 p.1) p.2 := by
  refine callSim (fn := Try.f81) (ret := ret81) Try.func81 rfl Try.ntmps81 rfl ?_ h
  unfold r81
  refine f_seq ?_
  refine f_region ?_
  refine f_op rfl rfl (s_box (v := .agg [.int .i64 a1_0, .int .i64 a1_1]) rfl rfl) ?_
  refine f_op rfl rfl (s_as (v := .int .i64 0) rfl) ?_
  refine o_hp ?_; intro H1 hH1
  refine f_nil ?_
  refine f_seq ?_
  refine f_seq ?_
  refine f_region ?_
  refine f_op rfl rfl (s_mv (v := .sl a0) rfl) ?_
  refine f_op rfl rfl (s_lenS rfl Try.underlying72 rfl) ?_
  refine f_op rfl rfl (s_mv (v := .int .i64 0) rfl) ?_
  refine f_nil ?_
  refine f_block ?_
  refine f_loop ?_
  refine f_keep [0, 3, 7, 8] ?_
  exact s81_l0 FUEL a0 H.n (a0.len : Int) 0 H1

/- 71 slices.Contains[congou/deals.offers,[2]int] -/
theorem ok71 : FnOk Try.prog 71 := ⟨⟨Try.f71, Try.func71, by kernel_rfl, rfl⟩⟩
theorem sim71 {a0 : Sl} {a1_0 : Int} {a1_1 : Int} {H : Hp} {p : Bool × Hp} (h : r71 a0 a1_0 a1_1 H = some p) : CallSim Try.prog 71 [.sl a0, .agg [.int .i64 a1_0, .int .i64 a1_1]] H (.bool p.1) p.2 := by
  refine callSim (fn := Try.f71) (ret := ret71) Try.func71 rfl Try.ntmps71 rfl ?_ h
  unfold r71
  refine f_seq ?_
  refine f_region ?_
  refine f_op rfl rfl (s_box (v := .agg [.int .i64 a1_0, .int .i64 a1_1]) rfl rfl) ?_
  refine f_op rfl rfl (s_as (v := .bool false) rfl) ?_
  refine o_hp ?_; intro H1 hH1
  refine f_nil ?_
  refine f_seq ?_
  refine f_region ?_
  refine f_op rfl rfl (s_mv (v := .sl a0) rfl) ?_
  refine o_bind ?_; intro x2 hx2
  refine o_bind ?_; intro x3 hx3
  refine f_op rfl rfl (s_loads Try.underlying49 rfl ty49 rfl (lds_cons (ldI_eq hx2) (lds_cons (ldI_eq hx3) (lds_nil)))) ?_
  refine o_bind ?_; intro p4 hp4
  refine f_op rfl rfl (s_callF rfl ok81 (sim81 hp4)) ?_
  refine f_op rfl rfl (s_geq rfl rfl) ?_
  refine f_op rfl rfl (s_as (v := .bool (decide (0 ≤ p4.1))) rfl) ?_
  refine f_nil ?_
  exact f_ret (.tmp rfl (.nil)) rfl

/- 52 (congou/deals.offers).valid -/
theorem ok52 : FnOk Try.prog 52 := ⟨⟨Try.f52, Try.func52, by kernel_rfl, rfl⟩⟩
theorem s52_j2 (kt1 : Sl → Sl → Int → Int → Hp → Option (Bool × Hp)) (hkt1 : ∀ (v1 : Sl) (v2 : Sl) (v3 : Int) (v4 : Int) (H : Hp), Fin Try.prog Try.f52 ret52 38 (todoAt (bodyOf Try.f52) [1, 1, 0, 1, 0, 0] []) [(0, .sl v1), (13, .sl v2), (14, .int .i64 v3), (15, .int .i64 v4)] H (kt1 v1 v2 v3 v4 H)) (v1 : Sl) (v2 : Sl) (v3 : Int) (v4 : Int) (v5 : Bool) (H : Hp) : Fin Try.prog Try.f52 ret52 38 (todoAt (bodyOf Try.f52) [1, 1, 0, 1, 0, 0, 1, 1, 0, 0, 1, 1] []) [(0, .sl v1), (13, .sl v2), (14, .int .i64 v3), (15, .int .i64 v4), (36, .bool v5)] H (r52_j2 kt1 v1 v2 v3 v4 v5 H) := by
  unfold r52_j2
  refine f_if (fun h1 => ?_) (fun h1 => ?_)
  · skip
    refine f_know 36 rfl (bool_T h1) ?_
    refine f_condT rfl ?_
    refine f_seq ?_
    refine f_region ?_
    refine f_op rfl rfl (s_as (v := .bool false) rfl) ?_
    refine f_nil ?_
    exact f_ret (.tmp rfl (.nil)) rfl
  · skip
    refine f_know 36 rfl (bool_F h1) ?_
    refine f_condF rfl ?_
    refine f_skip ?_
    refine f_inBlock ?_
    refine f_region ?_
    refine f_op rfl rfl (s_add rfl rfl) ?_
    refine f_op rfl rfl (s_mv (v := .int .i64 (w64 (v4 + 1))) rfl) ?_
    refine f_nil ?_
    refine f_inLoop ?_
    refine f_keep [0, 13, 14, 15] ?_
    exact hkt1 v1 v2 v3 (w64 (v4 + 1)) H

theorem s52_l1 : ∀ (k_ : Nat) (v1 : Sl) (v2 : Sl) (v3 : Int) (v4 : Int) (H : Hp), Fin Try.prog Try.f52 ret52 38 (todoAt (bodyOf Try.f52) [1, 1, 0, 1, 0, 0] []) [(0, .sl v1), (13, .sl v2), (14, .int .i64 v3), (15, .int .i64 v4)] H (r52_l1 k_ v1 v2 v3 v4 H) := by
  intro k_
  induction k_ with
  | zero => intro _ _ _ _ _; exact f_none
  | succ k_ ih =>
    intro v1 v2 v3 v4 H
    rw [r52_l1]
    refine f_seq ?_
    refine f_region ?_
    refine f_op rfl rfl (s_lss rfl rfl) ?_
    refine f_nil ?_
    refine f_seq ?_
    refine f_if (fun h1 => ?_) (fun h1 => ?_)
    · skip
      refine f_know 16 rfl (dec_true h1) ?_
      refine f_condT rfl ?_
      refine f_skip ?_
      refine f_seq ?_
      refine f_block ?_
      refine f_seq ?_
      refine f_region ?_
      refine f_op rfl rfl (s_mv (v := .int .i64 v4) rfl) ?_
      refine o_ck fun g2 => ?_
      refine f_op rfl rfl (s_idx Try.underlying72 ty49 rfl rfl g2) ?_
      refine o_bind ?_; intro x3 hx3
      refine o_bind ?_; intro x4 hx4
      refine f_op rfl rfl (s_loads Try.underlying49 rfl ty49 rfl (lds_cons (ldI_eq hx3) (lds_cons (ldI_eq hx4) (lds_nil)))) ?_
      refine f_op rfl rfl (s_alloc (zs := [.int .i64 0, .int .i64 0]) ty49 rfl rfl) ?_
      refine f_op rfl rfl (s_as (v := .int .i64 v4) rfl) ?_
      refine o_bind ?_; intro H5 hH5
      refine f_op rfl rfl (s_stores ty49 rfl rfl rfl rfl hH5 (Nat.le_of_eq (sts_mono hH5).symm)) ?_
      refine f_nil ?_
      refine f_seq ?_
      refine f_bind ?_; intro x6 hx6
      refine f_bind ?_; intro p7 hp7
      refine f_if (fun h8 => ?_) (fun h8 => ?_)
      · skip
        refine f_bind ?_; intro x9 hx9
        refine f_bind ?_; intro p10 hp10
        refine f_if (fun h11 => ?_) (fun h11 => ?_)
        · skip
          refine f_ck fun g12 => ?_
          refine f_bind ?_; intro x13 hx13
          refine f_bind ?_; intro x14 hx14
          refine f_bind ?_; intro p15 hp15
          refine f_draw (Φ := fun _ => True) (lim := 1000000) [0, 1, 0, 0, 0, 0, 1, 0, 0, 0, 0, 0, 0, 0, 1, 2, 0] (Trc.pure rfl rfl rfl (.inl fun _ => s_idxA Try.underlying49 ty3 rfl rfl (by decide)) (Trc.read rfl rfl rfl (s_load Try.underlying3 rfl rfl (ldI_eq hx6)) (Trc.pure rfl rfl rfl (.inl fun _ => s_callO rfl ok70 (sim70 hp7) rfl rfl) (Trc.pure rfl rfl rfl (.inl fun _ => s_not rfl) (Trc.pure rfl rfl rfl (.inl fun _ => s_mv (v := .bool (!p7.1)) rfl) (Trc.know 24 rfl (bool_notT h8) (Trc.pure rfl rfl rfl (.inl fun _ => s_idxA Try.underlying49 ty3 rfl rfl (by decide)) (Trc.read rfl rfl rfl (s_load Try.underlying3 rfl rfl (ldI_eq hx9)) (Trc.pure rfl rfl rfl (.inl fun _ => s_callO rfl ok70 (sim70 hp10) rfl rfl) (Trc.pure rfl rfl rfl (.inl fun _ => s_not rfl) (Trc.pure rfl rfl rfl (.inl fun _ => s_pickF (v := .bool (!p10.1)) rfl rfl) (Trc.pure rfl rfl rfl (.inl fun _ => s_mv (v := .bool (!p10.1)) rfl) (Trc.know 30 rfl (bool_notT h11) (Trc.pure rfl rfl rfl (.inl fun _ => s_mv (v := .sl v1) rfl) (Trc.pure rfl rfl rfl (.inl fun _ => s_mv (v := .int .i64 v4) rfl) (Trc.pure rfl rfl rfl (.inl fun _ => s_slice Try.underlying72 ty49 rfl rfl rfl g12.1 g12.2) (Trc.read rfl rfl rfl (s_loads Try.underlying49 rfl ty49 rfl (lds_cons (ldI_eq hx13) (lds_cons (ldI_eq hx14) (lds_nil)))) (Trc.eff rfl rfl rfl (fun _ => trivial) (s_callF rfl ok71 (sim71 hp15)) (Trc.pure rfl rfl rfl (.inl fun _ => s_pickF (v := .bool p15.1) rfl rfl) (Trc.nil (fun _ => trivial))))))))))))))))))))) rfl (by decide +kernel) mixed ?_
          refine f_keep [0, 13, 14, 15, 36] ?_
          exact s52_j2 _ (fun v1_ v2_ v3_ v4_ H_ => ih v1_ v2_ v3_ v4_ H_) v1 v2 v3 v4 p15.1 p15.2
        · skip
          refine f_draw (Φ := fun _ => True) (lim := 1000000) [0, 1, 0, 0, 0, 0, 1, 0, 0, 0, 0, 0, 0, 0, 0, 0, 0] (Trc.pure rfl rfl rfl (.inl fun _ => s_idxA Try.underlying49 ty3 rfl rfl (by decide)) (Trc.read rfl rfl rfl (s_load Try.underlying3 rfl rfl (ldI_eq hx6)) (Trc.pure rfl rfl rfl (.inl fun _ => s_callO rfl ok70 (sim70 hp7) rfl rfl) (Trc.pure rfl rfl rfl (.inl fun _ => s_not rfl) (Trc.pure rfl rfl rfl (.inl fun _ => s_mv (v := .bool (!p7.1)) rfl) (Trc.know 24 rfl (bool_notT h8) (Trc.pure rfl rfl rfl (.inl fun _ => s_idxA Try.underlying49 ty3 rfl rfl (by decide)) (Trc.read rfl rfl rfl (s_load Try.underlying3 rfl rfl (ldI_eq hx9)) (Trc.pure rfl rfl rfl (.inl fun _ => s_callO rfl ok70 (sim70 hp10) rfl rfl) (Trc.pure rfl rfl rfl (.inl fun _ => s_not rfl) (Trc.pure rfl rfl rfl (.inl fun _ => s_pickF (v := .bool (!p10.1)) rfl rfl) (Trc.pure rfl rfl rfl (.inl fun _ => s_mv (v := .bool (!p10.1)) rfl) (Trc.know 30 rfl (bool_notF h11) (Trc.no rfl rfl rfl (Trc.no rfl rfl rfl (Trc.no rfl rfl rfl (Trc.no rfl rfl rfl (Trc.no rfl rfl rfl (Trc.pure rfl rfl rfl (.inl fun _ => s_pickT (v := .bool true) rfl rfl) (Trc.nil (fun _ => trivial))))))))))))))))))))) rfl (by decide +kernel) mixed ?_
          refine f_keep [0, 13, 14, 15, 36] ?_
          exact s52_j2 _ (fun v1_ v2_ v3_ v4_ H_ => ih v1_ v2_ v3_ v4_ H_) v1 v2 v3 v4 true H5
      · skip
        refine f_draw (Φ := fun _ => True) (lim := 1000000) [0, 1, 0, 0, 0, 0, 0, 0, 0, 0, 0, 0, 0, 0, 0, 0, 0] (Trc.pure rfl rfl rfl (.inl fun _ => s_idxA Try.underlying49 ty3 rfl rfl (by decide)) (Trc.read rfl rfl rfl (s_load Try.underlying3 rfl rfl (ldI_eq hx6)) (Trc.pure rfl rfl rfl (.inl fun _ => s_callO rfl ok70 (sim70 hp7) rfl rfl) (Trc.pure rfl rfl rfl (.inl fun _ => s_not rfl) (Trc.pure rfl rfl rfl (.inl fun _ => s_mv (v := .bool (!p7.1)) rfl) (Trc.know 24 rfl (bool_notF h8) (Trc.no rfl rfl rfl (Trc.no rfl rfl rfl (Trc.no rfl rfl rfl (Trc.no rfl rfl rfl (Trc.pure rfl rfl rfl (.inl fun _ => s_pickT (v := .bool true) rfl rfl) (Trc.pure rfl rfl rfl (.inl fun _ => s_mv (v := .bool true) rfl) (Trc.no rfl rfl rfl (Trc.no rfl rfl rfl (Trc.no rfl rfl rfl (Trc.no rfl rfl rfl (Trc.no rfl rfl rfl (Trc.pure rfl rfl rfl (.inl fun _ => s_pickT (v := .bool true) rfl rfl) (Trc.nil (fun _ => trivial)))))))))))))))))))) rfl (by decide +kernel) mixed ?_
        refine f_keep [0, 13, 14, 15, 36] ?_
        exact s52_j2 _ (fun v1_ v2_ v3_ v4_ H_ => ih v1_ v2_ v3_ v4_ H_) v1 v2 v3 v4 true H5
    · skip
      refine f_know 16 rfl (dec_false h1) ?_
      refine f_condF rfl ?_
      refine f_exit rfl ?_
      refine f_seq ?_
      refine f_region ?_
      refine f_op rfl rfl (s_as (v := .bool true) rfl) ?_
      refine f_nil ?_
      exact f_ret (.tmp rfl (.nil)) rfl

theorem s52_j0 (v1 : Sl) (v2 : Bool) (H : Hp) : Fin Try.prog Try.f52 ret52 38 (todoAt (bodyOf Try.f52) [1, 0, 1] []) [(0, .sl v1), (12, .bool v2)] H (r52_j0 v1 v2 H) := by
  unfold r52_j0
  refine f_if (fun h1 => ?_) (fun h1 => ?_)
  · skip
    refine f_know 12 rfl (bool_T h1) ?_
    refine f_condT rfl ?_
    refine f_seq ?_
    refine f_region ?_
    refine f_op rfl rfl (s_as (v := .bool false) rfl) ?_
    refine f_nil ?_
    exact f_ret (.tmp rfl (.nil)) rfl
  · skip
    refine f_know 12 rfl (bool_F h1) ?_
    refine f_condF rfl ?_
    refine f_skip ?_
    refine f_seq ?_
    refine f_seq ?_
    refine f_region ?_
    refine f_op rfl rfl (s_mv (v := .sl v1) rfl) ?_
    refine f_op rfl rfl (s_lenS rfl Try.underlying72 rfl) ?_
    refine f_op rfl rfl (s_mv (v := .int .i64 0) rfl) ?_
    refine f_nil ?_
    refine f_block ?_
    refine f_loop ?_
    refine f_keep [0, 13, 14, 15] ?_
    exact s52_l1 FUEL v1 v1 (v1.len : Int) 0 H

theorem sim52 {a0 : Sl} {H : Hp} {p : Bool × Hp} (h : r52 a0 H = some p) : CallSim Try.prog 52 [.sl a0] H (.bool p.1) p.2 := by
  refine callSim (fn := Try.f52) (ret := ret52) Try.func52 rfl Try.ntmps52 rfl ?_ h
  unfold r52
  refine f_seq ?_
  refine f_region ?_
  refine f_op rfl rfl (s_as (v := .bool false) rfl) ?_
  refine f_nil ?_
  refine f_seq ?_
  refine f_seq ?_
  refine f_region ?_
  refine f_op rfl rfl (s_mv (v := .sl a0) rfl) ?_
  refine f_op rfl rfl (s_lenS rfl Try.underlying72 rfl) ?_
  refine f_op rfl rfl (s_lss rfl rfl) ?_
  refine f_op rfl rfl (s_mv (v := .bool (decide ((a0.len : Int) < 1))) rfl) ?_
  refine o_if (fun h1 => ?_) (fun h1 => ?_)
  · skip
    refine o_know 8 rfl (dec_true h1) ?_
    refine f_no rfl rfl ?_
    refine f_no rfl rfl ?_
    refine f_no rfl rfl ?_
    refine f_op rfl rfl (s_pickT (v := .bool true) rfl rfl) ?_
    refine f_nil ?_
    refine f_keep [0, 12] ?_
    exact s52_j0 a0 true H
  · skip
    refine o_know 8 rfl (dec_false h1) ?_
    refine f_op rfl rfl (s_mv (v := .sl a0) rfl) ?_
    refine f_op rfl rfl (s_lenS rfl Try.underlying72 rfl) ?_
    refine f_op rfl rfl (s_gtr rfl rfl) ?_
    refine f_op rfl rfl (s_pickF (v := .bool (decide (8 < (a0.len : Int)))) rfl rfl) ?_
    refine f_nil ?_
    refine f_keep [0, 12] ?_
    exact s52_j0 a0 (decide (8 < (a0.len : Int))) H

/- 86 slices.AppendSeq[[][2]int,[2]int] -/
theorem ok86 : FnOk Try.prog 86 := ⟨⟨Try.f86, Try.func86, by kernel_rfl, rfl⟩⟩
theorem sim86 {app : App} (happ : AppSim Try.prog app) {a0 : Sl} {a1 : AV} {H : Hp} {p : Sl × Hp} (h : r86 app a0 a1 H = some p) : CallSim Try.prog 86 [.sl a0, a1] H (.sl p.1) p.2 := by
  refine callSim (fn := Try.f86) (ret := ret86) Try.func86 rfl Try.ntmps86 rfl ?_ h
  unfold r86
  refine f_seq ?_
  refine f_region ?_
  refine f_op rfl rfl (s_box1 (v := .sl a0) rfl rfl) ?_
  refine f_op rfl rfl (s_as (v := .sl ⟨true, 0, 0, 0, 0, 0⟩) rfl) ?_
  refine o_hp ?_; intro H1 hH1
  refine f_nil ?_
  refine f_seq ?_
  refine f_seq ?_
  refine f_region ?_
  refine f_op rfl rfl (s_mv (v := a1) rfl) ?_
  refine f_nil ?_
  refine f_block ?_
  refine f_bind ?_; intro p2 hp2
  refine f_bind ?_; intro q3 hq3
  refine f_rangeX happ rfl rfl (lookup_restrict _ [2]) rfl hp2 hq3 ?_
  refine f_if (fun h4 => ?_) (fun h4 => ?_)
  · skip
    refine f_jmp0 h4 ?_
    refine f_inBlock ?_
    refine f_seq ?_
    refine f_region ?_
    refine o_bind ?_; intro x5 hx5
    refine f_op rfl rfl (s_load Try.underlying35 rfl rfl (ldSl_eq hx5)) ?_
    refine f_op rfl rfl (s_as (v := .sl x5) rfl) ?_
    refine f_nil ?_
    refine f_ck fun g6 => ?_
    exact f_retD (.tmp rfl (.nil)) rfl (dfrs_of g6)
  · skip
    exact f_none

theorem sim86q0 {app : App} (happ : AppSim Try.prog app) {l_ : Nat} {v1 : Nat} {y0_0 : Int} {y0_1 : Int} {H : Hp} : FinG Try.prog PostR ⟨13, [], some l_⟩ [.code (siteTab 0).2.1, .beginRound, .code (siteTab 0).2.2] (zipF [7] [.agg [.int .i64 y0_0, .int .i64 y0_1]] [(2, .ptr v1 0)]) H (r86q0 app l_ v1 y0_0 y0_1 H) := by
  show FinG Try.prog PostR ⟨13, [], some l_⟩ (todoAt (bodyOf Try.f86) [1, 0, 1, 0, 0] []) [(7, .agg [.int .i64 y0_0, .int .i64 y0_1]), (2, .ptr v1 0)] H _
  unfold r86q0
  refine f_region ?_
  refine f_op rfl rfl (s_alloc (zs := [.int .i64 0, .int .i64 0]) ty49 rfl rfl) ?_
  refine o_bind ?_; intro H1 hH1
  refine f_op rfl rfl (s_stores ty49 rfl rfl rfl rfl hH1 (Nat.le_of_eq (sts_mono hH1).symm)) ?_
  refine f_nil ?_
  refine f_bind ?_; intro H2 hH2
  refine f_beginX rfl hH2 ?_
  refine f_block ?_
  refine f_region ?_
  refine o_bind ?_; intro x3 hx3
  refine f_op rfl rfl (s_load Try.underlying35 rfl rfl (ldSl_eq hx3)) ?_
  refine o_bind ?_; intro x4 hx4
  refine o_bind ?_; intro x5 hx5
  refine f_op rfl rfl (s_loads Try.underlying49 rfl ty49 rfl (lds_cons (ldI_eq hx4) (lds_cons (ldI_eq hx5) (lds_nil)))) ?_
  refine f_op rfl rfl (s_buildSlice (cs := [.int .i64 x4, .int .i64 x5]) Try.underlying35 ty49 (by decide) (by decide) rfl (by decide) rfl) ?_
  refine o_bind ?_; intro x6 hx6
  refine f_op rfl rfl (s_ap rfl rfl Try.underlying35 Try.underlying35 ty49 rfl rfl rfl rfl rfl rfl rfl hx6) ?_
  refine o_bind ?_; intro H7 hH7
  refine f_op rfl rfl (s_store (s := 1) ty35 rfl rfl rfl hH7) ?_
  refine f_nil ?_
  refine f_inBlock ?_
  exact f_rend

/- 82 slices.Collect[[2]int] -/
theorem ok82 : FnOk Try.prog 82 := ⟨⟨Try.f82, Try.func82, by kernel_rfl, rfl⟩⟩
theorem sim82 {app : App} (happ : AppSim Try.prog app) {a0 : AV} {H : Hp} {p : Sl × Hp} (h : r82 app a0 H = some p) : CallSim Try.prog 82 [a0] H (.sl p.1) p.2 := by
  refine callSim (fn := Try.f82) (ret := ret82) Try.func82 rfl Try.ntmps82 rfl ?_ h
  unfold r82
  refine f_seq ?_
  refine f_region ?_
  refine f_op rfl rfl (s_as (v := .sl ⟨true, 0, 0, 0, 0, 0⟩) rfl) ?_
  refine f_nil ?_
  refine f_seq ?_
  refine f_region ?_
  refine f_op rfl rfl (s_mv (v := a0) rfl) ?_
  refine o_bind ?_; intro p1 hp1
  refine f_op rfl rfl (s_callF rfl ok86 (sim86 happ hp1)) ?_
  refine f_op rfl rfl (s_as (v := .sl p1.1) rfl) ?_
  refine f_nil ?_
  exact f_ret (.tmp rfl (.nil)) rfl

/- 89 slices.insertionSortCmpFunc[[2]int] -/
theorem ok89 : FnOk Try.prog 89 := ⟨⟨Try.f89, Try.func89, by kernel_rfl, rfl⟩⟩
theorem s89_j2 {app : App} (happ : AppSim Try.prog app) (kt0 : Sl → Int → Int → AV → Int → Hp → Option (Unit × Hp)) (hkt0 : ∀ (v1 : Sl) (v2 : Int) (v3 : Int) (v4 : AV) (v5 : Int) (H : Hp), Fin Try.prog Try.f89 ret89 53 (todoAt (bodyOf Try.f89) [1, 0, 0] []) [(0, .sl v1), (1, .int .i64 v2), (2, .int .i64 v3), (3, v4), (8, .int .i64 v5)] H (kt0 v1 v2 v3 v4 v5 H)) (kt1 : Sl → Int → Int → AV → Int → Int → Hp → Option (Unit × Hp)) (hkt1 : ∀ (v1 : Sl) (v2 : Int) (v3 : Int) (v4 : AV) (v5 : Int) (v6 : Int) (H : Hp), Fin Try.prog Try.f89 ret89 53 (todoAt (bodyOf Try.f89) [1, 0, 0, 1, 0, 0, 1, 0, 0] []) [(0, .sl v1), (1, .int .i64 v2), (2, .int .i64 v3), (3, v4), (8, .int .i64 v5), (9, .int .i64 v6)] H (kt1 v1 v2 v3 v4 v5 v6 H)) (v1 : Sl) (v2 : Int) (v3 : Int) (v4 : AV) (v5 : Int) (v6 : Int) (v7 : Bool) (H : Hp) : Fin Try.prog Try.f89 ret89 53 (todoAt (bodyOf Try.f89) [1, 0, 0, 1, 0, 0, 1, 0, 0, 0, 1] []) [(0, .sl v1), (1, .int .i64 v2), (2, .int .i64 v3), (3, v4), (8, .int .i64 v5), (9, .int .i64 v6), (34, .bool v7)] H (r89_j2 app kt0 kt1 v1 v2 v3 v4 v5 v6 v7 H) := by
  unfold r89_j2
  refine f_if (fun h1 => ?_) (fun h1 => ?_)
  · skip
    refine f_know 34 rfl (bool_T h1) ?_
    refine f_condT rfl ?_
    refine f_skip ?_
    refine f_seq ?_
    refine f_block ?_
    refine f_ck fun g2 => ?_
    refine f_bind ?_; intro x3 hx3
    refine f_bind ?_; intro x4 hx4
    refine f_ck fun g5 => ?_
    refine f_bind ?_; intro x6 hx6
    refine f_bind ?_; intro x7 hx7
    refine f_ck fun g8 => ?_
    refine f_bind ?_; intro H9 hH9
    refine f_ck fun g10 => ?_
    refine f_bind ?_; intro H11 hH11
    refine f_draw (Φ := fun _ => True) (lim := 1000000) [0, 0, 0, 0, 0, 0, 0, 0, 0, 1, 0, 0, 0, 1, 0, 2, 0, 2] (Trc.pure rfl rfl rfl (.inl fun _ => s_mv (v := .sl v1) rfl) (Trc.pure rfl rfl rfl (.inl fun _ => s_mv (v := .int .i64 v6) rfl) (Trc.pure rfl rfl rfl (.inl fun _ => s_mv (v := .sl v1) rfl) (Trc.pure rfl rfl rfl (.inl fun _ => s_mv (v := .int .i64 v6) rfl) (Trc.pure rfl rfl rfl (.inl fun _ => s_sub rfl rfl) (Trc.pure rfl rfl rfl (.inl fun _ => s_mv (v := .sl v1) rfl) (Trc.pure rfl rfl rfl (.inl fun _ => s_mv (v := .int .i64 v6) rfl) (Trc.pure rfl rfl rfl (.inl fun _ => s_sub rfl rfl) (Trc.pure rfl rfl rfl (.inl fun _ => s_idx Try.underlying35 ty49 rfl rfl g2) (Trc.read rfl rfl rfl (s_loads Try.underlying49 rfl ty49 rfl (lds_cons (ldI_eq hx3) (lds_cons (ldI_eq hx4) (lds_nil)))) (Trc.pure rfl rfl rfl (.inl fun _ => s_mv (v := .sl v1) rfl) (Trc.pure rfl rfl rfl (.inl fun _ => s_mv (v := .int .i64 v6) rfl) (Trc.pure rfl rfl rfl (.inl fun _ => s_idx Try.underlying35 ty49 rfl rfl g5) (Trc.read rfl rfl rfl (s_loads Try.underlying49 rfl ty49 rfl (lds_cons (ldI_eq hx6) (lds_cons (ldI_eq hx7) (lds_nil)))) (Trc.pure rfl rfl rfl (.inl fun _ => s_idx Try.underlying35 ty49 rfl rfl g8) (Trc.eff rfl rfl rfl (fun _ => trivial) (s_stores ty49 rfl rfl rfl rfl hH9 (Nat.le_of_eq (sts_mono hH9).symm)) (Trc.pure rfl rfl rfl (.inl fun _ => s_idx Try.underlying35 ty49 rfl rfl g10) (Trc.eff rfl rfl rfl (fun _ => trivial) (s_stores ty49 rfl rfl rfl rfl hH11 (Nat.le_of_eq (sts_mono hH11).symm)) (Trc.nil (fun _ => trivial)))))))))))))))))))) rfl (by decide +kernel) mixed ?_
    refine f_inBlock ?_
    refine f_region ?_
    refine f_op rfl rfl (s_mv (v := .int .i64 v6) rfl) ?_
    refine f_op rfl rfl (s_sub rfl rfl) ?_
    refine f_op rfl rfl (s_as (v := .int .i64 (w64 (v6 - 1))) rfl) ?_
    refine f_nil ?_
    refine f_inLoop ?_
    refine f_keep [0, 1, 2, 3, 8, 9] ?_
    exact hkt1 v1 v2 v3 v4 v5 (w64 (v6 - 1)) H11
  · skip
    refine f_know 34 rfl (bool_F h1) ?_
    refine f_condF rfl ?_
    refine f_exit rfl ?_
    refine f_inBlock ?_
    refine f_region ?_
    refine f_op rfl rfl (s_mv (v := .int .i64 v5) rfl) ?_
    refine f_op rfl rfl (s_add rfl rfl) ?_
    refine f_op rfl rfl (s_as (v := .int .i64 (w64 (v5 + 1))) rfl) ?_
    refine f_nil ?_
    refine f_inLoop ?_
    refine f_keep [0, 1, 2, 3, 8] ?_
    exact hkt0 v1 v2 v3 v4 (w64 (v5 + 1)) H

theorem s89_l1 {app : App} (happ : AppSim Try.prog app) (kt0 : Sl → Int → Int → AV → Int → Hp → Option (Unit × Hp)) (hkt0 : ∀ (v1 : Sl) (v2 : Int) (v3 : Int) (v4 : AV) (v5 : Int) (H : Hp), Fin Try.prog Try.f89 ret89 53 (todoAt (bodyOf Try.f89) [1, 0, 0] []) [(0, .sl v1), (1, .int .i64 v2), (2, .int .i64 v3), (3, v4), (8, .int .i64 v5)] H (kt0 v1 v2 v3 v4 v5 H)) : ∀ (k_ : Nat) (v1 : Sl) (v2 : Int) (v3 : Int) (v4 : AV) (v5 : Int) (v6 : Int) (H : Hp), Fin Try.prog Try.f89 ret89 53 (todoAt (bodyOf Try.f89) [1, 0, 0, 1, 0, 0, 1, 0, 0] []) [(0, .sl v1), (1, .int .i64 v2), (2, .int .i64 v3), (3, v4), (8, .int .i64 v5), (9, .int .i64 v6)] H (r89_l1 app kt0 k_ v1 v2 v3 v4 v5 v6 H) := by
  intro k_
  induction k_ with
  | zero => intro _ _ _ _ _ _ _; exact f_none
  | succ k_ ih =>
    intro v1 v2 v3 v4 v5 v6 H
    rw [r89_l1]
    refine f_seq ?_
    refine f_seq ?_
    refine f_if (fun h1 => ?_) (fun h1 => ?_)
    · skip
      refine f_ck fun g2 => ?_
      refine f_bind ?_; intro x3 hx3
      refine f_bind ?_; intro x4 hx4
      refine f_ck fun g5 => ?_
      refine f_bind ?_; intro x6 hx6
      refine f_bind ?_; intro x7 hx7
      refine f_bind ?_; intro p8 hp8
      refine f_bind ?_; intro x9 hx9
      refine f_draw (Φ := fun _ => True) (lim := 1000000) [0, 0, 0, 0, 0, 0, 0, 0, 1, 0, 0, 0, 0, 1, 2, 0, 0] (Trc.pure rfl rfl rfl (.inl fun _ => s_mv (v := .int .i64 v6) rfl) (Trc.pure rfl rfl rfl (.inl fun _ => s_mv (v := .int .i64 v2) rfl) (Trc.pure rfl rfl rfl (.inl fun _ => s_gtr rfl rfl) (Trc.pure rfl rfl rfl (.inl fun _ => s_mv (v := .bool (decide (v2 < v6))) rfl) (Trc.know 21 rfl (dec_true h1) (Trc.pure rfl rfl rfl (.inl fun _ => s_mv (v := v4) rfl) (Trc.pure rfl rfl rfl (.inl fun _ => s_mv (v := .sl v1) rfl) (Trc.pure rfl rfl rfl (.inl fun _ => s_mv (v := .int .i64 v6) rfl) (Trc.pure rfl rfl rfl (.inl fun _ => s_idx Try.underlying35 ty49 rfl rfl g2) (Trc.read rfl rfl rfl (s_loads Try.underlying49 rfl ty49 rfl (lds_cons (ldI_eq hx3) (lds_cons (ldI_eq hx4) (lds_nil)))) (Trc.pure rfl rfl rfl (.inl fun _ => s_mv (v := .sl v1) rfl) (Trc.pure rfl rfl rfl (.inl fun _ => s_mv (v := .int .i64 v6) rfl) (Trc.pure rfl rfl rfl (.inl fun _ => s_sub rfl rfl) (Trc.pure rfl rfl rfl (.inl fun _ => s_idx Try.underlying35 ty49 rfl rfl g5) (Trc.read rfl rfl rfl (s_loads Try.underlying49 rfl ty49 rfl (lds_cons (ldI_eq hx6) (lds_cons (ldI_eq hx7) (lds_nil)))) (Trc.eff rfl rfl rfl (fun _ => trivial) (s_callv happ rfl rfl hp8) (Trc.know 32 rfl (asI_eq hx9) (Trc.pure rfl rfl rfl (.inl fun _ => s_lss rfl rfl) (Trc.pure rfl rfl rfl (.inl fun _ => s_pickT (v := .bool (decide (x9 < 0))) rfl rfl) (Trc.nil (fun _ => trivial))))))))))))))))))))) rfl (by decide +kernel) mixed ?_
      refine f_keep [0, 1, 2, 3, 8, 9, 34] ?_
      exact s89_j2 happ _ hkt0 _ (fun v1_ v2_ v3_ v4_ v5_ v6_ H_ => ih v1_ v2_ v3_ v4_ v5_ v6_ H_) v1 v2 v3 v4 v5 v6 (decide (x9 < 0)) p8.2
    · skip
      refine f_draw (Φ := fun _ => True) (lim := 1000000) [0, 0, 0, 0, 0, 0, 0, 0, 0, 0, 0, 0, 0, 0, 0, 0, 0] (Trc.pure rfl rfl rfl (.inl fun _ => s_mv (v := .int .i64 v6) rfl) (Trc.pure rfl rfl rfl (.inl fun _ => s_mv (v := .int .i64 v2) rfl) (Trc.pure rfl rfl rfl (.inl fun _ => s_gtr rfl rfl) (Trc.pure rfl rfl rfl (.inl fun _ => s_mv (v := .bool (decide (v2 < v6))) rfl) (Trc.know 21 rfl (dec_false h1) (Trc.no rfl rfl rfl (Trc.no rfl rfl rfl (Trc.no rfl rfl rfl (Trc.no rfl rfl rfl (Trc.no rfl rfl rfl (Trc.no rfl rfl rfl (Trc.no rfl rfl rfl (Trc.no rfl rfl rfl (Trc.no rfl rfl rfl (Trc.no rfl rfl rfl (Trc.no rfl rfl rfl (Trc.no rfl rfl rfl (Trc.pure rfl rfl rfl (.inl fun _ => s_pickF (v := .bool false) rfl rfl) (Trc.nil (fun _ => trivial)))))))))))))))))))) rfl (by decide +kernel) mixed ?_
      refine f_keep [0, 1, 2, 3, 8, 9, 34] ?_
      exact s89_j2 happ _ hkt0 _ (fun v1_ v2_ v3_ v4_ v5_ v6_ H_ => ih v1_ v2_ v3_ v4_ v5_ v6_ H_) v1 v2 v3 v4 v5 v6 false H

theorem s89_l0 {app : App} (happ : AppSim Try.prog app) : ∀ (k_ : Nat) (v1 : Sl) (v2 : Int) (v3 : Int) (v4 : AV) (v5 : Int) (H : Hp), Fin Try.prog Try.f89 ret89 53 (todoAt (bodyOf Try.f89) [1, 0, 0] []) [(0, .sl v1), (1, .int .i64 v2), (2, .int .i64 v3), (3, v4), (8, .int .i64 v5)] H (r89_l0 app k_ v1 v2 v3 v4 v5 H) := by
  intro k_
  induction k_ with
  | zero => intro _ _ _ _ _ _; exact f_none
  | succ k_ ih =>
    intro v1 v2 v3 v4 v5 H
    rw [r89_l0]
    refine f_seq ?_
    refine f_seq ?_
    refine f_region ?_
    refine f_op rfl rfl (s_mv (v := .int .i64 v5) rfl) ?_
    refine f_op rfl rfl (s_mv (v := .int .i64 v3) rfl) ?_
    refine f_op rfl rfl (s_lss rfl rfl) ?_
    refine f_nil ?_
    refine f_if (fun h1 => ?_) (fun h1 => ?_)
    · skip
      refine f_know 14 rfl (dec_true h1) ?_
      refine f_condT rfl ?_
      refine f_skip ?_
      refine f_seq ?_
      refine f_block ?_
      refine f_seq ?_
      refine f_region ?_
      refine f_op rfl rfl (s_mv (v := .int .i64 v5) rfl) ?_
      refine f_op rfl rfl (s_as (v := .int .i64 v5) rfl) ?_
      refine f_nil ?_
      refine f_block ?_
      refine f_loop ?_
      refine f_keep [0, 1, 2, 3, 8, 9] ?_
      exact s89_l1 happ _ (fun v1_ v2_ v3_ v4_ v5_ H_ => ih v1_ v2_ v3_ v4_ v5_ H_) FUEL v1 v2 v3 v4 v5 v5 H
    · skip
      refine f_know 14 rfl (dec_false h1) ?_
      refine f_condF rfl ?_
      refine f_exit rfl ?_
      exact f_end (.nil) rfl

theorem sim89 {app : App} (happ : AppSim Try.prog app) {a0 : Sl} {a1 : Int} {a2 : Int} {a3 : AV} {H : Hp} {p : Unit × Hp} (h : r89 app a0 a1 a2 a3 H = some p) : CallSim Try.prog 89 [.sl a0, .int .i64 a1, .int .i64 a2, a3] H (.tup []) p.2 := by
  refine callSim (fn := Try.f89) (ret := ret89) Try.func89 rfl Try.ntmps89 rfl ?_ h
  unfold r89
  refine f_seq ?_
  refine f_region ?_
  refine f_op rfl rfl (s_mv (v := .int .i64 a1) rfl) ?_
  refine f_op rfl rfl (s_add rfl rfl) ?_
  refine f_op rfl rfl (s_as (v := .int .i64 (w64 (a1 + 1))) rfl) ?_
  refine f_nil ?_
  refine f_block ?_
  refine f_loop ?_
  refine f_keep [0, 1, 2, 3, 8] ?_
  exact s89_l0 happ FUEL a0 a1 a2 a3 (w64 (a1 + 1)) H

/- 99 slices.siftDownCmpFunc[[2]int] -/
theorem ok99 : FnOk Try.prog 99 := ⟨⟨Try.f99, Try.func99, by kernel_rfl, rfl⟩⟩
theorem s99_j1 {app : App} (happ : AppSim Try.prog app) (kt0 : Sl → Int → Int → AV → Int → Hp → Option (Unit × Hp)) (hkt0 : ∀ (v1 : Sl) (v2 : Int) (v3 : Int) (v4 : AV) (v5 : Int) (H : Hp), Fin Try.prog Try.f99 ret99 82 (todoAt (bodyOf Try.f99) [1, 0, 0] []) [(0, .sl v1), (2, .int .i64 v2), (3, .int .i64 v3), (4, v4), (10, .int .i64 v5)] H (kt0 v1 v2 v3 v4 v5 H)) (v1 : Sl) (v2 : Int) (v3 : Int) (v4 : AV) (v5 : Int) (v6 : Int) (H : Hp) : Fin Try.prog Try.f99 ret99 82 (todoAt (bodyOf Try.f99) [1, 0, 0, 0, 1, 1, 1] []) [(0, .sl v1), (2, .int .i64 v2), (3, .int .i64 v3), (4, v4), (10, .int .i64 v5), (11, .int .i64 v6)] H (r99_j1 app kt0 v1 v2 v3 v4 v5 v6 H) := by
  unfold r99_j1
  refine f_seq ?_
  refine f_seq ?_
  refine f_ck fun g1 => ?_
  refine f_bind ?_; intro x2 hx2
  refine f_bind ?_; intro x3 hx3
  refine f_ck fun g4 => ?_
  refine f_bind ?_; intro x5 hx5
  refine f_bind ?_; intro x6 hx6
  refine f_bind ?_; intro p7 hp7
  refine f_bind ?_; intro x8 hx8
  refine f_draw (Φ := fun _ => True) (lim := 1000000) [0, 0, 0, 0, 0, 0, 1, 0, 0, 0, 0, 0, 1, 2, 0, 0] (Trc.pure rfl rfl rfl (.inl fun _ => s_mv (v := v4) rfl) (Trc.pure rfl rfl rfl (.inl fun _ => s_mv (v := .sl v1) rfl) (Trc.pure rfl rfl rfl (.inl fun _ => s_mv (v := .int .i64 v3) rfl) (Trc.pure rfl rfl rfl (.inl fun _ => s_mv (v := .int .i64 v5) rfl) (Trc.pure rfl rfl rfl (.inl fun _ => s_add rfl rfl) (Trc.pure rfl rfl rfl (.inl fun _ => s_idx Try.underlying35 ty49 rfl rfl g1) (Trc.read rfl rfl rfl (s_loads Try.underlying49 rfl ty49 rfl (lds_cons (ldI_eq hx2) (lds_cons (ldI_eq hx3) (lds_nil)))) (Trc.pure rfl rfl rfl (.inl fun _ => s_mv (v := .sl v1) rfl) (Trc.pure rfl rfl rfl (.inl fun _ => s_mv (v := .int .i64 v3) rfl) (Trc.pure rfl rfl rfl (.inl fun _ => s_mv (v := .int .i64 v6) rfl) (Trc.pure rfl rfl rfl (.inl fun _ => s_add rfl rfl) (Trc.pure rfl rfl rfl (.inl fun _ => s_idx Try.underlying35 ty49 rfl rfl g4) (Trc.read rfl rfl rfl (s_loads Try.underlying49 rfl ty49 rfl (lds_cons (ldI_eq hx5) (lds_cons (ldI_eq hx6) (lds_nil)))) (Trc.eff rfl rfl rfl (fun _ => trivial) (s_callv happ rfl rfl hp7) (Trc.know 56 rfl (asI_eq hx8) (Trc.pure rfl rfl rfl (.inl fun _ => s_lss rfl rfl) (Trc.pure rfl rfl rfl (.inl fun _ => s_not rfl) (Trc.nil (fun _ => trivial))))))))))))))))))) rfl (by decide +kernel) mixed ?_
  refine f_if (fun h9 => ?_) (fun h9 => ?_)
  · skip
    refine f_know 58 rfl (dec_notT h9) ?_
    refine f_condF rfl ?_
    refine f_skip ?_
    refine f_seq ?_
    refine f_ck fun g10 => ?_
    refine f_bind ?_; intro x11 hx11
    refine f_bind ?_; intro x12 hx12
    refine f_ck fun g13 => ?_
    refine f_bind ?_; intro x14 hx14
    refine f_bind ?_; intro x15 hx15
    refine f_ck fun g16 => ?_
    refine f_bind ?_; intro H17 hH17
    refine f_ck fun g18 => ?_
    refine f_bind ?_; intro H19 hH19
    refine f_draw (Φ := fun _ => True) (lim := 1000000) [0, 0, 0, 0, 0, 0, 0, 0, 0, 0, 0, 0, 0, 1, 0, 0, 0, 0, 0, 1, 0, 2, 0, 2] (Trc.pure rfl rfl rfl (.inl fun _ => s_mv (v := .sl v1) rfl) (Trc.pure rfl rfl rfl (.inl fun _ => s_mv (v := .int .i64 v3) rfl) (Trc.pure rfl rfl rfl (.inl fun _ => s_mv (v := .int .i64 v5) rfl) (Trc.pure rfl rfl rfl (.inl fun _ => s_add rfl rfl) (Trc.pure rfl rfl rfl (.inl fun _ => s_mv (v := .sl v1) rfl) (Trc.pure rfl rfl rfl (.inl fun _ => s_mv (v := .int .i64 v3) rfl) (Trc.pure rfl rfl rfl (.inl fun _ => s_mv (v := .int .i64 v6) rfl) (Trc.pure rfl rfl rfl (.inl fun _ => s_add rfl rfl) (Trc.pure rfl rfl rfl (.inl fun _ => s_mv (v := .sl v1) rfl) (Trc.pure rfl rfl rfl (.inl fun _ => s_mv (v := .int .i64 v3) rfl) (Trc.pure rfl rfl rfl (.inl fun _ => s_mv (v := .int .i64 v6) rfl) (Trc.pure rfl rfl rfl (.inl fun _ => s_add rfl rfl) (Trc.pure rfl rfl rfl (.inl fun _ => s_idx Try.underlying35 ty49 rfl rfl g10) (Trc.read rfl rfl rfl (s_loads Try.underlying49 rfl ty49 rfl (lds_cons (ldI_eq hx11) (lds_cons (ldI_eq hx12) (lds_nil)))) (Trc.pure rfl rfl rfl (.inl fun _ => s_mv (v := .sl v1) rfl) (Trc.pure rfl rfl rfl (.inl fun _ => s_mv (v := .int .i64 v3) rfl) (Trc.pure rfl rfl rfl (.inl fun _ => s_mv (v := .int .i64 v5) rfl) (Trc.pure rfl rfl rfl (.inl fun _ => s_add rfl rfl) (Trc.pure rfl rfl rfl (.inl fun _ => s_idx Try.underlying35 ty49 rfl rfl g13) (Trc.read rfl rfl rfl (s_loads Try.underlying49 rfl ty49 rfl (lds_cons (ldI_eq hx14) (lds_cons (ldI_eq hx15) (lds_nil)))) (Trc.pure rfl rfl rfl (.inl fun _ => s_idx Try.underlying35 ty49 rfl rfl g16) (Trc.eff rfl rfl rfl (fun _ => trivial) (s_stores ty49 rfl rfl rfl rfl hH17 (Nat.le_of_eq (sts_mono hH17).symm)) (Trc.pure rfl rfl rfl (.inl fun _ => s_idx Try.underlying35 ty49 rfl rfl g18) (Trc.eff rfl rfl rfl (fun _ => trivial) (s_stores ty49 rfl rfl rfl rfl hH19 (Nat.le_of_eq (sts_mono hH19).symm)) (Trc.nil (fun _ => trivial)))))))))))))))))))))))))) rfl (by decide +kernel) mixed ?_
    refine f_region ?_
    refine f_op rfl rfl (s_mv (v := .int .i64 v6) rfl) ?_
    refine f_op rfl rfl (s_as (v := .int .i64 v6) rfl) ?_
    refine f_nil ?_
    refine f_inBlock ?_
    refine f_inLoop ?_
    refine f_keep [0, 2, 3, 4, 10] ?_
    exact hkt0 v1 v2 v3 v4 v6 H19
  · skip
    refine f_know 58 rfl (dec_notF h9) ?_
    refine f_condT rfl ?_
    exact f_ret (.nil) rfl

theorem s99_j2 {app : App} (happ : AppSim Try.prog app) (kt0 : Sl → Int → Int → AV → Int → Hp → Option (Unit × Hp)) (hkt0 : ∀ (v1 : Sl) (v2 : Int) (v3 : Int) (v4 : AV) (v5 : Int) (H : Hp), Fin Try.prog Try.f99 ret99 82 (todoAt (bodyOf Try.f99) [1, 0, 0] []) [(0, .sl v1), (2, .int .i64 v2), (3, .int .i64 v3), (4, v4), (10, .int .i64 v5)] H (kt0 v1 v2 v3 v4 v5 H)) (v1 : Sl) (v2 : Int) (v3 : Int) (v4 : AV) (v5 : Int) (v6 : Int) (v7 : Bool) (H : Hp) : Fin Try.prog Try.f99 ret99 82 (todoAt (bodyOf Try.f99) [1, 0, 0, 0, 1, 1, 0, 1] []) [(0, .sl v1), (2, .int .i64 v2), (3, .int .i64 v3), (4, v4), (10, .int .i64 v5), (11, .int .i64 v6), (40, .bool v7)] H (r99_j2 app kt0 v1 v2 v3 v4 v5 v6 v7 H) := by
  unfold r99_j2
  refine f_if (fun h1 => ?_) (fun h1 => ?_)
  · skip
    refine f_know 40 rfl (bool_T h1) ?_
    refine f_condT rfl ?_
    refine f_region ?_
    refine f_op rfl rfl (s_mv (v := .int .i64 v6) rfl) ?_
    refine f_op rfl rfl (s_add rfl rfl) ?_
    refine f_op rfl rfl (s_as (v := .int .i64 (w64 (v6 + 1))) rfl) ?_
    refine f_nil ?_
    refine f_keep [0, 2, 3, 4, 10, 11] ?_
    exact s99_j1 happ _ hkt0 v1 v2 v3 v4 v5 (w64 (v6 + 1)) H
  · skip
    refine f_know 40 rfl (bool_F h1) ?_
    refine f_condF rfl ?_
    refine f_skip ?_
    refine f_keep [0, 2, 3, 4, 10, 11] ?_
    exact s99_j1 happ _ hkt0 v1 v2 v3 v4 v5 v6 H

theorem s99_l0 {app : App} (happ : AppSim Try.prog app) : ∀ (k_ : Nat) (v1 : Sl) (v2 : Int) (v3 : Int) (v4 : AV) (v5 : Int) (H : Hp), Fin Try.prog Try.f99 ret99 82 (todoAt (bodyOf Try.f99) [1, 0, 0] []) [(0, .sl v1), (2, .int .i64 v2), (3, .int .i64 v3), (4, v4), (10, .int .i64 v5)] H (r99_l0 app k_ v1 v2 v3 v4 v5 H) := by
  intro k_
  induction k_ with
  | zero => intro _ _ _ _ _ _; exact f_none
  | succ k_ ih =>
    intro v1 v2 v3 v4 v5 H
    rw [r99_l0]
    refine f_block ?_
    refine f_seq ?_
    refine f_region ?_
    refine f_op rfl rfl (s_mv (v := .int .i64 v5) rfl) ?_
    refine f_op rfl rfl (s_mul rfl rfl) ?_
    refine f_op rfl rfl (s_add rfl rfl) ?_
    refine f_op rfl rfl (s_as (v := .int .i64 (w64 ((w64 (2 * v5)) + 1))) rfl) ?_
    refine f_nil ?_
    refine f_seq ?_
    refine f_seq ?_
    refine f_region ?_
    refine f_op rfl rfl (s_mv (v := .int .i64 (w64 ((w64 (2 * v5)) + 1))) rfl) ?_
    refine f_op rfl rfl (s_mv (v := .int .i64 v2) rfl) ?_
    refine f_op rfl rfl (s_geq rfl rfl) ?_
    refine f_nil ?_
    refine f_if (fun h1 => ?_) (fun h1 => ?_)
    · skip
      refine f_know 18 rfl (dec_true h1) ?_
      refine f_condT rfl ?_
      refine f_exit rfl ?_
      exact f_end (.nil) rfl
    · skip
      refine f_know 18 rfl (dec_false h1) ?_
      refine f_condF rfl ?_
      refine f_skip ?_
      refine f_seq ?_
      refine f_seq ?_
      refine f_if (fun h2 => ?_) (fun h2 => ?_)
      · skip
        refine f_ck fun g3 => ?_
        refine f_bind ?_; intro x4 hx4
        refine f_bind ?_; intro x5 hx5
        refine f_ck fun g6 => ?_
        refine f_bind ?_; intro x7 hx7
        refine f_bind ?_; intro x8 hx8
        refine f_bind ?_; intro p9 hp9
        refine f_bind ?_; intro x10 hx10
        refine f_draw (Φ := fun _ => True) (lim := 1000000) [0, 0, 0, 0, 0, 0, 0, 0, 0, 0, 0, 1, 0, 0, 0, 0, 0, 0, 1, 2, 0, 0] (Trc.pure rfl rfl rfl (.inl fun _ => s_mv (v := .int .i64 (w64 ((w64 (2 * v5)) + 1))) rfl) (Trc.pure rfl rfl rfl (.inl fun _ => s_add rfl rfl) (Trc.pure rfl rfl rfl (.inl fun _ => s_mv (v := .int .i64 v2) rfl) (Trc.pure rfl rfl rfl (.inl fun _ => s_lss rfl rfl) (Trc.pure rfl rfl rfl (.inl fun _ => s_mv (v := .bool (decide ((w64 ((w64 ((w64 (2 * v5)) + 1)) + 1)) < v2))) rfl) (Trc.know 23 rfl (dec_true h2) (Trc.pure rfl rfl rfl (.inl fun _ => s_mv (v := v4) rfl) (Trc.pure rfl rfl rfl (.inl fun _ => s_mv (v := .sl v1) rfl) (Trc.pure rfl rfl rfl (.inl fun _ => s_mv (v := .int .i64 v3) rfl) (Trc.pure rfl rfl rfl (.inl fun _ => s_mv (v := .int .i64 (w64 ((w64 (2 * v5)) + 1))) rfl) (Trc.pure rfl rfl rfl (.inl fun _ => s_add rfl rfl) (Trc.pure rfl rfl rfl (.inl fun _ => s_idx Try.underlying35 ty49 rfl rfl g3) (Trc.read rfl rfl rfl (s_loads Try.underlying49 rfl ty49 rfl (lds_cons (ldI_eq hx4) (lds_cons (ldI_eq hx5) (lds_nil)))) (Trc.pure rfl rfl rfl (.inl fun _ => s_mv (v := .sl v1) rfl) (Trc.pure rfl rfl rfl (.inl fun _ => s_mv (v := .int .i64 v3) rfl) (Trc.pure rfl rfl rfl (.inl fun _ => s_mv (v := .int .i64 (w64 ((w64 (2 * v5)) + 1))) rfl) (Trc.pure rfl rfl rfl (.inl fun _ => s_add rfl rfl) (Trc.pure rfl rfl rfl (.inl fun _ => s_add rfl rfl) (Trc.pure rfl rfl rfl (.inl fun _ => s_idx Try.underlying35 ty49 rfl rfl g6) (Trc.read rfl rfl rfl (s_loads Try.underlying49 rfl ty49 rfl (lds_cons (ldI_eq hx7) (lds_cons (ldI_eq hx8) (lds_nil)))) (Trc.eff rfl rfl rfl (fun _ => trivial) (s_callv happ rfl rfl hp9) (Trc.know 38 rfl (asI_eq hx10) (Trc.pure rfl rfl rfl (.inl fun _ => s_lss rfl rfl) (Trc.pure rfl rfl rfl (.inl fun _ => s_pickT (v := .bool (decide (x10 < 0))) rfl rfl) (Trc.nil (fun _ => trivial)))))))))))))))))))))))))) rfl (by decide +kernel) mixed ?_
        refine f_keep [0, 2, 3, 4, 10, 11, 40] ?_
        exact s99_j2 happ _ (fun v1_ v2_ v3_ v4_ v5_ H_ => ih v1_ v2_ v3_ v4_ v5_ H_) v1 v2 v3 v4 v5 (w64 ((w64 (2 * v5)) + 1)) (decide (x10 < 0)) p9.2
      · skip
        refine f_draw (Φ := fun _ => True) (lim := 1000000) [0, 0, 0, 0, 0, 0, 0, 0, 0, 0, 0, 0, 0, 0, 0, 0, 0, 0, 0, 0, 0, 0] (Trc.pure rfl rfl rfl (.inl fun _ => s_mv (v := .int .i64 (w64 ((w64 (2 * v5)) + 1))) rfl) (Trc.pure rfl rfl rfl (.inl fun _ => s_add rfl rfl) (Trc.pure rfl rfl rfl (.inl fun _ => s_mv (v := .int .i64 v2) rfl) (Trc.pure rfl rfl rfl (.inl fun _ => s_lss rfl rfl) (Trc.pure rfl rfl rfl (.inl fun _ => s_mv (v := .bool (decide ((w64 ((w64 ((w64 (2 * v5)) + 1)) + 1)) < v2))) rfl) (Trc.know 23 rfl (dec_false h2) (Trc.no rfl rfl rfl (Trc.no rfl rfl rfl (Trc.no rfl rfl rfl (Trc.no rfl rfl rfl (Trc.no rfl rfl rfl (Trc.no rfl rfl rfl (Trc.no rfl rfl rfl (Trc.no rfl rfl rfl (Trc.no rfl rfl rfl (Trc.no rfl rfl rfl (Trc.no rfl rfl rfl (Trc.no rfl rfl rfl (Trc.no rfl rfl rfl (Trc.no rfl rfl rfl (Trc.no rfl rfl rfl (Trc.no rfl rfl rfl (Trc.pure rfl rfl rfl (.inl fun _ => s_pickF (v := .bool false) rfl rfl) (Trc.nil (fun _ => trivial))))))))))))))))))))))))) rfl (by decide +kernel) mixed ?_
        refine f_keep [0, 2, 3, 4, 10, 11, 40] ?_
        exact s99_j2 happ _ (fun v1_ v2_ v3_ v4_ v5_ H_ => ih v1_ v2_ v3_ v4_ v5_ H_) v1 v2 v3 v4 v5 (w64 ((w64 (2 * v5)) + 1)) false H

theorem sim99 {app : App} (happ : AppSim Try.prog app) {a0 : Sl} {a1 : Int} {a2 : Int} {a3 : Int} {a4 : AV} {H : Hp} {p : Unit × Hp} (h : r99 app a0 a1 a2 a3 a4 H = some p) : CallSim Try.prog 99 [.sl a0, .int .i64 a1, .int .i64 a2, .int .i64 a3, a4] H (.tup []) p.2 := by
  refine callSim (fn := Try.f99) (ret := ret99) Try.func99 rfl Try.ntmps99 rfl ?_ h
  unfold r99
  refine f_seq ?_
  refine f_region ?_
  refine f_op rfl rfl (s_mv (v := .int .i64 a1) rfl) ?_
  refine f_op rfl rfl (s_as (v := .int .i64 a1) rfl) ?_
  refine f_nil ?_
  refine f_block ?_
  refine f_loop ?_
  refine f_keep [0, 2, 3, 4, 10] ?_
  exact s99_l0 happ FUEL a0 a2 a3 a4 a1 H

/- 90 slices.heapSortCmpFunc[[2]int] -/
theorem ok90 : FnOk Try.prog 90 := ⟨⟨Try.f90, Try.func90, by kernel_rfl, rfl⟩⟩
theorem s90_l1 {app : App} (happ : AppSim Try.prog app) : ∀ (k_ : Nat) (v1 : Sl) (v2 : AV) (v3 : Int) (v4 : Int) (v5 : Int) (H : Hp), Fin Try.prog Try.f90 ret90 60 (todoAt (bodyOf Try.f90) [1, 1, 1, 1, 1, 0, 0] []) [(0, .sl v1), (3, v2), (8, .int .i64 v3), (9, .int .i64 v4), (12, .int .i64 v5)] H (r90_l1 app k_ v1 v2 v3 v4 v5 H) := by
  intro k_
  induction k_ with
  | zero => intro _ _ _ _ _ _; exact f_none
  | succ k_ ih =>
    intro v1 v2 v3 v4 v5 H
    rw [r90_l1]
    refine f_seq ?_
    refine f_seq ?_
    refine f_region ?_
    refine f_op rfl rfl (s_mv (v := .int .i64 v5) rfl) ?_
    refine f_op rfl rfl (s_geq rfl rfl) ?_
    refine f_nil ?_
    refine f_if (fun h1 => ?_) (fun h1 => ?_)
    · skip
      refine f_know 33 rfl (dec_true h1) ?_
      refine f_condT rfl ?_
      refine f_skip ?_
      refine f_seq ?_
      refine f_block ?_
      refine f_seq ?_
      refine f_ck fun g2 => ?_
      refine f_bind ?_; intro x3 hx3
      refine f_bind ?_; intro x4 hx4
      refine f_ck fun g5 => ?_
      refine f_bind ?_; intro x6 hx6
      refine f_bind ?_; intro x7 hx7
      refine f_ck fun g8 => ?_
      refine f_bind ?_; intro H9 hH9
      refine f_ck fun g10 => ?_
      refine f_bind ?_; intro H11 hH11
      refine f_draw (Φ := fun _ => True) (lim := 1000000) [0, 0, 0, 0, 0, 0, 0, 0, 0, 0, 0, 1, 0, 0, 0, 1, 0, 2, 0, 2] (Trc.pure rfl rfl rfl (.inl fun _ => s_mv (v := .sl v1) rfl) (Trc.pure rfl rfl rfl (.inl fun _ => s_mv (v := .int .i64 v3) rfl) (Trc.pure rfl rfl rfl (.inl fun _ => s_mv (v := .sl v1) rfl) (Trc.pure rfl rfl rfl (.inl fun _ => s_mv (v := .int .i64 v3) rfl) (Trc.pure rfl rfl rfl (.inl fun _ => s_mv (v := .int .i64 v5) rfl) (Trc.pure rfl rfl rfl (.inl fun _ => s_add rfl rfl) (Trc.pure rfl rfl rfl (.inl fun _ => s_mv (v := .sl v1) rfl) (Trc.pure rfl rfl rfl (.inl fun _ => s_mv (v := .int .i64 v3) rfl) (Trc.pure rfl rfl rfl (.inl fun _ => s_mv (v := .int .i64 v5) rfl) (Trc.pure rfl rfl rfl (.inl fun _ => s_add rfl rfl) (Trc.pure rfl rfl rfl (.inl fun _ => s_idx Try.underlying35 ty49 rfl rfl g2) (Trc.read rfl rfl rfl (s_loads Try.underlying49 rfl ty49 rfl (lds_cons (ldI_eq hx3) (lds_cons (ldI_eq hx4) (lds_nil)))) (Trc.pure rfl rfl rfl (.inl fun _ => s_mv (v := .sl v1) rfl) (Trc.pure rfl rfl rfl (.inl fun _ => s_mv (v := .int .i64 v3) rfl) (Trc.pure rfl rfl rfl (.inl fun _ => s_idx Try.underlying35 ty49 rfl rfl g5) (Trc.read rfl rfl rfl (s_loads Try.underlying49 rfl ty49 rfl (lds_cons (ldI_eq hx6) (lds_cons (ldI_eq hx7) (lds_nil)))) (Trc.pure rfl rfl rfl (.inl fun _ => s_idx Try.underlying35 ty49 rfl rfl g8) (Trc.eff rfl rfl rfl (fun _ => trivial) (s_stores ty49 rfl rfl rfl rfl hH9 (Nat.le_of_eq (sts_mono hH9).symm)) (Trc.pure rfl rfl rfl (.inl fun _ => s_idx Try.underlying35 ty49 rfl rfl g10) (Trc.eff rfl rfl rfl (fun _ => trivial) (s_stores ty49 rfl rfl rfl rfl hH11 (Nat.le_of_eq (sts_mono hH11).symm)) (Trc.nil (fun _ => trivial)))))))))))))))))))))) rfl (by decide +kernel) mixed ?_
      refine f_region ?_
      refine f_op rfl rfl (s_mv (v := .sl v1) rfl) ?_
      refine f_op rfl rfl (s_mv (v := .int .i64 v4) rfl) ?_
      refine f_op rfl rfl (s_mv (v := .int .i64 v5) rfl) ?_
      refine f_op rfl rfl (s_mv (v := .int .i64 v3) rfl) ?_
      refine f_op rfl rfl (s_mv (v := v2) rfl) ?_
      refine o_bind ?_; intro p12 hp12
      refine f_op rfl rfl (s_callF rfl ok99 (sim99 happ hp12)) ?_
      refine f_nil ?_
      refine f_inBlock ?_
      refine f_region ?_
      refine f_op rfl rfl (s_mv (v := .int .i64 v5) rfl) ?_
      refine f_op rfl rfl (s_sub rfl rfl) ?_
      refine f_op rfl rfl (s_as (v := .int .i64 (w64 (v5 - 1))) rfl) ?_
      refine f_nil ?_
      refine f_inLoop ?_
      refine f_keep [0, 3, 8, 9, 12] ?_
      exact ih v1 v2 v3 v4 (w64 (v5 - 1)) p12.2
    · skip
      refine f_know 33 rfl (dec_false h1) ?_
      refine f_condF rfl ?_
      refine f_exit rfl ?_
      exact f_end (.nil) rfl

theorem s90_l0 {app : App} (happ : AppSim Try.prog app) : ∀ (k_ : Nat) (v1 : Sl) (v2 : AV) (v3 : Int) (v4 : Int) (v5 : Int) (v6 : Int) (H : Hp), Fin Try.prog Try.f90 ret90 60 (todoAt (bodyOf Try.f90) [1, 1, 1, 0, 1, 0, 0] []) [(0, .sl v1), (3, v2), (8, .int .i64 v3), (9, .int .i64 v4), (10, .int .i64 v5), (11, .int .i64 v6)] H (r90_l0 app k_ v1 v2 v3 v4 v5 v6 H) := by
  intro k_
  induction k_ with
  | zero => intro _ _ _ _ _ _ _; exact f_none
  | succ k_ ih =>
    intro v1 v2 v3 v4 v5 v6 H
    rw [r90_l0]
    refine f_seq ?_
    refine f_seq ?_
    refine f_region ?_
    refine f_op rfl rfl (s_mv (v := .int .i64 v6) rfl) ?_
    refine f_op rfl rfl (s_geq rfl rfl) ?_
    refine f_nil ?_
    refine f_if (fun h1 => ?_) (fun h1 => ?_)
    · skip
      refine f_know 21 rfl (dec_true h1) ?_
      refine f_condT rfl ?_
      refine f_skip ?_
      refine f_seq ?_
      refine f_block ?_
      refine f_region ?_
      refine f_op rfl rfl (s_mv (v := .sl v1) rfl) ?_
      refine f_op rfl rfl (s_mv (v := .int .i64 v6) rfl) ?_
      refine f_op rfl rfl (s_mv (v := .int .i64 v5) rfl) ?_
      refine f_op rfl rfl (s_mv (v := .int .i64 v3) rfl) ?_
      refine f_op rfl rfl (s_mv (v := v2) rfl) ?_
      refine o_bind ?_; intro p2 hp2
      refine f_op rfl rfl (s_callF rfl ok99 (sim99 happ hp2)) ?_
      refine f_nil ?_
      refine f_inBlock ?_
      refine f_region ?_
      refine f_op rfl rfl (s_mv (v := .int .i64 v6) rfl) ?_
      refine f_op rfl rfl (s_sub rfl rfl) ?_
      refine f_op rfl rfl (s_as (v := .int .i64 (w64 (v6 - 1))) rfl) ?_
      refine f_nil ?_
      refine f_inLoop ?_
      refine f_keep [0, 3, 8, 9, 10, 11] ?_
      exact ih v1 v2 v3 v4 v5 (w64 (v6 - 1)) p2.2
    · skip
      refine f_know 21 rfl (dec_false h1) ?_
      refine f_condF rfl ?_
      refine f_exit rfl ?_
      refine f_seq ?_
      refine f_region ?_
      refine f_op rfl rfl (s_mv (v := .int .i64 v5) rfl) ?_
      refine f_op rfl rfl (s_sub rfl rfl) ?_
      refine f_op rfl rfl (s_as (v := .int .i64 (w64 (v5 - 1))) rfl) ?_
      refine f_nil ?_
      refine f_block ?_
      refine f_loop ?_
      refine f_keep [0, 3, 8, 9, 12] ?_
      exact s90_l1 happ FUEL v1 v2 v3 v4 (w64 (v5 - 1)) H

theorem sim90 {app : App} (happ : AppSim Try.prog app) {a0 : Sl} {a1 : Int} {a2 : Int} {a3 : AV} {H : Hp} {p : Unit × Hp} (h : r90 app a0 a1 a2 a3 H = some p) : CallSim Try.prog 90 [.sl a0, .int .i64 a1, .int .i64 a2, a3] H (.tup []) p.2 := by
  refine callSim (fn := Try.f90) (ret := ret90) Try.func90 rfl Try.ntmps90 rfl ?_ h
  unfold r90
  refine f_seq ?_
  refine f_region ?_
  refine f_op rfl rfl (s_mv (v := .int .i64 a1) rfl) ?_
  refine f_op rfl rfl (s_as (v := .int .i64 a1) rfl) ?_
  refine f_nil ?_
  refine f_seq ?_
  refine f_region ?_
  refine f_op rfl rfl (s_as (v := .int .i64 0) rfl) ?_
  refine f_nil ?_
  refine f_seq ?_
  refine f_region ?_
  refine f_op rfl rfl (s_mv (v := .int .i64 a2) rfl) ?_
  refine f_op rfl rfl (s_mv (v := .int .i64 a1) rfl) ?_
  refine f_op rfl rfl (s_sub rfl rfl) ?_
  refine f_op rfl rfl (s_as (v := .int .i64 (w64 (a2 - a1))) rfl) ?_
  refine f_nil ?_
  refine f_seq ?_
  refine f_seq ?_
  refine f_region ?_
  refine f_op rfl rfl (s_mv (v := .int .i64 (w64 (a2 - a1))) rfl) ?_
  refine f_op rfl rfl (s_sub rfl rfl) ?_
  refine f_op rfl rfl (s_quo rfl rfl (by decide)) ?_
  refine f_op rfl rfl (s_as (v := .int .i64 (w64 (Int.tdiv (w64 ((w64 (a2 - a1)) - 1)) 2))) rfl) ?_
  refine f_nil ?_
  refine f_block ?_
  refine f_loop ?_
  refine f_keep [0, 3, 8, 9, 10, 11] ?_
  exact s90_l0 happ FUEL a0 a3 a1 0 (w64 (a2 - a1)) (w64 (Int.tdiv (w64 ((w64 (a2 - a1)) - 1)) 2)) H

/- 97 math/bits.Len32 -/
theorem ok97 : FnOk Try.prog 97 := ⟨⟨Try.f97, Try.func97, by kernel_rfl, rfl⟩⟩
theorem s97_j0 (v1 : Int) (v2 : Int) (H : Hp) : Fin Try.prog Try.f97 ret97 19 (todoAt (bodyOf Try.f97) [1, 1, 1] []) [(0, .int .u32 v1), (2, .int .i64 v2)] H (r97_j0 v1 v2 H) := by
  unfold r97_j0
  refine f_seq ?_
  refine f_region ?_
  refine f_op rfl rfl (s_mv (v := .int .i64 v2) rfl) ?_
  refine f_op rfl rfl (s_mv (v := .int .u32 v1) rfl) ?_
  refine f_op rfl rfl (s_convInt Try.underlying122 Try.underlying5 rfl) ?_
  refine o_ck fun g1 => ?_
  refine f_op rfl rfl (s_indexStr Try.underlying9 rfl rfl g1) ?_
  refine f_op rfl rfl (s_convInt Try.underlying5 Try.underlying3 rfl) ?_
  refine f_op rfl rfl (s_add rfl rfl) ?_
  refine f_op rfl rfl (s_as (v := .int .i64 (w64 (v2 + (w64 (bt (strC Try.f97 [1, 1, 1, 0] 3 0) (IntKind.wrap .u8 (v1))))))) rfl) ?_
  refine f_nil ?_
  exact f_ret (.tmp rfl (.nil)) rfl

theorem s97_j1 (v1 : Int) (v2 : Int) (H : Hp) : Fin Try.prog Try.f97 ret97 19 (todoAt (bodyOf Try.f97) [1, 1] []) [(0, .int .u32 v1), (2, .int .i64 v2)] H (r97_j1 v1 v2 H) := by
  unfold r97_j1
  refine f_seq ?_
  refine f_seq ?_
  refine f_region ?_
  refine f_op rfl rfl (s_mv (v := .int .u32 v1) rfl) ?_
  refine f_op rfl rfl (s_geq rfl rfl) ?_
  refine f_nil ?_
  refine f_if (fun h1 => ?_) (fun h1 => ?_)
  · skip
    refine f_know 8 rfl (dec_true h1) ?_
    refine f_condT rfl ?_
    refine f_seq ?_
    refine f_region ?_
    refine f_op rfl rfl (s_mv (v := .int .u32 v1) rfl) ?_
    refine f_op rfl rfl (s_shr rfl rfl (by decide)) ?_
    refine f_op rfl rfl (s_as (v := .int .u32 (shrOf .u32 v1 8)) rfl) ?_
    refine f_nil ?_
    refine f_region ?_
    refine f_op rfl rfl (s_mv (v := .int .i64 v2) rfl) ?_
    refine f_op rfl rfl (s_add rfl rfl) ?_
    refine f_op rfl rfl (s_as (v := .int .i64 (w64 (v2 + 8))) rfl) ?_
    refine f_nil ?_
    refine f_keep [0, 2] ?_
    exact s97_j0 (shrOf .u32 v1 8) (w64 (v2 + 8)) H
  · skip
    refine f_know 8 rfl (dec_false h1) ?_
    refine f_condF rfl ?_
    refine f_skip ?_
    refine f_keep [0, 2] ?_
    exact s97_j0 v1 v2 H

theorem sim97 {a0 : Int} {H : Hp} {p : Int × Hp} (h : r97 a0 H = some p) : CallSim Try.prog 97 [.int .u32 a0] H (.int .i64 p.1) p.2 := by
  refine callSim (fn := Try.f97) (ret := ret97) Try.func97 rfl Try.ntmps97 rfl ?_ h
  unfold r97
  refine f_seq ?_
  refine f_region ?_
  refine f_op rfl rfl (s_as (v := .int .i64 0) rfl) ?_
  refine f_nil ?_
  refine f_seq ?_
  refine f_seq ?_
  refine f_region ?_
  refine f_op rfl rfl (s_mv (v := .int .u32 a0) rfl) ?_
  refine f_op rfl rfl (s_geq rfl rfl) ?_
  refine f_nil ?_
  refine f_if (fun h1 => ?_) (fun h1 => ?_)
  · skip
    refine f_know 4 rfl (dec_true h1) ?_
    refine f_condT rfl ?_
    refine f_seq ?_
    refine f_region ?_
    refine f_op rfl rfl (s_mv (v := .int .u32 a0) rfl) ?_
    refine f_op rfl rfl (s_shr rfl rfl (by decide)) ?_
    refine f_op rfl rfl (s_as (v := .int .u32 (shrOf .u32 a0 16)) rfl) ?_
    refine f_nil ?_
    refine f_region ?_
    refine f_op rfl rfl (s_as (v := .int .i64 16) rfl) ?_
    refine f_nil ?_
    refine f_keep [0, 2] ?_
    exact s97_j1 (shrOf .u32 a0 16) 16 H
  · skip
    refine f_know 4 rfl (dec_false h1) ?_
    refine f_condF rfl ?_
    refine f_skip ?_
    refine f_keep [0, 2] ?_
    exact s97_j1 a0 0 H

end Go.Lt.P5
