/- PRINTED BY A PROGRAM OF OURS: what each function that 'CutsInside' reaches computes on the abstract heap, and that the translated code does just that. Nothing is asked of the input. -/
import Derived.Test.YteefkljbmjjncaaG7R1
set_option linter.unusedVariables false
set_option linter.unusedSimpArgs false
set_option maxRecDepth 100000
set_option maxHeartbeats 4000000
namespace Go.Lt.P2
open Go Go.Lt Go.Proofs
/- 113 slices.IndexFunc[[]int,int] -/
theorem ok113 : FnOk Try.prog 113 := ⟨⟨Try.f113, Try.func113, by kernel_rfl, rfl⟩⟩
theorem s113_l0 {app : App} (happ : AppSim Try.prog app) : ∀ (k_ : Nat) (v1 : Sl) (v2 : AV) (v3 : Int) (v4 : Int) (H : Hp), Fin Try.prog Try.f113 ret113 19 (todoAt (bodyOf Try.f113) [1, 0, 1, 0, 0] []) [(0, .sl v1), (1, v2), (7, .int .i64 v3), (8, .int .i64 v4)] H (r113_l0 app k_ v1 v2 v3 v4 H) := by
  intro k_
  induction k_ with
  | zero => intro _ _ _ _ _; exact f_none
  | succ k_ ih =>
    intro v1 v2 v3 v4 H
    rw [r113_l0]
    refine f_seq ?_
    refine f_region ?_
    refine f_op rfl rfl (s_lss rfl rfl) ?_
    refine f_nil ?_
    refine f_seq ?_
    refine f_if (fun h1 => ?_) (fun h1 => ?_)
    · skip
      refine f_know 9 rfl (dec_true h1) ?_
      refine f_condT rfl ?_
      refine f_skip ?_
      refine f_seq ?_
      refine f_block ?_
      refine f_seq ?_
      refine f_region ?_
      refine f_op rfl rfl (s_mv (v := .int .i64 v4) rfl) ?_
      refine f_op rfl rfl (s_as (v := .int .i64 v4) rfl) ?_
      refine f_nil ?_
      refine f_seq ?_
      refine f_region ?_
      refine f_op rfl rfl (s_mv (v := v2) rfl) ?_
      refine f_op rfl rfl (s_mv (v := .sl v1) rfl) ?_
      refine f_op rfl rfl (s_mv (v := .int .i64 v4) rfl) ?_
      refine o_ck fun g2 => ?_
      refine f_op rfl rfl (s_idx Try.underlying76 ty3 rfl rfl g2) ?_
      refine o_bind ?_; intro x3 hx3
      refine f_op rfl rfl (s_load Try.underlying3 rfl rfl (ldI_eq hx3)) ?_
      refine o_bind ?_; intro p4 hp4
      refine o_bind ?_; intro x5 hx5
      refine f_op rfl rfl (s_callv happ rfl rfl hp4) ?_
      refine o_know 16 rfl (asB_eq hx5) ?_
      refine f_nil ?_
      refine f_if (fun h6 => ?_) (fun h6 => ?_)
      · skip
        refine f_know 16 rfl (bool_T h6) ?_
        refine f_condT rfl ?_
        refine f_seq ?_
        refine f_region ?_
        refine f_op rfl rfl (s_mv (v := .int .i64 v4) rfl) ?_
        refine f_op rfl rfl (s_as (v := .int .i64 v4) rfl) ?_
        refine f_nil ?_
        exact f_ret (.tmp rfl (.nil)) rfl
      · skip
        refine f_know 16 rfl (bool_F h6) ?_
        refine f_condF rfl ?_
        refine f_skip ?_
        refine f_inBlock ?_
        refine f_region ?_
        refine f_op rfl rfl (s_add rfl rfl) ?_
        refine f_op rfl rfl (s_mv (v := .int .i64 (w64 (v4 + 1))) rfl) ?_
        refine f_nil ?_
        refine f_inLoop ?_
        refine f_keep [0, 1, 7, 8] ?_
        exact ih v1 v2 v3 (w64 (v4 + 1)) p4.2
    · skip
      refine f_know 9 rfl (dec_false h1) ?_
      refine f_condF rfl ?_
      refine f_exit rfl ?_
      refine f_seq ?_
      refine f_region ?_
      refine f_op rfl rfl (s_as (v := .int .i64 (-1)) rfl) ?_
      refine f_nil ?_
      exact f_ret (.tmp rfl (.nil)) rfl

theorem sim113 {app : App} (happ : AppSim Try.prog app) {a0 : Sl} {a1 : AV} {H : Hp} {p : Int × Hp} (h : r113 app a0 a1 H = some p) : CallSim Try.prog 113 [.sl a0, a1] H (.int .i64 p.1) p.2 := by
  refine callSim (fn := Try.f113) (ret := ret113) Try.func113 rfl Try.ntmps113 rfl ?_ h
  unfold r113
  refine f_seq ?_
  refine f_region ?_
  refine f_op rfl rfl (s_as (v := .int .i64 0) rfl) ?_
  refine f_nil ?_
  refine f_seq ?_
  refine f_seq ?_
  refine f_region ?_
  refine f_op rfl rfl (s_mv (v := .sl a0) rfl) ?_
  refine f_op rfl rfl (s_lenS rfl Try.underlying76 rfl) ?_
  refine f_op rfl rfl (s_mv (v := .int .i64 0) rfl) ?_
  refine f_nil ?_
  refine f_block ?_
  refine f_loop ?_
  refine f_keep [0, 1, 7, 8] ?_
  exact s113_l0 happ FUEL a0 a1 (a0.len : Int) 0 H

/- 105 slices.ContainsFunc[[]int,int] -/
theorem ok105 : FnOk Try.prog 105 := ⟨⟨Try.f105, Try.func105, by kernel_rfl, rfl⟩⟩
theorem sim105 {app : App} (happ : AppSim Try.prog app) {a0 : Sl} {a1 : AV} {H : Hp} {p : Bool × Hp} (h : r105 app a0 a1 H = some p) : CallSim Try.prog 105 [.sl a0, a1] H (.bool p.1) p.2 := by
  refine callSim (fn := Try.f105) (ret := ret105) Try.func105 rfl Try.ntmps105 rfl ?_ h
  unfold r105
  refine f_seq ?_
  refine f_region ?_
  refine f_op rfl rfl (s_as (v := .bool false) rfl) ?_
  refine f_nil ?_
  refine f_seq ?_
  refine f_region ?_
  refine f_op rfl rfl (s_mv (v := .sl a0) rfl) ?_
  refine f_op rfl rfl (s_mv (v := a1) rfl) ?_
  refine o_bind ?_; intro p1 hp1
  refine f_op rfl rfl (s_callF rfl ok113 (sim113 happ hp1)) ?_
  refine f_op rfl rfl (s_geq rfl rfl) ?_
  refine f_op rfl rfl (s_as (v := .bool (decide (0 ≤ p1.1))) rfl) ?_
  refine f_nil ?_
  exact f_ret (.tmp rfl (.nil)) rfl

/- 79 congou/cuts.within -/
theorem ok79 : FnOk Try.prog 79 := ⟨⟨Try.f79, Try.func79, by kernel_rfl, rfl⟩⟩
theorem sim79 {app : App} (happ : AppSim Try.prog app) {a0 : Int} {a1 : Sl} {H : Hp} {p : Bool × Hp} (h : r79 app a0 a1 H = some p) : CallSim Try.prog 79 [.int .i64 a0, .sl a1] H (.bool p.1) p.2 := by
  refine callSim (fn := Try.f79) (ret := ret79) Try.func79 rfl Try.ntmps79 rfl ?_ h
  unfold r79
  refine f_seq ?_
  refine f_region ?_
  refine f_op rfl rfl (s_box1 (v := .int .i64 a0) rfl rfl) ?_
  refine f_op rfl rfl (s_as (v := .bool false) rfl) ?_
  refine o_hp ?_; intro H1 hH1
  refine f_nil ?_
  refine f_seq ?_
  refine f_region ?_
  refine f_op rfl rfl (s_mv (v := .sl a1) rfl) ?_
  refine f_op rfl rfl (s_makeFunc rfl rfl) ?_
  refine o_bind ?_; intro p2 hp2
  refine f_op rfl rfl (s_callF rfl ok105 (sim105 happ hp2)) ?_
  refine f_op rfl rfl (s_not rfl) ?_
  refine f_op rfl rfl (s_as (v := .bool (!p2.1)) rfl) ?_
  refine f_nil ?_
  exact f_ret (.tmp rfl (.nil)) rfl

/- 111 slices.IndexFunc[congou/cuts.plate,congou/cuts.Side] -/
theorem ok111 : FnOk Try.prog 111 := ⟨⟨Try.f111, Try.func111, by kernel_rfl, rfl⟩⟩
theorem s111_l0 {app : App} (happ : AppSim Try.prog app) : ∀ (k_ : Nat) (v1 : Sl) (v2 : AV) (v3 : Int) (v4 : Int) (H : Hp), Fin Try.prog Try.f111 ret111 19 (todoAt (bodyOf Try.f111) [1, 0, 1, 0, 0] []) [(0, .sl v1), (1, v2), (7, .int .i64 v3), (8, .int .i64 v4)] H (r111_l0 app k_ v1 v2 v3 v4 H) := by
  intro k_
  induction k_ with
  | zero => intro _ _ _ _ _; exact f_none
  | succ k_ ih =>
    intro v1 v2 v3 v4 H
    rw [r111_l0]
    refine f_seq ?_
    refine f_region ?_
    refine f_op rfl rfl (s_lss rfl rfl) ?_
    refine f_nil ?_
    refine f_seq ?_
    refine f_if (fun h1 => ?_) (fun h1 => ?_)
    · skip
      refine f_know 9 rfl (dec_true h1) ?_
      refine f_condT rfl ?_
      refine f_skip ?_
      refine f_seq ?_
      refine f_block ?_
      refine f_seq ?_
      refine f_region ?_
      refine f_op rfl rfl (s_mv (v := .int .i64 v4) rfl) ?_
      refine f_op rfl rfl (s_as (v := .int .i64 v4) rfl) ?_
      refine f_nil ?_
      refine f_seq ?_
      refine f_region ?_
      refine f_op rfl rfl (s_mv (v := v2) rfl) ?_
      refine f_op rfl rfl (s_mv (v := .sl v1) rfl) ?_
      refine f_op rfl rfl (s_mv (v := .int .i64 v4) rfl) ?_
      refine o_ck fun g2 => ?_
      refine f_op rfl rfl (s_idx Try.underlying100 ty47 rfl rfl g2) ?_
      refine o_bind ?_; intro x3 hx3
      refine o_bind ?_; intro x4 hx4
      refine o_bind ?_; intro x5 hx5
      refine f_op rfl rfl (s_loads Try.underlying47 rfl ty47 rfl (lds_cons (ldI_eq hx3) (lds_cons (ldI_eq hx4) (lds_cons (ldI_eq hx5) (lds_nil))))) ?_
      refine o_bind ?_; intro p6 hp6
      refine o_bind ?_; intro x7 hx7
      refine f_op rfl rfl (s_callv happ rfl rfl hp6) ?_
      refine o_know 16 rfl (asB_eq hx7) ?_
      refine f_nil ?_
      refine f_if (fun h8 => ?_) (fun h8 => ?_)
      · skip
        refine f_know 16 rfl (bool_T h8) ?_
        refine f_condT rfl ?_
        refine f_seq ?_
        refine f_region ?_
        refine f_op rfl rfl (s_mv (v := .int .i64 v4) rfl) ?_
        refine f_op rfl rfl (s_as (v := .int .i64 v4) rfl) ?_
        refine f_nil ?_
        exact f_ret (.tmp rfl (.nil)) rfl
      · skip
        refine f_know 16 rfl (bool_F h8) ?_
        refine f_condF rfl ?_
        refine f_skip ?_
        refine f_inBlock ?_
        refine f_region ?_
        refine f_op rfl rfl (s_add rfl rfl) ?_
        refine f_op rfl rfl (s_mv (v := .int .i64 (w64 (v4 + 1))) rfl) ?_
        refine f_nil ?_
        refine f_inLoop ?_
        refine f_keep [0, 1, 7, 8] ?_
        exact ih v1 v2 v3 (w64 (v4 + 1)) p6.2
    · skip
      refine f_know 9 rfl (dec_false h1) ?_
      refine f_condF rfl ?_
      refine f_exit rfl ?_
      refine f_seq ?_
      refine f_region ?_
      refine f_op rfl rfl (s_as (v := .int .i64 (-1)) rfl) ?_
      refine f_nil ?_
      exact f_ret (.tmp rfl (.nil)) rfl

theorem sim111 {app : App} (happ : AppSim Try.prog app) {a0 : Sl} {a1 : AV} {H : Hp} {p : Int × Hp} (h : r111 app a0 a1 H = some p) : CallSim Try.prog 111 [.sl a0, a1] H (.int .i64 p.1) p.2 := by
  refine callSim (fn := Try.f111) (ret := ret111) Try.func111 rfl Try.ntmps111 rfl ?_ h
  unfold r111
  refine f_seq ?_
  refine f_region ?_
  refine f_op rfl rfl (s_as (v := .int .i64 0) rfl) ?_
  refine f_nil ?_
  refine f_seq ?_
  refine f_seq ?_
  refine f_region ?_
  refine f_op rfl rfl (s_mv (v := .sl a0) rfl) ?_
  refine f_op rfl rfl (s_lenS rfl Try.underlying100 rfl) ?_
  refine f_op rfl rfl (s_mv (v := .int .i64 0) rfl) ?_
  refine f_nil ?_
  refine f_block ?_
  refine f_loop ?_
  refine f_keep [0, 1, 7, 8] ?_
  exact s111_l0 happ FUEL a0 a1 (a0.len : Int) 0 H

/- 92 slices.ContainsFunc[congou/cuts.plate,congou/cuts.Side] -/
theorem ok92 : FnOk Try.prog 92 := ⟨⟨Try.f92, Try.func92, by kernel_rfl, rfl⟩⟩
theorem sim92 {app : App} (happ : AppSim Try.prog app) {a0 : Sl} {a1 : AV} {H : Hp} {p : Bool × Hp} (h : r92 app a0 a1 H = some p) : CallSim Try.prog 92 [.sl a0, a1] H (.bool p.1) p.2 := by
  refine callSim (fn := Try.f92) (ret := ret92) Try.func92 rfl Try.ntmps92 rfl ?_ h
  unfold r92
  refine f_seq ?_
  refine f_region ?_
  refine f_op rfl rfl (s_as (v := .bool false) rfl) ?_
  refine f_nil ?_
  refine f_seq ?_
  refine f_region ?_
  refine f_op rfl rfl (s_mv (v := .sl a0) rfl) ?_
  refine f_op rfl rfl (s_mv (v := a1) rfl) ?_
  refine o_bind ?_; intro p1 hp1
  refine f_op rfl rfl (s_callF rfl ok111 (sim111 happ hp1)) ?_
  refine f_op rfl rfl (s_geq rfl rfl) ?_
  refine f_op rfl rfl (s_as (v := .bool (decide (0 ≤ p1.1))) rfl) ?_
  refine f_nil ?_
  exact f_ret (.tmp rfl (.nil)) rfl

/- 63 (congou/cuts.plate).valid -/
theorem ok63 : FnOk Try.prog 63 := ⟨⟨Try.f63, Try.func63, by kernel_rfl, rfl⟩⟩
theorem s63_j2 {app : App} (happ : AppSim Try.prog app) (kt1 : Sl → Sl → Int → Int → Hp → Option (Bool × Hp)) (hkt1 : ∀ (v1 : Sl) (v2 : Sl) (v3 : Int) (v4 : Int) (H : Hp), Fin Try.prog Try.f63 ret63 78 (todoAt (bodyOf Try.f63) [1, 1, 0, 1, 0, 0] []) [(0, .sl v1), (17, .sl v2), (18, .int .i64 v3), (19, .int .i64 v4)] H (kt1 v1 v2 v3 v4 H)) (v1 : Sl) (v2 : Sl) (v3 : Int) (v4 : Int) (v5 : Bool) (H : Hp) : Fin Try.prog Try.f63 ret63 78 (todoAt (bodyOf Try.f63) [1, 1, 0, 1, 0, 0, 1, 1, 0, 0, 1, 1] []) [(0, .sl v1), (17, .sl v2), (18, .int .i64 v3), (19, .int .i64 v4), (46, .bool v5)] H (r63_j2 app kt1 v1 v2 v3 v4 v5 H) := by
  unfold r63_j2
  refine f_if (fun h1 => ?_) (fun h1 => ?_)
  · skip
    refine f_know 46 rfl (bool_T h1) ?_
    refine f_condT rfl ?_
    refine f_seq ?_
    refine f_region ?_
    refine f_op rfl rfl (s_as (v := .bool false) rfl) ?_
    refine f_nil ?_
    exact f_ret (.tmp rfl (.nil)) rfl
  · skip
    refine f_know 46 rfl (bool_F h1) ?_
    refine f_condF rfl ?_
    refine f_skip ?_
    refine f_inBlock ?_
    refine f_region ?_
    refine f_op rfl rfl (s_add rfl rfl) ?_
    refine f_op rfl rfl (s_mv (v := .int .i64 (w64 (v4 + 1))) rfl) ?_
    refine f_nil ?_
    refine f_inLoop ?_
    refine f_keep [0, 17, 18, 19] ?_
    exact hkt1 v1 v2 v3 (w64 (v4 + 1)) H

theorem s63_l4 {app : App} (happ : AppSim Try.prog app) (kt3 : Sl → Sl → Int → Int → Hp → Option (Bool × Hp)) (hkt3 : ∀ (v1 : Sl) (v2 : Sl) (v3 : Int) (v4 : Int) (H : Hp), Fin Try.prog Try.f63 ret63 78 (todoAt (bodyOf Try.f63) [1, 1, 1, 0, 1, 0, 0] []) [(0, .sl v1), (48, .sl v2), (49, .int .i64 v3), (50, .int .i64 v4)] H (kt3 v1 v2 v3 v4 H)) : ∀ (k_ : Nat) (v1 : Sl) (v2 : Sl) (v3 : Int) (v4 : Int) (v5 : Sl) (v6 : Int) (v7 : Int) (H : Hp), Fin Try.prog Try.f63 ret63 78 (todoAt (bodyOf Try.f63) [1, 1, 1, 0, 1, 0, 0, 1, 1, 0, 0, 1, 1, 0, 0] []) [(0, .sl v1), (48, .sl v2), (49, .int .i64 v3), (50, .int .i64 v4), (66, .sl v5), (67, .int .i64 v6), (68, .int .i64 v7)] H (r63_l4 app kt3 k_ v1 v2 v3 v4 v5 v6 v7 H) := by
  intro k_
  induction k_ with
  | zero => intro _ _ _ _ _ _ _ _; exact f_none
  | succ k_ ih =>
    intro v1 v2 v3 v4 v5 v6 v7 H
    rw [r63_l4]
    refine f_seq ?_
    refine f_region ?_
    refine f_op rfl rfl (s_lss rfl rfl) ?_
    refine f_nil ?_
    refine f_seq ?_
    refine f_if (fun h1 => ?_) (fun h1 => ?_)
    · skip
      refine f_know 69 rfl (dec_true h1) ?_
      refine f_condT rfl ?_
      refine f_skip ?_
      refine f_seq ?_
      refine f_block ?_
      refine f_seq ?_
      refine f_region ?_
      refine o_ck fun g2 => ?_
      refine f_op rfl rfl (s_idx Try.underlying37 ty43 rfl rfl g2) ?_
      refine o_bind ?_; intro x3 hx3
      refine o_bind ?_; intro x4 hx4
      refine f_op rfl rfl (s_loads Try.underlying43 rfl ty43 rfl (lds_cons (ldI_eq hx3) (lds_cons (ldI_eq hx4) (lds_nil)))) ?_
      refine f_op rfl rfl (s_alloc (zs := [.int .i64 0, .int .i64 0]) ty43 rfl rfl) ?_
      refine o_bind ?_; intro H5 hH5
      refine f_op rfl rfl (s_stores ty43 rfl rfl rfl rfl hH5 (Nat.le_of_eq (sts_mono hH5).symm)) ?_
      refine f_nil ?_
      refine f_seq ?_
      refine f_region ?_
      refine f_op rfl rfl (s_mv (v := .sl v1) rfl) ?_
      refine f_op rfl rfl (s_makeFunc rfl rfl) ?_
      refine o_bind ?_; intro p6 hp6
      refine f_op rfl rfl (s_callF rfl ok92 (sim92 happ hp6)) ?_
      refine f_op rfl rfl (s_not rfl) ?_
      refine f_nil ?_
      refine f_if (fun h7 => ?_) (fun h7 => ?_)
      · skip
        refine f_know 75 rfl (bool_notT h7) ?_
        refine f_condF rfl ?_
        refine f_skip ?_
        refine f_inBlock ?_
        refine f_region ?_
        refine f_op rfl rfl (s_add rfl rfl) ?_
        refine f_op rfl rfl (s_mv (v := .int .i64 (w64 (v7 + 1))) rfl) ?_
        refine f_nil ?_
        refine f_inLoop ?_
        refine f_keep [0, 48, 49, 50, 66, 67, 68] ?_
        exact ih v1 v2 v3 v4 v5 v6 (w64 (v7 + 1)) p6.2
      · skip
        refine f_know 75 rfl (bool_notF h7) ?_
        refine f_condT rfl ?_
        refine f_seq ?_
        refine f_region ?_
        refine f_op rfl rfl (s_as (v := .bool false) rfl) ?_
        refine f_nil ?_
        exact f_ret (.tmp rfl (.nil)) rfl
    · skip
      refine f_know 69 rfl (dec_false h1) ?_
      refine f_condF rfl ?_
      refine f_exit rfl ?_
      refine f_inBlock ?_
      refine f_region ?_
      refine f_op rfl rfl (s_add rfl rfl) ?_
      refine f_op rfl rfl (s_mv (v := .int .i64 (w64 (v4 + 1))) rfl) ?_
      refine f_nil ?_
      refine f_inLoop ?_
      refine f_keep [0, 48, 49, 50] ?_
      exact hkt3 v1 v2 v3 (w64 (v4 + 1)) H

theorem s63_l3 {app : App} (happ : AppSim Try.prog app) : ∀ (k_ : Nat) (v1 : Sl) (v2 : Sl) (v3 : Int) (v4 : Int) (H : Hp), Fin Try.prog Try.f63 ret63 78 (todoAt (bodyOf Try.f63) [1, 1, 1, 0, 1, 0, 0] []) [(0, .sl v1), (48, .sl v2), (49, .int .i64 v3), (50, .int .i64 v4)] H (r63_l3 app k_ v1 v2 v3 v4 H) := by
  intro k_
  induction k_ with
  | zero => intro _ _ _ _ _; exact f_none
  | succ k_ ih =>
    intro v1 v2 v3 v4 H
    rw [r63_l3]
    refine f_seq ?_
    refine f_region ?_
    refine f_op rfl rfl (s_lss rfl rfl) ?_
    refine f_nil ?_
    refine f_seq ?_
    refine f_if (fun h1 => ?_) (fun h1 => ?_)
    · skip
      refine f_know 51 rfl (dec_true h1) ?_
      refine f_condT rfl ?_
      refine f_skip ?_
      refine f_seq ?_
      refine f_block ?_
      refine f_seq ?_
      refine f_region ?_
      refine o_ck fun g2 => ?_
      refine f_op rfl rfl (s_idx Try.underlying100 ty47 rfl rfl g2) ?_
      refine o_bind ?_; intro x3 hx3
      refine o_bind ?_; intro x4 hx4
      refine o_bind ?_; intro x5 hx5
      refine f_op rfl rfl (s_loads Try.underlying47 rfl ty47 rfl (lds_cons (ldI_eq hx3) (lds_cons (ldI_eq hx4) (lds_cons (ldI_eq hx5) (lds_nil))))) ?_
      refine f_op rfl rfl (s_alloc (zs := [.int .i64 0, .int .i64 0, .int .i64 0]) ty47 rfl rfl) ?_
      refine o_bind ?_; intro H6 hH6
      refine f_op rfl rfl (s_stores ty47 rfl rfl rfl rfl hH6 (Nat.le_of_eq (sts_mono hH6).symm)) ?_
      refine f_nil ?_
      refine f_seq ?_
      refine f_region ?_
      refine f_op rfl rfl (s_fieldAddr Try.underlying47 rfl ty3 rfl) ?_
      refine o_bind ?_; intro x7 hx7
      refine f_op rfl rfl (s_load Try.underlying3 rfl rfl (ldI_eq hx7)) ?_
      refine f_op rfl rfl (s_neg rfl) ?_
      refine f_op rfl rfl (s_fieldAddr Try.underlying47 rfl ty3 rfl) ?_
      refine o_bind ?_; intro x8 hx8
      refine f_op rfl rfl (s_load Try.underlying3 rfl rfl (ldI_eq hx8)) ?_
      refine f_op rfl rfl (s_buildA (cs := [.int .i64 (w64 (0 - x7)), .int .i64 x8]) Try.underlying43 ty43 ty3 rfl rfl) ?_
      refine f_op rfl rfl (s_fieldAddr Try.underlying47 rfl ty3 rfl) ?_
      refine o_bind ?_; intro x9 hx9
      refine f_op rfl rfl (s_load Try.underlying3 rfl rfl (ldI_eq hx9)) ?_
      refine f_op rfl rfl (s_fieldAddr Try.underlying47 rfl ty3 rfl) ?_
      refine o_bind ?_; intro x10 hx10
      refine f_op rfl rfl (s_load Try.underlying3 rfl rfl (ldI_eq hx10)) ?_
      refine f_op rfl rfl (s_neg rfl) ?_
      refine f_op rfl rfl (s_buildA (cs := [.int .i64 x9, .int .i64 (w64 (0 - x10))]) Try.underlying43 ty43 ty3 rfl rfl) ?_
      refine f_op rfl rfl (s_buildSlice (cs := [.int .i64 (w64 (0 - x7)), .int .i64 x8, .int .i64 x9, .int .i64 (w64 (0 - x10))]) Try.underlying37 ty43 (by decide) (by decide) rfl (by decide) rfl) ?_
      refine f_op rfl rfl (s_lenS rfl Try.underlying37 rfl) ?_
      refine f_op rfl rfl (s_mv (v := .int .i64 0) rfl) ?_
      refine o_hp ?_; intro H11 hH11
      refine f_nil ?_
      refine f_block ?_
      refine f_loop ?_
      refine f_keep [0, 48, 49, 50, 66, 67, 68] ?_
      exact s63_l4 happ _ (fun v1_ v2_ v3_ v4_ H_ => ih v1_ v2_ v3_ v4_ H_) FUEL v1 v2 v3 v4 ⟨false, H6.n, 0, 2, 2, 0⟩ ((⟨false, H6.n, 0, 2, 2, 0⟩ : Sl).len : Int) 0 H11
    · skip
      refine f_know 51 rfl (dec_false h1) ?_
      refine f_condF rfl ?_
      refine f_exit rfl ?_
      refine f_seq ?_
      refine f_region ?_
      refine f_op rfl rfl (s_as (v := .bool true) rfl) ?_
      refine f_nil ?_
      exact f_ret (.tmp rfl (.nil)) rfl

theorem s63_l1 {app : App} (happ : AppSim Try.prog app) : ∀ (k_ : Nat) (v1 : Sl) (v2 : Sl) (v3 : Int) (v4 : Int) (H : Hp), Fin Try.prog Try.f63 ret63 78 (todoAt (bodyOf Try.f63) [1, 1, 0, 1, 0, 0] []) [(0, .sl v1), (17, .sl v2), (18, .int .i64 v3), (19, .int .i64 v4)] H (r63_l1 app k_ v1 v2 v3 v4 H) := by
  intro k_
  induction k_ with
  | zero => intro _ _ _ _ _; exact f_none
  | succ k_ ih =>
    intro v1 v2 v3 v4 H
    rw [r63_l1]
    refine f_seq ?_
    refine f_region ?_
    refine f_op rfl rfl (s_lss rfl rfl) ?_
    refine f_nil ?_
    refine f_seq ?_
    refine f_if (fun h1 => ?_) (fun h1 => ?_)
    · skip
      refine f_know 20 rfl (dec_true h1) ?_
      refine f_condT rfl ?_
      refine f_skip ?_
      refine f_seq ?_
      refine f_block ?_
      refine f_seq ?_
      refine f_region ?_
      refine o_ck fun g2 => ?_
      refine f_op rfl rfl (s_idx Try.underlying100 ty47 rfl rfl g2) ?_
      refine o_bind ?_; intro x3 hx3
      refine o_bind ?_; intro x4 hx4
      refine o_bind ?_; intro x5 hx5
      refine f_op rfl rfl (s_loads Try.underlying47 rfl ty47 rfl (lds_cons (ldI_eq hx3) (lds_cons (ldI_eq hx4) (lds_cons (ldI_eq hx5) (lds_nil))))) ?_
      refine f_op rfl rfl (s_alloc (zs := [.int .i64 0, .int .i64 0, .int .i64 0]) ty47 rfl rfl) ?_
      refine o_bind ?_; intro H6 hH6
      refine f_op rfl rfl (s_stores ty47 rfl rfl rfl rfl hH6 (Nat.le_of_eq (sts_mono hH6).symm)) ?_
      refine f_nil ?_
      refine f_seq ?_
      refine f_region ?_
      refine f_op rfl rfl (s_fieldAddr Try.underlying47 rfl ty3 rfl) ?_
      refine o_bind ?_; intro x7 hx7
      refine f_op rfl rfl (s_load Try.underlying3 rfl rfl (ldI_eq hx7)) ?_
      refine f_op rfl rfl (s_eql rfl rfl) ?_
      refine f_op rfl rfl (s_mv (v := .bool (decide (x7 = 0))) rfl) ?_
      refine o_if (fun h8 => ?_) (fun h8 => ?_)
      · skip
        refine o_know 26 rfl (dec_true h8) ?_
        refine f_op rfl rfl (s_fieldAddr Try.underlying47 rfl ty3 rfl) ?_
        refine o_bind ?_; intro x9 hx9
        refine f_op rfl rfl (s_load Try.underlying3 rfl rfl (ldI_eq hx9)) ?_
        refine f_op rfl rfl (s_eql rfl rfl) ?_
        refine f_op rfl rfl (s_pickT (v := .bool (decide (x9 = 0))) rfl rfl) ?_
        refine f_op rfl rfl (s_mv (v := .bool (decide (x9 = 0))) rfl) ?_
        refine o_if (fun h10 => ?_) (fun h10 => ?_)
        · skip
          refine o_know 31 rfl (dec_true h10) ?_
          refine f_no rfl rfl ?_
          refine f_no rfl rfl ?_
          refine f_no rfl rfl ?_
          refine f_no rfl rfl ?_
          refine f_no rfl rfl ?_
          refine f_no rfl rfl ?_
          refine f_no rfl rfl ?_
          refine f_op rfl rfl (s_pickT (v := .bool true) rfl rfl) ?_
          refine f_op rfl rfl (s_mv (v := .bool true) rfl) ?_
          refine f_no rfl rfl ?_
          refine f_no rfl rfl ?_
          refine f_no rfl rfl ?_
          refine f_no rfl rfl ?_
          refine f_no rfl rfl ?_
          refine f_op rfl rfl (s_pickT (v := .bool true) rfl rfl) ?_
          refine f_nil ?_
          refine f_keep [0, 17, 18, 19, 46] ?_
          exact s63_j2 happ _ (fun v1_ v2_ v3_ v4_ H_ => ih v1_ v2_ v3_ v4_ H_) v1 v2 v3 v4 true H6
        · skip
          refine o_know 31 rfl (dec_false h10) ?_
          refine f_op rfl rfl (s_fieldAddr Try.underlying47 rfl ty3 rfl) ?_
          refine o_bind ?_; intro x11 hx11
          refine f_op rfl rfl (s_load Try.underlying3 rfl rfl (ldI_eq hx11)) ?_
          refine f_op rfl rfl (s_fieldAddr Try.underlying47 rfl ty3 rfl) ?_
          refine o_bind ?_; intro x12 hx12
          refine f_op rfl rfl (s_load Try.underlying3 rfl rfl (ldI_eq hx12)) ?_
          refine f_op rfl rfl (s_buildSlice (cs := [.int .i64 x11, .int .i64 x12]) Try.underlying76 ty3 (by decide) (by decide) rfl (by decide) rfl) ?_
          refine o_bind ?_; intro p13 hp13
          refine f_op rfl rfl (s_callF rfl ok79 (sim79 happ hp13)) ?_
          refine f_op rfl rfl (s_not rfl) ?_
          refine f_op rfl rfl (s_pickF (v := .bool (!p13.1)) rfl rfl) ?_
          refine f_op rfl rfl (s_mv (v := .bool (!p13.1)) rfl) ?_
          refine o_if (fun h14 => ?_) (fun h14 => ?_)
          · skip
            refine o_know 40 rfl (bool_notT h14) ?_
            refine f_op rfl rfl (s_fieldAddr Try.underlying47 rfl ty3 rfl) ?_
            refine o_bind ?_; intro x15 hx15
            refine f_op rfl rfl (s_load Try.underlying3 rfl rfl (ldI_eq hx15)) ?_
            refine f_op rfl rfl (s_buildSlice (cs := [.int .i64 x15]) Try.underlying76 ty3 (by decide) (by decide) rfl (by decide) rfl) ?_
            refine o_bind ?_; intro p16 hp16
            refine f_op rfl rfl (s_callF rfl ok79 (sim79 happ hp16)) ?_
            refine f_op rfl rfl (s_not rfl) ?_
            refine f_op rfl rfl (s_pickF (v := .bool (!p16.1)) rfl rfl) ?_
            refine f_nil ?_
            refine f_keep [0, 17, 18, 19, 46] ?_
            exact s63_j2 happ _ (fun v1_ v2_ v3_ v4_ H_ => ih v1_ v2_ v3_ v4_ H_) v1 v2 v3 v4 (!p16.1) p16.2
          · skip
            refine o_know 40 rfl (bool_notF h14) ?_
            refine f_no rfl rfl ?_
            refine f_no rfl rfl ?_
            refine f_no rfl rfl ?_
            refine f_no rfl rfl ?_
            refine f_no rfl rfl ?_
            refine f_op rfl rfl (s_pickT (v := .bool true) rfl rfl) ?_
            refine f_nil ?_
            refine f_keep [0, 17, 18, 19, 46] ?_
            exact s63_j2 happ _ (fun v1_ v2_ v3_ v4_ H_ => ih v1_ v2_ v3_ v4_ H_) v1 v2 v3 v4 true p13.2
      · skip
        refine o_know 26 rfl (dec_false h8) ?_
        refine f_no rfl rfl ?_
        refine f_no rfl rfl ?_
        refine f_no rfl rfl ?_
        refine f_op rfl rfl (s_pickF (v := .bool false) rfl rfl) ?_
        refine f_op rfl rfl (s_mv (v := .bool false) rfl) ?_
        refine f_op rfl rfl (s_fieldAddr Try.underlying47 rfl ty3 rfl) ?_
        refine o_bind ?_; intro x17 hx17
        refine f_op rfl rfl (s_load Try.underlying3 rfl rfl (ldI_eq hx17)) ?_
        refine f_op rfl rfl (s_fieldAddr Try.underlying47 rfl ty3 rfl) ?_
        refine o_bind ?_; intro x18 hx18
        refine f_op rfl rfl (s_load Try.underlying3 rfl rfl (ldI_eq hx18)) ?_
        refine f_op rfl rfl (s_buildSlice (cs := [.int .i64 x17, .int .i64 x18]) Try.underlying76 ty3 (by decide) (by decide) rfl (by decide) rfl) ?_
        refine o_bind ?_; intro p19 hp19
        refine f_op rfl rfl (s_callF rfl ok79 (sim79 happ hp19)) ?_
        refine f_op rfl rfl (s_not rfl) ?_
        refine f_op rfl rfl (s_pickF (v := .bool (!p19.1)) rfl rfl) ?_
        refine f_op rfl rfl (s_mv (v := .bool (!p19.1)) rfl) ?_
        refine o_if (fun h20 => ?_) (fun h20 => ?_)
        · skip
          refine o_know 40 rfl (bool_notT h20) ?_
          refine f_op rfl rfl (s_fieldAddr Try.underlying47 rfl ty3 rfl) ?_
          refine o_bind ?_; intro x21 hx21
          refine f_op rfl rfl (s_load Try.underlying3 rfl rfl (ldI_eq hx21)) ?_
          refine f_op rfl rfl (s_buildSlice (cs := [.int .i64 x21]) Try.underlying76 ty3 (by decide) (by decide) rfl (by decide) rfl) ?_
          refine o_bind ?_; intro p22 hp22
          refine f_op rfl rfl (s_callF rfl ok79 (sim79 happ hp22)) ?_
          refine f_op rfl rfl (s_not rfl) ?_
          refine f_op rfl rfl (s_pickF (v := .bool (!p22.1)) rfl rfl) ?_
          refine f_nil ?_
          refine f_keep [0, 17, 18, 19, 46] ?_
          exact s63_j2 happ _ (fun v1_ v2_ v3_ v4_ H_ => ih v1_ v2_ v3_ v4_ H_) v1 v2 v3 v4 (!p22.1) p22.2
        · skip
          refine o_know 40 rfl (bool_notF h20) ?_
          refine f_no rfl rfl ?_
          refine f_no rfl rfl ?_
          refine f_no rfl rfl ?_
          refine f_no rfl rfl ?_
          refine f_no rfl rfl ?_
          refine f_op rfl rfl (s_pickT (v := .bool true) rfl rfl) ?_
          refine f_nil ?_
          refine f_keep [0, 17, 18, 19, 46] ?_
          exact s63_j2 happ _ (fun v1_ v2_ v3_ v4_ H_ => ih v1_ v2_ v3_ v4_ H_) v1 v2 v3 v4 true p19.2
    · skip
      refine f_know 20 rfl (dec_false h1) ?_
      refine f_condF rfl ?_
      refine f_exit rfl ?_
      refine f_seq ?_
      refine f_seq ?_
      refine f_region ?_
      refine f_op rfl rfl (s_mv (v := .sl v1) rfl) ?_
      refine f_op rfl rfl (s_lenS rfl Try.underlying100 rfl) ?_
      refine f_op rfl rfl (s_mv (v := .int .i64 0) rfl) ?_
      refine f_nil ?_
      refine f_block ?_
      refine f_loop ?_
      refine f_keep [0, 48, 49, 50] ?_
      exact s63_l3 happ FUEL v1 v1 (v1.len : Int) 0 H

theorem s63_j0 {app : App} (happ : AppSim Try.prog app) (v1 : Sl) (v2 : Bool) (H : Hp) : Fin Try.prog Try.f63 ret63 78 (todoAt (bodyOf Try.f63) [1, 0, 1] []) [(0, .sl v1), (16, .bool v2)] H (r63_j0 app v1 v2 H) := by
  unfold r63_j0
  refine f_if (fun h1 => ?_) (fun h1 => ?_)
  · skip
    refine f_know 16 rfl (bool_T h1) ?_
    refine f_condT rfl ?_
    refine f_seq ?_
    refine f_region ?_
    refine f_op rfl rfl (s_as (v := .bool false) rfl) ?_
    refine f_nil ?_
    exact f_ret (.tmp rfl (.nil)) rfl
  · skip
    refine f_know 16 rfl (bool_F h1) ?_
    refine f_condF rfl ?_
    refine f_skip ?_
    refine f_seq ?_
    refine f_seq ?_
    refine f_region ?_
    refine f_op rfl rfl (s_mv (v := .sl v1) rfl) ?_
    refine f_op rfl rfl (s_lenS rfl Try.underlying100 rfl) ?_
    refine f_op rfl rfl (s_mv (v := .int .i64 0) rfl) ?_
    refine f_nil ?_
    refine f_block ?_
    refine f_loop ?_
    refine f_keep [0, 17, 18, 19] ?_
    exact s63_l1 happ FUEL v1 v1 (v1.len : Int) 0 H

theorem sim63 {app : App} (happ : AppSim Try.prog app) {a0 : Sl} {H : Hp} {p : Bool × Hp} (h : r63 app a0 H = some p) : CallSim Try.prog 63 [.sl a0] H (.bool p.1) p.2 := by
  refine callSim (fn := Try.f63) (ret := ret63) Try.func63 rfl Try.ntmps63 rfl ?_ h
  unfold r63
  refine f_seq ?_
  refine f_region ?_
  refine f_op rfl rfl (s_as (v := .bool false) rfl) ?_
  refine f_nil ?_
  refine f_seq ?_
  refine f_seq ?_
  refine f_region ?_
  refine f_op rfl rfl (s_mv (v := .sl a0) rfl) ?_
  refine f_op rfl rfl (s_lenS rfl Try.underlying100 rfl) ?_
  refine f_op rfl rfl (s_lss rfl rfl) ?_
  refine f_op rfl rfl (s_mv (v := .bool (decide ((a0.len : Int) < 3))) rfl) ?_
  refine o_if (fun h1 => ?_) (fun h1 => ?_)
  · skip
    refine o_know 12 rfl (dec_true h1) ?_
    refine f_no rfl rfl ?_
    refine f_no rfl rfl ?_
    refine f_no rfl rfl ?_
    refine f_op rfl rfl (s_pickT (v := .bool true) rfl rfl) ?_
    refine f_nil ?_
    refine f_keep [0, 16] ?_
    exact s63_j0 happ a0 true H
  · skip
    refine o_know 12 rfl (dec_false h1) ?_
    refine f_op rfl rfl (s_mv (v := .sl a0) rfl) ?_
    refine f_op rfl rfl (s_lenS rfl Try.underlying100 rfl) ?_
    refine f_op rfl rfl (s_gtr rfl rfl) ?_
    refine f_op rfl rfl (s_pickF (v := .bool (decide (6 < (a0.len : Int)))) rfl rfl) ?_
    refine f_nil ?_
    refine f_keep [0, 16] ?_
    exact s63_j0 happ a0 (decide (6 < (a0.len : Int))) H

/- 94 congou/cuts.gcd -/
theorem ok94 : FnOk Try.prog 94 := ⟨⟨Try.f94, Try.func94, by kernel_rfl, rfl⟩⟩
theorem s94_l0 : ∀ (k_ : Nat) (v1 : Int) (v2 : Int) (H : Hp), Fin Try.prog Try.f94 ret94 15 (todoAt (bodyOf Try.f94) [1, 0, 0, 0] []) [(0, .int .i64 v1), (1, .int .i64 v2)] H (r94_l0 k_ v1 v2 H) := by
  intro k_
  induction k_ with
  | zero => intro _ _ _; exact f_none
  | succ k_ ih =>
    intro v1 v2 H
    rw [r94_l0]
    refine f_seq ?_
    refine f_seq ?_
    refine f_region ?_
    refine f_op rfl rfl (s_mv (v := .int .i64 v2) rfl) ?_
    refine f_op rfl rfl (s_neq rfl rfl) ?_
    refine f_nil ?_
    refine f_if (fun h1 => ?_) (fun h1 => ?_)
    · skip
      refine f_know 6 rfl (dec_true h1) ?_
      refine f_condT rfl ?_
      refine f_skip ?_
      refine f_block ?_
      refine f_ck fun g2 => ?_
      refine f_draw (Φ := fun _ => True) (lim := 1000000) [0, 0, 0, 0, 0, 0] (Trc.pure rfl rfl rfl (.inl fun _ => s_mv (v := .int .i64 v2) rfl) (Trc.pure rfl rfl rfl (.inl fun _ => s_mv (v := .int .i64 v1) rfl) (Trc.pure rfl rfl rfl (.inl fun _ => s_mv (v := .int .i64 v2) rfl) (Trc.pure rfl rfl rfl (.inl fun _ => s_rem rfl rfl g2) (Trc.pure rfl rfl rfl (.inl fun _ => s_as (v := .int .i64 v2) rfl) (Trc.pure rfl rfl rfl (.inl fun _ => s_as (v := .int .i64 (Int.tmod v1 v2)) rfl) (Trc.nil (fun _ => trivial)))))))) rfl (by decide +kernel) mixed ?_
      refine f_inBlock ?_
      refine f_inLoop ?_
      refine f_keep [0, 1] ?_
      exact ih v2 (Int.tmod v1 v2) H
    · skip
      refine f_know 6 rfl (dec_false h1) ?_
      refine f_condF rfl ?_
      refine f_exit rfl ?_
      refine f_seq ?_
      refine f_region ?_
      refine f_op rfl rfl (s_mv (v := .int .i64 v1) rfl) ?_
      refine f_op rfl rfl (s_mv (v := .int .i64 v1) rfl) ?_
      refine f_op rfl rfl (s_neg rfl) ?_
      refine f_op rfl rfl (s_max2 rfl rfl) ?_
      refine f_op rfl rfl (s_as (v := .int .i64 (if v1 < (w64 (0 - v1)) then (w64 (0 - v1)) else v1)) rfl) ?_
      refine f_nil ?_
      exact f_ret (.tmp rfl (.nil)) rfl

theorem sim94 {a0 : Int} {a1 : Int} {H : Hp} {p : Int × Hp} (h : r94 a0 a1 H = some p) : CallSim Try.prog 94 [.int .i64 a0, .int .i64 a1] H (.int .i64 p.1) p.2 := by
  refine callSim (fn := Try.f94) (ret := ret94) Try.func94 rfl Try.ntmps94 rfl ?_ h
  unfold r94
  refine f_seq ?_
  refine f_region ?_
  refine f_op rfl rfl (s_as (v := .int .i64 0) rfl) ?_
  refine f_nil ?_
  refine f_seq ?_
  refine f_block ?_
  refine f_loop ?_
  refine f_keep [0, 1] ?_
  exact s94_l0 FUEL a0 a1 H

/- 64 congou/cuts.isFrac -/
theorem ok64 : FnOk Try.prog 64 := ⟨⟨Try.f64, Try.func64, by kernel_rfl, rfl⟩⟩
theorem sim64 {a0_0 : Int} {a0_1 : Int} {a1 : Int} {a2 : Int} {H : Hp} {p : Bool × Hp} (h : r64 a0_0 a0_1 a1 a2 H = some p) : CallSim Try.prog 64 [.agg [.int .i64 a0_0, .int .i64 a0_1], .int .i64 a1, .int .i64 a2] H (.bool p.1) p.2 := by
  refine callSim (fn := Try.f64) (ret := ret64) Try.func64 rfl Try.ntmps64 rfl ?_ h
  unfold r64
  refine f_seq ?_
  refine f_region ?_
  refine f_op rfl rfl (s_box (v := .agg [.int .i64 a0_0, .int .i64 a0_1]) rfl rfl) ?_
  refine f_op rfl rfl (s_as (v := .bool false) rfl) ?_
  refine o_hp ?_; intro H1 hH1
  refine f_nil ?_
  refine f_seq ?_
  refine f_region ?_
  refine f_op rfl rfl (s_fieldAddr Try.underlying24 rfl ty3 rfl) ?_
  refine o_bind ?_; intro x2 hx2
  refine f_op rfl rfl (s_load Try.underlying3 rfl rfl (ldI_eq hx2)) ?_
  refine f_op rfl rfl (s_geq rfl rfl) ?_
  refine f_op rfl rfl (s_mv (v := .bool (decide (1 ≤ x2))) rfl) ?_
  refine o_if (fun h3 => ?_) (fun h3 => ?_)
  · skip
    refine o_know 10 rfl (dec_true h3) ?_
    refine f_op rfl rfl (s_fieldAddr Try.underlying24 rfl ty3 rfl) ?_
    refine o_bind ?_; intro x4 hx4
    refine f_op rfl rfl (s_load Try.underlying3 rfl rfl (ldI_eq hx4)) ?_
    refine f_op rfl rfl (s_leq rfl rfl) ?_
    refine f_op rfl rfl (s_pickT (v := .bool (decide (x4 ≤ 100))) rfl rfl) ?_
    refine f_op rfl rfl (s_mv (v := .bool (decide (x4 ≤ 100))) rfl) ?_
    refine o_if (fun h5 => ?_) (fun h5 => ?_)
    · skip
      refine o_know 15 rfl (dec_true h5) ?_
      refine f_op rfl rfl (s_fieldAddr Try.underlying24 rfl ty3 rfl) ?_
      refine o_bind ?_; intro x6 hx6
      refine f_op rfl rfl (s_load Try.underlying3 rfl rfl (ldI_eq hx6)) ?_
      refine f_op rfl rfl (s_mv (v := .int .i64 a1) rfl) ?_
      refine f_op rfl rfl (s_fieldAddr Try.underlying24 rfl ty3 rfl) ?_
      refine o_bind ?_; intro x7 hx7
      refine f_op rfl rfl (s_load Try.underlying3 rfl rfl (ldI_eq hx7)) ?_
      refine f_op rfl rfl (s_mul rfl rfl) ?_
      refine f_op rfl rfl (s_geq rfl rfl) ?_
      refine f_op rfl rfl (s_pickT (v := .bool (decide ((w64 (a1 * x7)) ≤ x6))) rfl rfl) ?_
      refine f_op rfl rfl (s_mv (v := .bool (decide ((w64 (a1 * x7)) ≤ x6))) rfl) ?_
      refine o_if (fun h8 => ?_) (fun h8 => ?_)
      · skip
        refine o_know 24 rfl (dec_true h8) ?_
        refine f_op rfl rfl (s_fieldAddr Try.underlying24 rfl ty3 rfl) ?_
        refine o_bind ?_; intro x9 hx9
        refine f_op rfl rfl (s_load Try.underlying3 rfl rfl (ldI_eq hx9)) ?_
        refine f_op rfl rfl (s_mv (v := .int .i64 a2) rfl) ?_
        refine f_op rfl rfl (s_fieldAddr Try.underlying24 rfl ty3 rfl) ?_
        refine o_bind ?_; intro x10 hx10
        refine f_op rfl rfl (s_load Try.underlying3 rfl rfl (ldI_eq hx10)) ?_
        refine f_op rfl rfl (s_mul rfl rfl) ?_
        refine f_op rfl rfl (s_leq rfl rfl) ?_
        refine f_op rfl rfl (s_pickT (v := .bool (decide (x9 ≤ (w64 (a2 * x10))))) rfl rfl) ?_
        refine f_op rfl rfl (s_mv (v := .bool (decide (x9 ≤ (w64 (a2 * x10))))) rfl) ?_
        refine o_if (fun h11 => ?_) (fun h11 => ?_)
        · skip
          refine o_know 33 rfl (dec_true h11) ?_
          refine f_op rfl rfl (s_fieldAddr Try.underlying24 rfl ty3 rfl) ?_
          refine o_bind ?_; intro x12 hx12
          refine f_op rfl rfl (s_load Try.underlying3 rfl rfl (ldI_eq hx12)) ?_
          refine f_op rfl rfl (s_fieldAddr Try.underlying24 rfl ty3 rfl) ?_
          refine o_bind ?_; intro x13 hx13
          refine f_op rfl rfl (s_load Try.underlying3 rfl rfl (ldI_eq hx13)) ?_
          refine o_bind ?_; intro p14 hp14
          refine f_op rfl rfl (s_callO rfl ok94 (sim94 hp14) rfl rfl) ?_
          refine f_op rfl rfl (s_eql rfl rfl) ?_
          refine f_op rfl rfl (s_pickT (v := .bool (decide (p14.1 = 1))) rfl rfl) ?_
          refine f_op rfl rfl (s_as (v := .bool (decide (p14.1 = 1))) rfl) ?_
          refine f_nil ?_
          exact f_ret (.tmp rfl (.nil)) rfl
        · skip
          refine o_know 33 rfl (dec_false h11) ?_
          refine f_no rfl rfl ?_
          refine f_no rfl rfl ?_
          refine f_no rfl rfl ?_
          refine f_no rfl rfl ?_
          refine f_no rfl rfl ?_
          refine f_no rfl rfl ?_
          refine f_op rfl rfl (s_pickF (v := .bool false) rfl rfl) ?_
          refine f_op rfl rfl (s_as (v := .bool false) rfl) ?_
          refine f_nil ?_
          exact f_ret (.tmp rfl (.nil)) rfl
      · skip
        refine o_know 24 rfl (dec_false h8) ?_
        refine f_no rfl rfl ?_
        refine f_no rfl rfl ?_
        refine f_no rfl rfl ?_
        refine f_no rfl rfl ?_
        refine f_no rfl rfl ?_
        refine f_no rfl rfl ?_
        refine f_no rfl rfl ?_
        refine f_op rfl rfl (s_pickF (v := .bool false) rfl rfl) ?_
        refine f_op rfl rfl (s_mv (v := .bool false) rfl) ?_
        refine f_no rfl rfl ?_
        refine f_no rfl rfl ?_
        refine f_no rfl rfl ?_
        refine f_no rfl rfl ?_
        refine f_no rfl rfl ?_
        refine f_no rfl rfl ?_
        refine f_op rfl rfl (s_pickF (v := .bool false) rfl rfl) ?_
        refine f_op rfl rfl (s_as (v := .bool false) rfl) ?_
        refine f_nil ?_
        exact f_ret (.tmp rfl (.nil)) rfl
    · skip
      refine o_know 15 rfl (dec_false h5) ?_
      refine f_no rfl rfl ?_
      refine f_no rfl rfl ?_
      refine f_no rfl rfl ?_
      refine f_no rfl rfl ?_
      refine f_no rfl rfl ?_
      refine f_no rfl rfl ?_
      refine f_no rfl rfl ?_
      refine f_op rfl rfl (s_pickF (v := .bool false) rfl rfl) ?_
      refine f_op rfl rfl (s_mv (v := .bool false) rfl) ?_
      refine f_no rfl rfl ?_
      refine f_no rfl rfl ?_
      refine f_no rfl rfl ?_
      refine f_no rfl rfl ?_
      refine f_no rfl rfl ?_
      refine f_no rfl rfl ?_
      refine f_no rfl rfl ?_
      refine f_op rfl rfl (s_pickF (v := .bool false) rfl rfl) ?_
      refine f_op rfl rfl (s_mv (v := .bool false) rfl) ?_
      refine f_no rfl rfl ?_
      refine f_no rfl rfl ?_
      refine f_no rfl rfl ?_
      refine f_no rfl rfl ?_
      refine f_no rfl rfl ?_
      refine f_no rfl rfl ?_
      refine f_op rfl rfl (s_pickF (v := .bool false) rfl rfl) ?_
      refine f_op rfl rfl (s_as (v := .bool false) rfl) ?_
      refine f_nil ?_
      exact f_ret (.tmp rfl (.nil)) rfl
  · skip
    refine o_know 10 rfl (dec_false h3) ?_
    refine f_no rfl rfl ?_
    refine f_no rfl rfl ?_
    refine f_no rfl rfl ?_
    refine f_op rfl rfl (s_pickF (v := .bool false) rfl rfl) ?_
    refine f_op rfl rfl (s_mv (v := .bool false) rfl) ?_
    refine f_no rfl rfl ?_
    refine f_no rfl rfl ?_
    refine f_no rfl rfl ?_
    refine f_no rfl rfl ?_
    refine f_no rfl rfl ?_
    refine f_no rfl rfl ?_
    refine f_no rfl rfl ?_
    refine f_op rfl rfl (s_pickF (v := .bool false) rfl rfl) ?_
    refine f_op rfl rfl (s_mv (v := .bool false) rfl) ?_
    refine f_no rfl rfl ?_
    refine f_no rfl rfl ?_
    refine f_no rfl rfl ?_
    refine f_no rfl rfl ?_
    refine f_no rfl rfl ?_
    refine f_no rfl rfl ?_
    refine f_no rfl rfl ?_
    refine f_op rfl rfl (s_pickF (v := .bool false) rfl rfl) ?_
    refine f_op rfl rfl (s_mv (v := .bool false) rfl) ?_
    refine f_no rfl rfl ?_
    refine f_no rfl rfl ?_
    refine f_no rfl rfl ?_
    refine f_no rfl rfl ?_
    refine f_no rfl rfl ?_
    refine f_no rfl rfl ?_
    refine f_op rfl rfl (s_pickF (v := .bool false) rfl rfl) ?_
    refine f_op rfl rfl (s_as (v := .bool false) rfl) ?_
    refine f_nil ?_
    exact f_ret (.tmp rfl (.nil)) rfl

/- 65 (congou/cuts.plate).has -/
theorem ok65 : FnOk Try.prog 65 := ⟨⟨Try.f65, Try.func65, by kernel_rfl, rfl⟩⟩
theorem sim65 {app : App} (happ : AppSim Try.prog app) {a0 : Sl} {a1_0 : Int} {a1_1 : Int} {a1_2 : Int} {a1_3 : Int} {H : Hp} {p : Bool × Hp} (h : r65 app a0 a1_0 a1_1 a1_2 a1_3 H = some p) : CallSim Try.prog 65 [.sl a0, .agg [.int .i64 a1_0, .int .i64 a1_1, .int .i64 a1_2, .int .i64 a1_3]] H (.bool p.1) p.2 := by
  refine callSim (fn := Try.f65) (ret := ret65) Try.func65 rfl Try.ntmps65 rfl ?_ h
  unfold r65
  refine f_seq ?_
  refine f_region ?_
  refine f_op rfl rfl (s_box (v := .agg [.int .i64 a1_0, .int .i64 a1_1, .int .i64 a1_2, .int .i64 a1_3]) rfl rfl) ?_
  refine f_op rfl rfl (s_as (v := .bool false) rfl) ?_
  refine o_hp ?_; intro H1 hH1
  refine f_nil ?_
  refine f_seq ?_
  refine f_region ?_
  refine f_op rfl rfl (s_mv (v := .sl a0) rfl) ?_
  refine f_op rfl rfl (s_makeFunc rfl rfl) ?_
  refine o_bind ?_; intro p2 hp2
  refine f_op rfl rfl (s_callF rfl ok92 (sim92 happ hp2)) ?_
  refine f_op rfl rfl (s_not rfl) ?_
  refine f_op rfl rfl (s_as (v := .bool (!p2.1)) rfl) ?_
  refine f_nil ?_
  exact f_ret (.tmp rfl (.nil)) rfl

/- 68 congou/cuts.down -/
theorem ok68 : FnOk Try.prog 68 := ⟨⟨Try.f68, Try.func68, by kernel_rfl, rfl⟩⟩
theorem s68_j0 (v1 : Int) (v2 : Bool) (H : Hp) : Fin Try.prog Try.f68 ret68 24 (todoAt (bodyOf Try.f68) [1, 1, 0, 1] []) [(3, .int .i64 v1), (20, .bool v2)] H (r68_j0 v1 v2 H) := by
  unfold r68_j0
  refine f_if (fun h1 => ?_) (fun h1 => ?_)
  · skip
    refine f_know 20 rfl (bool_T h1) ?_
    refine f_condT rfl ?_
    refine f_region ?_
    refine f_op rfl rfl (s_mv (v := .int .i64 v1) rfl) ?_
    refine f_op rfl rfl (s_sub rfl rfl) ?_
    refine f_op rfl rfl (s_as (v := .int .i64 (w64 (v1 - 1))) rfl) ?_
    refine f_nil ?_
    refine f_seq ?_
    refine f_region ?_
    refine f_op rfl rfl (s_mv (v := .int .i64 (w64 (v1 - 1))) rfl) ?_
    refine f_op rfl rfl (s_as (v := .int .i64 (w64 (v1 - 1))) rfl) ?_
    refine f_nil ?_
    exact f_ret (.tmp rfl (.nil)) rfl
  · skip
    refine f_know 20 rfl (bool_F h1) ?_
    refine f_condF rfl ?_
    refine f_skip ?_
    refine f_seq ?_
    refine f_region ?_
    refine f_op rfl rfl (s_mv (v := .int .i64 v1) rfl) ?_
    refine f_op rfl rfl (s_as (v := .int .i64 v1) rfl) ?_
    refine f_nil ?_
    exact f_ret (.tmp rfl (.nil)) rfl

theorem sim68 {a0_0 : Int} {a0_1 : Int} {H : Hp} {p : Int × Hp} (h : r68 a0_0 a0_1 H = some p) : CallSim Try.prog 68 [.agg [.int .i64 a0_0, .int .i64 a0_1]] H (.int .i64 p.1) p.2 := by
  refine callSim (fn := Try.f68) (ret := ret68) Try.func68 rfl Try.ntmps68 rfl ?_ h
  unfold r68
  refine f_seq ?_
  refine f_region ?_
  refine f_op rfl rfl (s_box (v := .agg [.int .i64 a0_0, .int .i64 a0_1]) rfl rfl) ?_
  refine f_op rfl rfl (s_as (v := .int .i64 0) rfl) ?_
  refine o_hp ?_; intro H1 hH1
  refine f_nil ?_
  refine f_seq ?_
  refine f_region ?_
  refine f_op rfl rfl (s_fieldAddr Try.underlying24 rfl ty3 rfl) ?_
  refine o_bind ?_; intro x2 hx2
  refine f_op rfl rfl (s_load Try.underlying3 rfl rfl (ldI_eq hx2)) ?_
  refine f_op rfl rfl (s_fieldAddr Try.underlying24 rfl ty3 rfl) ?_
  refine o_bind ?_; intro x3 hx3
  refine f_op rfl rfl (s_load Try.underlying3 rfl rfl (ldI_eq hx3)) ?_
  refine o_ck fun g4 => ?_
  refine f_op rfl rfl (s_quo rfl rfl g4) ?_
  refine f_op rfl rfl (s_as (v := .int .i64 (w64 (Int.tdiv x2 x3))) rfl) ?_
  refine f_nil ?_
  refine f_seq ?_
  refine f_seq ?_
  refine f_region ?_
  refine f_op rfl rfl (s_fieldAddr Try.underlying24 rfl ty3 rfl) ?_
  refine o_bind ?_; intro x5 hx5
  refine f_op rfl rfl (s_load Try.underlying3 rfl rfl (ldI_eq hx5)) ?_
  refine f_op rfl rfl (s_lss rfl rfl) ?_
  refine f_op rfl rfl (s_mv (v := .bool (decide (x5 < 0))) rfl) ?_
  refine o_if (fun h6 => ?_) (fun h6 => ?_)
  · skip
    refine o_know 12 rfl (dec_true h6) ?_
    refine f_op rfl rfl (s_mv (v := .int .i64 (w64 (Int.tdiv x2 x3))) rfl) ?_
    refine f_op rfl rfl (s_fieldAddr Try.underlying24 rfl ty3 rfl) ?_
    refine o_bind ?_; intro x7 hx7
    refine f_op rfl rfl (s_load Try.underlying3 rfl rfl (ldI_eq hx7)) ?_
    refine f_op rfl rfl (s_mul rfl rfl) ?_
    refine f_op rfl rfl (s_fieldAddr Try.underlying24 rfl ty3 rfl) ?_
    refine o_bind ?_; intro x8 hx8
    refine f_op rfl rfl (s_load Try.underlying3 rfl rfl (ldI_eq hx8)) ?_
    refine f_op rfl rfl (s_neq rfl rfl) ?_
    refine f_op rfl rfl (s_pickT (v := .bool (decide ((w64 ((w64 (Int.tdiv x2 x3)) * x7)) ≠ x8))) rfl rfl) ?_
    refine f_nil ?_
    refine f_keep [3, 20] ?_
    exact s68_j0 (w64 (Int.tdiv x2 x3)) (decide ((w64 ((w64 (Int.tdiv x2 x3)) * x7)) ≠ x8)) H1
  · skip
    refine o_know 12 rfl (dec_false h6) ?_
    refine f_no rfl rfl ?_
    refine f_no rfl rfl ?_
    refine f_no rfl rfl ?_
    refine f_no rfl rfl ?_
    refine f_no rfl rfl ?_
    refine f_no rfl rfl ?_
    refine f_no rfl rfl ?_
    refine f_op rfl rfl (s_pickF (v := .bool false) rfl rfl) ?_
    refine f_nil ?_
    refine f_keep [3, 20] ?_
    exact s68_j0 (w64 (Int.tdiv x2 x3)) false H1

/- 100 congou/cuts.frac -/
theorem ok100 : FnOk Try.prog 100 := ⟨⟨Try.f100, Try.func100, by kernel_rfl, rfl⟩⟩
theorem s100_j0 (v1 : Int) (v2 : Int) (v3 : Nat) (H : Hp) : Fin Try.prog Try.f100 ret100 22 (todoAt (bodyOf Try.f100) [1, 1] []) [(0, .int .i64 v1), (1, .int .i64 v2), (4, .ptr v3 0)] H (r100_j0 v1 v2 v3 H) := by
  unfold r100_j0
  refine f_seq ?_
  refine f_region ?_
  refine f_op rfl rfl (s_mv (v := .int .i64 v1) rfl) ?_
  refine f_op rfl rfl (s_mv (v := .int .i64 v2) rfl) ?_
  refine o_bind ?_; intro p1 hp1
  refine f_op rfl rfl (s_callO rfl ok94 (sim94 hp1) rfl rfl) ?_
  refine f_op rfl rfl (s_as (v := .int .i64 p1.1) rfl) ?_
  refine f_nil ?_
  refine f_seq ?_
  refine f_ck fun g2 => ?_
  refine f_ck fun g3 => ?_
  refine f_bind ?_; intro H4 hH4
  refine f_draw (Φ := fun _ => True) (lim := 1000000) [0, 0, 0, 0, 0, 0, 0, 2] (Trc.pure rfl rfl rfl (.inl fun _ => s_mv (v := .int .i64 v1) rfl) (Trc.pure rfl rfl rfl (.inl fun _ => s_mv (v := .int .i64 p1.1) rfl) (Trc.pure rfl rfl rfl (.inl fun _ => s_quo rfl rfl g2) (Trc.pure rfl rfl rfl (.inl fun _ => s_mv (v := .int .i64 v2) rfl) (Trc.pure rfl rfl rfl (.inl fun _ => s_mv (v := .int .i64 p1.1) rfl) (Trc.pure rfl rfl rfl (.inl fun _ => s_quo rfl rfl g3) (Trc.pure rfl rfl rfl (.inl fun _ => s_build (cs := [.int .i64 (w64 (Int.tdiv v1 p1.1)), .int .i64 (w64 (Int.tdiv v2 p1.1))]) Try.underlying24 ty24 rfl pl24 rfl) (Trc.eff rfl rfl rfl (fun _ => trivial) (s_stores ty24 rfl rfl rfl rfl hH4 (Nat.le_of_eq (sts_mono hH4).symm)) (Trc.nil (fun _ => trivial)))))))))) rfl (by decide +kernel) mixed ?_
  refine f_bind ?_; intro x5 hx5
  refine f_bind ?_; intro x6 hx6
  exact f_ret (.cells Try.underlying24 rfl sz24 rfl (lds_cons (ldI_eq hx5) (lds_cons (ldI_eq hx6) (lds_nil))) (.nil)) rfl

theorem sim100 {a0 : Int} {a1 : Int} {H : Hp} {p : (Int × Int) × Hp} (h : r100 a0 a1 H = some p) : CallSim Try.prog 100 [.int .i64 a0, .int .i64 a1] H (.agg [.int .i64 p.1.1, .int .i64 p.1.2]) p.2 := by
  refine callSim (fn := Try.f100) (ret := ret100) Try.func100 rfl Try.ntmps100 rfl ?_ h
  unfold r100
  refine f_seq ?_
  refine f_region ?_
  refine f_op rfl rfl (s_alloc (zs := [.int .i64 0, .int .i64 0]) ty24 rfl rfl) ?_
  refine o_hp ?_; intro H1 hH1
  refine f_nil ?_
  refine f_seq ?_
  refine f_seq ?_
  refine f_region ?_
  refine f_op rfl rfl (s_mv (v := .int .i64 a1) rfl) ?_
  refine f_op rfl rfl (s_lss rfl rfl) ?_
  refine f_nil ?_
  refine f_if (fun h2 => ?_) (fun h2 => ?_)
  · skip
    refine f_know 7 rfl (dec_true h2) ?_
    refine f_condT rfl ?_
    refine f_region ?_
    refine f_op rfl rfl (s_mv (v := .int .i64 a0) rfl) ?_
    refine f_op rfl rfl (s_neg rfl) ?_
    refine f_op rfl rfl (s_mv (v := .int .i64 a1) rfl) ?_
    refine f_op rfl rfl (s_neg rfl) ?_
    refine f_op rfl rfl (s_as (v := .int .i64 (w64 (0 - a0))) rfl) ?_
    refine f_op rfl rfl (s_as (v := .int .i64 (w64 (0 - a1))) rfl) ?_
    refine f_nil ?_
    refine f_keep [0, 1, 4] ?_
    exact s100_j0 (w64 (0 - a0)) (w64 (0 - a1)) H.n H1
  · skip
    refine f_know 7 rfl (dec_false h2) ?_
    refine f_condF rfl ?_
    refine f_skip ?_
    refine f_keep [0, 1, 4] ?_
    exact s100_j0 a0 a1 H.n H1

/- 98 congou/cuts.plus -/
theorem ok98 : FnOk Try.prog 98 := ⟨⟨Try.f98, Try.func98, by kernel_rfl, rfl⟩⟩
theorem sim98 {a0_0 : Int} {a0_1 : Int} {a1_0 : Int} {a1_1 : Int} {H : Hp} {p : (Int × Int) × Hp} (h : r98 a0_0 a0_1 a1_0 a1_1 H = some p) : CallSim Try.prog 98 [.agg [.int .i64 a0_0, .int .i64 a0_1], .agg [.int .i64 a1_0, .int .i64 a1_1]] H (.agg [.int .i64 p.1.1, .int .i64 p.1.2]) p.2 := by
  refine callSim (fn := Try.f98) (ret := ret98) Try.func98 rfl Try.ntmps98 rfl ?_ h
  unfold r98
  refine f_seq ?_
  refine f_region ?_
  refine f_op rfl rfl (s_box (v := .agg [.int .i64 a0_0, .int .i64 a0_1]) rfl rfl) ?_
  refine f_op rfl rfl (s_box (v := .agg [.int .i64 a1_0, .int .i64 a1_1]) rfl rfl) ?_
  refine f_op rfl rfl (s_alloc (zs := [.int .i64 0, .int .i64 0]) ty24 rfl rfl) ?_
  refine o_hp ?_; intro H1 hH1
  refine f_nil ?_
  refine f_seq ?_
  refine f_region ?_
  refine f_op rfl rfl (s_fieldAddr Try.underlying24 rfl ty3 rfl) ?_
  refine o_bind ?_; intro x2 hx2
  refine f_op rfl rfl (s_load Try.underlying3 rfl rfl (ldI_eq hx2)) ?_
  refine f_op rfl rfl (s_fieldAddr Try.underlying24 rfl ty3 rfl) ?_
  refine o_bind ?_; intro x3 hx3
  refine f_op rfl rfl (s_load Try.underlying3 rfl rfl (ldI_eq hx3)) ?_
  refine f_op rfl rfl (s_mul rfl rfl) ?_
  refine f_op rfl rfl (s_fieldAddr Try.underlying24 rfl ty3 rfl) ?_
  refine o_bind ?_; intro x4 hx4
  refine f_op rfl rfl (s_load Try.underlying3 rfl rfl (ldI_eq hx4)) ?_
  refine f_op rfl rfl (s_fieldAddr Try.underlying24 rfl ty3 rfl) ?_
  refine o_bind ?_; intro x5 hx5
  refine f_op rfl rfl (s_load Try.underlying3 rfl rfl (ldI_eq hx5)) ?_
  refine f_op rfl rfl (s_mul rfl rfl) ?_
  refine f_op rfl rfl (s_add rfl rfl) ?_
  refine f_op rfl rfl (s_fieldAddr Try.underlying24 rfl ty3 rfl) ?_
  refine o_bind ?_; intro x6 hx6
  refine f_op rfl rfl (s_load Try.underlying3 rfl rfl (ldI_eq hx6)) ?_
  refine f_op rfl rfl (s_fieldAddr Try.underlying24 rfl ty3 rfl) ?_
  refine o_bind ?_; intro x7 hx7
  refine f_op rfl rfl (s_load Try.underlying3 rfl rfl (ldI_eq hx7)) ?_
  refine f_op rfl rfl (s_mul rfl rfl) ?_
  refine o_bind ?_; intro p8 hp8
  refine f_op rfl rfl (s_callO rfl ok100 (sim100 hp8) rfl rfl) ?_
  refine o_bind ?_; intro H9 hH9
  refine f_op rfl rfl (s_stores ty24 rfl rfl rfl rfl hH9 (Nat.le_of_eq (sts_mono hH9).symm)) ?_
  refine f_nil ?_
  refine f_bind ?_; intro x10 hx10
  refine f_bind ?_; intro x11 hx11
  exact f_ret (.cells Try.underlying24 rfl sz24 rfl (lds_cons (ldI_eq hx10) (lds_cons (ldI_eq hx11) (lds_nil))) (.nil)) rfl

/- 99 congou/cuts.times -/
theorem ok99 : FnOk Try.prog 99 := ⟨⟨Try.f99, Try.func99, by kernel_rfl, rfl⟩⟩
theorem sim99 {a0 : Int} {a1_0 : Int} {a1_1 : Int} {H : Hp} {p : (Int × Int) × Hp} (h : r99 a0 a1_0 a1_1 H = some p) : CallSim Try.prog 99 [.int .i64 a0, .agg [.int .i64 a1_0, .int .i64 a1_1]] H (.agg [.int .i64 p.1.1, .int .i64 p.1.2]) p.2 := by
  refine callSim (fn := Try.f99) (ret := ret99) Try.func99 rfl Try.ntmps99 rfl ?_ h
  unfold r99
  refine f_seq ?_
  refine f_region ?_
  refine f_op rfl rfl (s_box (v := .agg [.int .i64 a1_0, .int .i64 a1_1]) rfl rfl) ?_
  refine f_op rfl rfl (s_alloc (zs := [.int .i64 0, .int .i64 0]) ty24 rfl rfl) ?_
  refine o_hp ?_; intro H1 hH1
  refine f_nil ?_
  refine f_seq ?_
  refine f_region ?_
  refine f_op rfl rfl (s_mv (v := .int .i64 a0) rfl) ?_
  refine f_op rfl rfl (s_fieldAddr Try.underlying24 rfl ty3 rfl) ?_
  refine o_bind ?_; intro x2 hx2
  refine f_op rfl rfl (s_load Try.underlying3 rfl rfl (ldI_eq hx2)) ?_
  refine f_op rfl rfl (s_mul rfl rfl) ?_
  refine f_op rfl rfl (s_fieldAddr Try.underlying24 rfl ty3 rfl) ?_
  refine o_bind ?_; intro x3 hx3
  refine f_op rfl rfl (s_load Try.underlying3 rfl rfl (ldI_eq hx3)) ?_
  refine o_bind ?_; intro p4 hp4
  refine f_op rfl rfl (s_callO rfl ok100 (sim100 hp4) rfl rfl) ?_
  refine o_bind ?_; intro H5 hH5
  refine f_op rfl rfl (s_stores ty24 rfl rfl rfl rfl hH5 (Nat.le_of_eq (sts_mono hH5).symm)) ?_
  refine f_nil ?_
  refine f_bind ?_; intro x6 hx6
  refine f_bind ?_; intro x7 hx7
  exact f_ret (.cells Try.underlying24 rfl sz24 rfl (lds_cons (ldI_eq hx6) (lds_cons (ldI_eq hx7) (lds_nil))) (.nil)) rfl

/- 69 (congou/cuts.Side).at -/
theorem ok69 : FnOk Try.prog 69 := ⟨⟨Try.f69, Try.func69, by kernel_rfl, rfl⟩⟩
theorem sim69 {a0_0 : Int} {a0_1 : Int} {a0_2 : Int} {a1_0 : Int} {a1_1 : Int} {a1_2 : Int} {a1_3 : Int} {H : Hp} {p : (Int × Int) × Hp} (h : r69 a0_0 a0_1 a0_2 a1_0 a1_1 a1_2 a1_3 H = some p) : CallSim Try.prog 69 [.agg [.int .i64 a0_0, .int .i64 a0_1, .int .i64 a0_2], .agg [.int .i64 a1_0, .int .i64 a1_1, .int .i64 a1_2, .int .i64 a1_3]] H (.agg [.int .i64 p.1.1, .int .i64 p.1.2]) p.2 := by
  refine callSim (fn := Try.f69) (ret := ret69) Try.func69 rfl Try.ntmps69 rfl ?_ h
  unfold r69
  refine f_seq ?_
  refine f_region ?_
  refine f_op rfl rfl (s_box (v := .agg [.int .i64 a0_0, .int .i64 a0_1, .int .i64 a0_2]) rfl rfl) ?_
  refine f_op rfl rfl (s_box (v := .agg [.int .i64 a1_0, .int .i64 a1_1, .int .i64 a1_2, .int .i64 a1_3]) rfl rfl) ?_
  refine f_op rfl rfl (s_alloc (zs := [.int .i64 0, .int .i64 0]) ty24 rfl rfl) ?_
  refine o_hp ?_; intro H1 hH1
  refine f_nil ?_
  refine f_seq ?_
  refine f_bind ?_; intro x2 hx2
  refine f_bind ?_; intro x3 hx3
  refine f_bind ?_; intro x4 hx4
  refine f_bind ?_; intro p5 hp5
  refine f_bind ?_; intro x6 hx6
  refine f_bind ?_; intro x7 hx7
  refine f_bind ?_; intro x8 hx8
  refine f_bind ?_; intro p9 hp9
  refine f_bind ?_; intro p10 hp10
  refine f_bind ?_; intro H11 hH11
  refine f_draw (Φ := fun _ => True) (lim := 1000000) [0, 1, 0, 1, 0, 0, 1, 0, 1, 0, 0, 2] (Trc.pure rfl rfl rfl (.inl fun _ => s_fieldAddr Try.underlying47 rfl ty3 rfl) (Trc.read rfl rfl rfl (s_load Try.underlying3 rfl rfl (ldI_eq hx2)) (Trc.pure rfl rfl rfl (.inl fun _ => s_fieldAddr Try.underlying32 rfl ty24 rfl) (Trc.read rfl rfl rfl (s_loads Try.underlying24 rfl ty24 rfl (lds_cons (ldI_eq hx3) (lds_cons (ldI_eq hx4) (lds_nil)))) (Trc.pure rfl rfl rfl (.inl fun _ => s_callO rfl ok99 (sim99 hp5) rfl rfl) (Trc.pure rfl rfl rfl (.inl fun _ => s_fieldAddr Try.underlying47 rfl ty3 rfl) (Trc.read rfl rfl rfl (s_load Try.underlying3 rfl rfl (ldI_eq hx6)) (Trc.pure rfl rfl rfl (.inl fun _ => s_fieldAddr Try.underlying32 rfl ty24 rfl) (Trc.read rfl rfl rfl (s_loads Try.underlying24 rfl ty24 rfl (lds_cons (ldI_eq hx7) (lds_cons (ldI_eq hx8) (lds_nil)))) (Trc.pure rfl rfl rfl (.inl fun _ => s_callO rfl ok99 (sim99 hp9) rfl rfl) (Trc.pure rfl rfl rfl (.inl fun _ => s_callO rfl ok98 (sim98 hp10) rfl rfl) (Trc.eff rfl rfl rfl (fun _ => trivial) (s_stores ty24 rfl rfl rfl rfl hH11 (Nat.le_of_eq (sts_mono hH11).symm)) (Trc.nil (fun _ => trivial)))))))))))))) rfl (by decide +kernel) mixed ?_
  refine f_bind ?_; intro x12 hx12
  refine f_bind ?_; intro x13 hx13
  exact f_ret (.cells Try.underlying24 rfl sz24 rfl (lds_cons (ldI_eq hx12) (lds_cons (ldI_eq hx13) (lds_nil))) (.nil)) rfl

/- 107 cmp.isNaN[int] -/
theorem ok107 : FnOk Try.prog 107 := ⟨⟨Try.f107, Try.func107, by kernel_rfl, rfl⟩⟩
theorem sim107 {a0 : Int} {H : Hp} {p : Bool × Hp} (h : r107 a0 H = some p) : CallSim Try.prog 107 [.int .i64 a0] H (.bool p.1) p.2 := by
  refine callSim (fn := Try.f107) (ret := ret107) Try.func107 rfl Try.ntmps107 rfl ?_ h
  unfold r107
  refine f_seq ?_
  refine f_region ?_
  refine f_op rfl rfl (s_as (v := .bool false) rfl) ?_
  refine f_nil ?_
  refine f_seq ?_
  refine f_region ?_
  refine f_op rfl rfl (s_mv (v := .int .i64 a0) rfl) ?_
  refine f_op rfl rfl (s_mv (v := .int .i64 a0) rfl) ?_
  refine f_op rfl rfl (s_neq rfl rfl) ?_
  refine f_op rfl rfl (s_as (v := .bool (decide (a0 ≠ a0))) rfl) ?_
  refine f_nil ?_
  exact f_ret (.tmp rfl (.nil)) rfl

/- 84 cmp.Compare[int] -/
theorem ok84 : FnOk Try.prog 84 := ⟨⟨Try.f84, Try.func84, by kernel_rfl, rfl⟩⟩
theorem sim84 {a0 : Int} {a1 : Int} {H : Hp} {p : Int × Hp} (h : r84 a0 a1 H = some p) : CallSim Try.prog 84 [.int .i64 a0, .int .i64 a1] H (.int .i64 p.1) p.2 := by
  refine callSim (fn := Try.f84) (ret := ret84) Try.func84 rfl Try.ntmps84 rfl ?_ h
  unfold r84
  refine f_seq ?_
  refine f_region ?_
  refine f_op rfl rfl (s_as (v := .int .i64 0) rfl) ?_
  refine f_nil ?_
  refine f_seq ?_
  refine f_region ?_
  refine f_op rfl rfl (s_mv (v := .int .i64 a0) rfl) ?_
  refine o_bind ?_; intro p1 hp1
  refine f_op rfl rfl (s_callO rfl ok107 (sim107 hp1) rfl rfl) ?_
  refine f_op rfl rfl (s_as (v := .bool p1.1) rfl) ?_
  refine f_nil ?_
  refine f_seq ?_
  refine f_region ?_
  refine f_op rfl rfl (s_mv (v := .int .i64 a1) rfl) ?_
  refine o_bind ?_; intro p2 hp2
  refine f_op rfl rfl (s_callO rfl ok107 (sim107 hp2) rfl rfl) ?_
  refine f_op rfl rfl (s_as (v := .bool p2.1) rfl) ?_
  refine f_nil ?_
  refine f_seq ?_
  refine f_seq ?_
  refine f_region ?_
  refine f_op rfl rfl (s_mv (v := .bool p1.1) rfl) ?_
  refine f_nil ?_
  refine f_if (fun h3 => ?_) (fun h3 => ?_)
  · skip
    refine f_know 11 rfl (bool_T h3) ?_
    refine f_condT rfl ?_
    refine f_seq ?_
    refine f_seq ?_
    refine f_region ?_
    refine f_op rfl rfl (s_mv (v := .bool p2.1) rfl) ?_
    refine f_nil ?_
    refine f_if (fun h4 => ?_) (fun h4 => ?_)
    · skip
      refine f_know 12 rfl (bool_T h4) ?_
      refine f_condT rfl ?_
      refine f_seq ?_
      refine f_region ?_
      refine f_op rfl rfl (s_as (v := .int .i64 0) rfl) ?_
      refine f_nil ?_
      exact f_ret (.tmp rfl (.nil)) rfl
    · skip
      refine f_know 12 rfl (bool_F h4) ?_
      refine f_condF rfl ?_
      refine f_skip ?_
      refine f_seq ?_
      refine f_region ?_
      refine f_op rfl rfl (s_as (v := .int .i64 (-1)) rfl) ?_
      refine f_nil ?_
      exact f_ret (.tmp rfl (.nil)) rfl
  · skip
    refine f_know 11 rfl (bool_F h3) ?_
    refine f_condF rfl ?_
    refine f_skip ?_
    refine f_seq ?_
    refine f_seq ?_
    refine f_region ?_
    refine f_op rfl rfl (s_mv (v := .bool p2.1) rfl) ?_
    refine f_nil ?_
    refine f_if (fun h5 => ?_) (fun h5 => ?_)
    · skip
      refine f_know 13 rfl (bool_T h5) ?_
      refine f_condT rfl ?_
      refine f_seq ?_
      refine f_region ?_
      refine f_op rfl rfl (s_as (v := .int .i64 1) rfl) ?_
      refine f_nil ?_
      exact f_ret (.tmp rfl (.nil)) rfl
    · skip
      refine f_know 13 rfl (bool_F h5) ?_
      refine f_condF rfl ?_
      refine f_skip ?_
      refine f_seq ?_
      refine f_seq ?_
      refine f_region ?_
      refine f_op rfl rfl (s_mv (v := .int .i64 a0) rfl) ?_
      refine f_op rfl rfl (s_mv (v := .int .i64 a1) rfl) ?_
      refine f_op rfl rfl (s_lss rfl rfl) ?_
      refine f_nil ?_
      refine f_if (fun h6 => ?_) (fun h6 => ?_)
      · skip
        refine f_know 16 rfl (dec_true h6) ?_
        refine f_condT rfl ?_
        refine f_seq ?_
        refine f_region ?_
        refine f_op rfl rfl (s_as (v := .int .i64 (-1)) rfl) ?_
        refine f_nil ?_
        exact f_ret (.tmp rfl (.nil)) rfl
      · skip
        refine f_know 16 rfl (dec_false h6) ?_
        refine f_condF rfl ?_
        refine f_skip ?_
        refine f_seq ?_
        refine f_seq ?_
        refine f_region ?_
        refine f_op rfl rfl (s_mv (v := .int .i64 a0) rfl) ?_
        refine f_op rfl rfl (s_mv (v := .int .i64 a1) rfl) ?_
        refine f_op rfl rfl (s_gtr rfl rfl) ?_
        refine f_nil ?_
        refine f_if (fun h7 => ?_) (fun h7 => ?_)
        · skip
          refine f_know 19 rfl (dec_true h7) ?_
          refine f_condT rfl ?_
          refine f_seq ?_
          refine f_region ?_
          refine f_op rfl rfl (s_as (v := .int .i64 1) rfl) ?_
          refine f_nil ?_
          exact f_ret (.tmp rfl (.nil)) rfl
        · skip
          refine f_know 19 rfl (dec_false h7) ?_
          refine f_condF rfl ?_
          refine f_skip ?_
          refine f_seq ?_
          refine f_region ?_
          refine f_op rfl rfl (s_as (v := .int .i64 0) rfl) ?_
          refine f_nil ?_
          exact f_ret (.tmp rfl (.nil)) rfl

end Go.Lt.P2
