/- PRINTED BY A PROGRAM OF OURS: what each function that 'CutsWithin' reaches computes on the abstract heap, and that the translated code does just that. Nothing is asked of the input. -/
import Derived.Test.YteefkljbmjjncaaG9P0
set_option linter.unusedVariables false
set_option linter.unusedSimpArgs false
set_option maxRecDepth 100000
set_option maxHeartbeats 4000000
namespace Go.Lt.P2
open Go Go.Lt Go.Proofs
/- 63 (congou/cuts.plate).valid -/
theorem ok63 : FnOk Try.prog 63 := ⟨⟨Try.f63, Try.func63, by kernel_rfl, rfl⟩⟩
theorem s63_j2 {app : App} (happ : AppSim Try.prog app) (kt1 : Sl → Sl → Int → Int → Hp → Option (Bool × Hp)) (hkt1 : ∀ (v1 : Sl) (v2 : Sl) (v3 : Int) (v4 : Int) (H : Hp), Fin Try.prog Try.f63 ret63 78 (todoAt (bodyOf Try.f63) [1, 1, 0, 1, 0, 0] []) [(0, .sl v1), (17, .sl v2), (18, .int .i64 v3), (19, .int .i64 v4)] H (kt1 v1 v2 v3 v4 H)) (v1 : Sl) (v2 : Sl) (v3 : Int) (v4 : Int) (v5 : Bool) (H : Hp) : Fin Try.prog Try.f63 ret63 78 (todoAt (bodyOf Try.f63) [1, 1, 0, 1, 0, 0, 1, 1, 0, 0, 1, 1] []) [(0, .sl v1), (17, .sl v2), (18, .int .i64 v3), (19, .int .i64 v4), (46, .bool v5)] H (r63_j2 app kt1 v1 v2 v3 v4 v5 H) := by
  unfold r63_j2
  refine f_if (fun h1 => ?_) (fun h1 => ?_)
  · skip
    refine f_know 46 rfl (bool_T h1) ?_
    refine f_condT rfl ?_
    refine f_seq ?_
    refine f_region ?_
    refine f_op rfl rfl (s_as (v := .bool false) rfl) ?_
    refine f_nil ?_
    exact f_ret (.tmp rfl (.nil)) rfl
  · skip
    refine f_know 46 rfl (bool_F h1) ?_
    refine f_condF rfl ?_
    refine f_skip ?_
    refine f_inBlock ?_
    refine f_region ?_
    refine f_op rfl rfl (s_add rfl rfl) ?_
    refine f_op rfl rfl (s_mv (v := .int .i64 (w64 (v4 + 1))) rfl) ?_
    refine f_nil ?_
    refine f_inLoop ?_
    refine f_keep [0, 17, 18, 19] ?_
    exact hkt1 v1 v2 v3 (w64 (v4 + 1)) H

theorem s63_l4 {app : App} (happ : AppSim Try.prog app) (kt3 : Sl → Sl → Int → Int → Hp → Option (Bool × Hp)) (hkt3 : ∀ (v1 : Sl) (v2 : Sl) (v3 : Int) (v4 : Int) (H : Hp), Fin Try.prog Try.f63 ret63 78 (todoAt (bodyOf Try.f63) [1, 1, 1, 0, 1, 0, 0] []) [(0, .sl v1), (48, .sl v2), (49, .int .i64 v3), (50, .int .i64 v4)] H (kt3 v1 v2 v3 v4 H)) : ∀ (k_ : Nat) (v1 : Sl) (v2 : Sl) (v3 : Int) (v4 : Int) (v5 : Sl) (v6 : Int) (v7 : Int) (H : Hp), Fin Try.prog Try.f63 ret63 78 (todoAt (bodyOf Try.f63) [1, 1, 1, 0, 1, 0, 0, 1, 1, 0, 0, 1, 1, 0, 0] []) [(0, .sl v1), (48, .sl v2), (49, .int .i64 v3), (50, .int .i64 v4), (66, .sl v5), (67, .int .i64 v6), (68, .int .i64 v7)] H (r63_l4 app kt3 k_ v1 v2 v3 v4 v5 v6 v7 H) := by
  intro k_
  induction k_ with
  | zero => intro _ _ _ _ _ _ _ _; exact f_none
  | succ k_ ih =>
    intro v1 v2 v3 v4 v5 v6 v7 H
    rw [r63_l4]
    refine f_seq ?_
    refine f_region ?_
    refine f_op rfl rfl (s_lss rfl rfl) ?_
    refine f_nil ?_
    refine f_seq ?_
    refine f_if (fun h1 => ?_) (fun h1 => ?_)
    · skip
      refine f_know 69 rfl (dec_true h1) ?_
      refine f_condT rfl ?_
      refine f_skip ?_
      refine f_seq ?_
      refine f_block ?_
      refine f_seq ?_
      refine f_region ?_
      refine o_ck fun g2 => ?_
      refine f_op rfl rfl (s_idx Try.underlying37 ty43 rfl rfl g2) ?_
      refine o_bind ?_; intro x3 hx3
      refine o_bind ?_; intro x4 hx4
      refine f_op rfl rfl (s_loads Try.underlying43 rfl ty43 rfl (lds_cons (ldI_eq hx3) (lds_cons (ldI_eq hx4) (lds_nil)))) ?_
      refine f_op rfl rfl (s_alloc (zs := [.int .i64 0, .int .i64 0]) ty43 rfl rfl) ?_
      refine o_bind ?_; intro H5 hH5
      refine f_op rfl rfl (s_stores ty43 rfl rfl rfl rfl hH5 (Nat.le_of_eq (sts_mono hH5).symm)) ?_
      refine f_nil ?_
      refine f_seq ?_
      refine f_region ?_
      refine f_op rfl rfl (s_mv (v := .sl v1) rfl) ?_
      refine f_op rfl rfl (s_makeFunc rfl rfl) ?_
      refine o_bind ?_; intro p6 hp6
      refine f_op rfl rfl (s_callF rfl ok92 (sim92 happ hp6)) ?_
      refine f_op rfl rfl (s_not rfl) ?_
      refine f_nil ?_
      refine f_if (fun h7 => ?_) (fun h7 => ?_)
      · skip
        refine f_know 75 rfl (bool_notT h7) ?_
        refine f_condF rfl ?_
        refine f_skip ?_
        refine f_inBlock ?_
        refine f_region ?_
        refine f_op rfl rfl (s_add rfl rfl) ?_
        refine f_op rfl rfl (s_mv (v := .int .i64 (w64 (v7 + 1))) rfl) ?_
        refine f_nil ?_
        refine f_inLoop ?_
        refine f_keep [0, 48, 49, 50, 66, 67, 68] ?_
        exact ih v1 v2 v3 v4 v5 v6 (w64 (v7 + 1)) p6.2
      · skip
        refine f_know 75 rfl (bool_notF h7) ?_
        refine f_condT rfl ?_
        refine f_seq ?_
        refine f_region ?_
        refine f_op rfl rfl (s_as (v := .bool false) rfl) ?_
        refine f_nil ?_
        exact f_ret (.tmp rfl (.nil)) rfl
    · skip
      refine f_know 69 rfl (dec_false h1) ?_
      refine f_condF rfl ?_
      refine f_exit rfl ?_
      refine f_inBlock ?_
      refine f_region ?_
      refine f_op rfl rfl (s_add rfl rfl) ?_
      refine f_op rfl rfl (s_mv (v := .int .i64 (w64 (v4 + 1))) rfl) ?_
      refine f_nil ?_
      refine f_inLoop ?_
      refine f_keep [0, 48, 49, 50] ?_
      exact hkt3 v1 v2 v3 (w64 (v4 + 1)) H

theorem s63_l3 {app : App} (happ : AppSim Try.prog app) : ∀ (k_ : Nat) (v1 : Sl) (v2 : Sl) (v3 : Int) (v4 : Int) (H : Hp), Fin Try.prog Try.f63 ret63 78 (todoAt (bodyOf Try.f63) [1, 1, 1, 0, 1, 0, 0] []) [(0, .sl v1), (48, .sl v2), (49, .int .i64 v3), (50, .int .i64 v4)] H (r63_l3 app k_ v1 v2 v3 v4 H) := by
  intro k_
  induction k_ with
  | zero => intro _ _ _ _ _; exact f_none
  | succ k_ ih =>
    intro v1 v2 v3 v4 H
    rw [r63_l3]
    refine f_seq ?_
    refine f_region ?_
    refine f_op rfl rfl (s_lss rfl rfl) ?_
    refine f_nil ?_
    refine f_seq ?_
    refine f_if (fun h1 => ?_) (fun h1 => ?_)
    · skip
      refine f_know 51 rfl (dec_true h1) ?_
      refine f_condT rfl ?_
      refine f_skip ?_
      refine f_seq ?_
      refine f_block ?_
      refine f_seq ?_
      refine f_region ?_
      refine o_ck fun g2 => ?_
      refine f_op rfl rfl (s_idx Try.underlying100 ty47 rfl rfl g2) ?_
      refine o_bind ?_; intro x3 hx3
      refine o_bind ?_; intro x4 hx4
      refine o_bind ?_; intro x5 hx5
      refine f_op rfl rfl (s_loads Try.underlying47 rfl ty47 rfl (lds_cons (ldI_eq hx3) (lds_cons (ldI_eq hx4) (lds_cons (ldI_eq hx5) (lds_nil))))) ?_
      refine f_op rfl rfl (s_alloc (zs := [.int .i64 0, .int .i64 0, .int .i64 0]) ty47 rfl rfl) ?_
      refine o_bind ?_; intro H6 hH6
      refine f_op rfl rfl (s_stores ty47 rfl rfl rfl rfl hH6 (Nat.le_of_eq (sts_mono hH6).symm)) ?_
      refine f_nil ?_
      refine f_seq ?_
      refine f_region ?_
      refine f_op rfl rfl (s_fieldAddr Try.underlying47 rfl ty3 rfl) ?_
      refine o_bind ?_; intro x7 hx7
      refine f_op rfl rfl (s_load Try.underlying3 rfl rfl (ldI_eq hx7)) ?_
      refine f_op rfl rfl (s_neg rfl) ?_
      refine f_op rfl rfl (s_fieldAddr Try.underlying47 rfl ty3 rfl) ?_
      refine o_bind ?_; intro x8 hx8
      refine f_op rfl rfl (s_load Try.underlying3 rfl rfl (ldI_eq hx8)) ?_
      refine f_op rfl rfl (s_buildA (cs := [.int .i64 (w64 (0 - x7)), .int .i64 x8]) Try.underlying43 ty43 ty3 rfl rfl) ?_
      refine f_op rfl rfl (s_fieldAddr Try.underlying47 rfl ty3 rfl) ?_
      refine o_bind ?_; intro x9 hx9
      refine f_op rfl rfl (s_load Try.underlying3 rfl rfl (ldI_eq hx9)) ?_
      refine f_op rfl rfl (s_fieldAddr Try.underlying47 rfl ty3 rfl) ?_
      refine o_bind ?_; intro x10 hx10
      refine f_op rfl rfl (s_load Try.underlying3 rfl rfl (ldI_eq hx10)) ?_
      refine f_op rfl rfl (s_neg rfl) ?_
      refine f_op rfl rfl (s_buildA (cs := [.int .i64 x9, .int .i64 (w64 (0 - x10))]) Try.underlying43 ty43 ty3 rfl rfl) ?_
      refine f_op rfl rfl (s_buildSlice (cs := [.int .i64 (w64 (0 - x7)), .int .i64 x8, .int .i64 x9, .int .i64 (w64 (0 - x10))]) Try.underlying37 ty43 (by decide) (by decide) rfl (by decide) rfl) ?_
      refine f_op rfl rfl (s_lenS rfl Try.underlying37 rfl) ?_
      refine f_op rfl rfl (s_mv (v := .int .i64 0) rfl) ?_
      refine o_hp ?_; intro H11 hH11
      refine f_nil ?_
      refine f_block ?_
      refine f_loop ?_
      refine f_keep [0, 48, 49, 50, 66, 67, 68] ?_
      exact s63_l4 happ _ (fun v1_ v2_ v3_ v4_ H_ => ih v1_ v2_ v3_ v4_ H_) FUEL v1 v2 v3 v4 ⟨false, H6.n, 0, 2, 2, 0⟩ ((⟨false, H6.n, 0, 2, 2, 0⟩ : Sl).len : Int) 0 H11
    · skip
      refine f_know 51 rfl (dec_false h1) ?_
      refine f_condF rfl ?_
      refine f_exit rfl ?_
      refine f_seq ?_
      refine f_region ?_
      refine f_op rfl rfl (s_as (v := .bool true) rfl) ?_
      refine f_nil ?_
      exact f_ret (.tmp rfl (.nil)) rfl

theorem s63_l1 {app : App} (happ : AppSim Try.prog app) : ∀ (k_ : Nat) (v1 : Sl) (v2 : Sl) (v3 : Int) (v4 : Int) (H : Hp), Fin Try.prog Try.f63 ret63 78 (todoAt (bodyOf Try.f63) [1, 1, 0, 1, 0, 0] []) [(0, .sl v1), (17, .sl v2), (18, .int .i64 v3), (19, .int .i64 v4)] H (r63_l1 app k_ v1 v2 v3 v4 H) := by
  intro k_
  induction k_ with
  | zero => intro _ _ _ _ _; exact f_none
  | succ k_ ih =>
    intro v1 v2 v3 v4 H
    rw [r63_l1]
    refine f_seq ?_
    refine f_region ?_
    refine f_op rfl rfl (s_lss rfl rfl) ?_
    refine f_nil ?_
    refine f_seq ?_
    refine f_if (fun h1 => ?_) (fun h1 => ?_)
    · skip
      refine f_know 20 rfl (dec_true h1) ?_
      refine f_condT rfl ?_
      refine f_skip ?_
      refine f_seq ?_
      refine f_block ?_
      refine f_seq ?_
      refine f_region ?_
      refine o_ck fun g2 => ?_
      refine f_op rfl rfl (s_idx Try.underlying100 ty47 rfl rfl g2) ?_
      refine o_bind ?_; intro x3 hx3
      refine o_bind ?_; intro x4 hx4
      refine o_bind ?_; intro x5 hx5
      refine f_op rfl rfl (s_loads Try.underlying47 rfl ty47 rfl (lds_cons (ldI_eq hx3) (lds_cons (ldI_eq hx4) (lds_cons (ldI_eq hx5) (lds_nil))))) ?_
      refine f_op rfl rfl (s_alloc (zs := [.int .i64 0, .int .i64 0, .int .i64 0]) ty47 rfl rfl) ?_
      refine o_bind ?_; intro H6 hH6
      refine f_op rfl rfl (s_stores ty47 rfl rfl rfl rfl hH6 (Nat.le_of_eq (sts_mono hH6).symm)) ?_
      refine f_nil ?_
      refine f_seq ?_
      refine f_region ?_
      refine f_op rfl rfl (s_fieldAddr Try.underlying47 rfl ty3 rfl) ?_
      refine o_bind ?_; intro x7 hx7
      refine f_op rfl rfl (s_load Try.underlying3 rfl rfl (ldI_eq hx7)) ?_
      refine f_op rfl rfl (s_eql rfl rfl) ?_
      refine f_op rfl rfl (s_mv (v := .bool (decide (x7 = 0))) rfl) ?_
      refine o_if (fun h8 => ?_) (fun h8 => ?_)
      · skip
        refine o_know 26 rfl (dec_true h8) ?_
        refine f_op rfl rfl (s_fieldAddr Try.underlying47 rfl ty3 rfl) ?_
        refine o_bind ?_; intro x9 hx9
        refine f_op rfl rfl (s_load Try.underlying3 rfl rfl (ldI_eq hx9)) ?_
        refine f_op rfl rfl (s_eql rfl rfl) ?_
        refine f_op rfl rfl (s_pickT (v := .bool (decide (x9 = 0))) rfl rfl) ?_
        refine f_op rfl rfl (s_mv (v := .bool (decide (x9 = 0))) rfl) ?_
        refine o_if (fun h10 => ?_) (fun h10 => ?_)
        · skip
          refine o_know 31 rfl (dec_true h10) ?_
          refine f_no rfl rfl ?_
          refine f_no rfl rfl ?_
          refine f_no rfl rfl ?_
          refine f_no rfl rfl ?_
          refine f_no rfl rfl ?_
          refine f_no rfl rfl ?_
          refine f_no rfl rfl ?_
          refine f_op rfl rfl (s_pickT (v := .bool true) rfl rfl) ?_
          refine f_op rfl rfl (s_mv (v := .bool true) rfl) ?_
          refine f_no rfl rfl ?_
          refine f_no rfl rfl ?_
          refine f_no rfl rfl ?_
          refine f_no rfl rfl ?_
          refine f_no rfl rfl ?_
          refine f_op rfl rfl (s_pickT (v := .bool true) rfl rfl) ?_
          refine f_nil ?_
          refine f_keep [0, 17, 18, 19, 46] ?_
          exact s63_j2 happ _ (fun v1_ v2_ v3_ v4_ H_ => ih v1_ v2_ v3_ v4_ H_) v1 v2 v3 v4 true H6
        · skip
          refine o_know 31 rfl (dec_false h10) ?_
          refine f_op rfl rfl (s_fieldAddr Try.underlying47 rfl ty3 rfl) ?_
          refine o_bind ?_; intro x11 hx11
          refine f_op rfl rfl (s_load Try.underlying3 rfl rfl (ldI_eq hx11)) ?_
          refine f_op rfl rfl (s_fieldAddr Try.underlying47 rfl ty3 rfl) ?_
          refine o_bind ?_; intro x12 hx12
          refine f_op rfl rfl (s_load Try.underlying3 rfl rfl (ldI_eq hx12)) ?_
          refine f_op rfl rfl (s_buildSlice (cs := [.int .i64 x11, .int .i64 x12]) Try.underlying76 ty3 (by decide) (by decide) rfl (by decide) rfl) ?_
          refine o_bind ?_; intro p13 hp13
          refine f_op rfl rfl (s_callF rfl ok79 (sim79 happ hp13)) ?_
          refine f_op rfl rfl (s_not rfl) ?_
          refine f_op rfl rfl (s_pickF (v := .bool (!p13.1)) rfl rfl) ?_
          refine f_op rfl rfl (s_mv (v := .bool (!p13.1)) rfl) ?_
          refine o_if (fun h14 => ?_) (fun h14 => ?_)
          · skip
            refine o_know 40 rfl (bool_notT h14) ?_
            refine f_op rfl rfl (s_fieldAddr Try.underlying47 rfl ty3 rfl) ?_
            refine o_bind ?_; intro x15 hx15
            refine f_op rfl rfl (s_load Try.underlying3 rfl rfl (ldI_eq hx15)) ?_
            refine f_op rfl rfl (s_buildSlice (cs := [.int .i64 x15]) Try.underlying76 ty3 (by decide) (by decide) rfl (by decide) rfl) ?_
            refine o_bind ?_; intro p16 hp16
            refine f_op rfl rfl (s_callF rfl ok79 (sim79 happ hp16)) ?_
            refine f_op rfl rfl (s_not rfl) ?_
            refine f_op rfl rfl (s_pickF (v := .bool (!p16.1)) rfl rfl) ?_
            refine f_nil ?_
            refine f_keep [0, 17, 18, 19, 46] ?_
            exact s63_j2 happ _ (fun v1_ v2_ v3_ v4_ H_ => ih v1_ v2_ v3_ v4_ H_) v1 v2 v3 v4 (!p16.1) p16.2
          · skip
            refine o_know 40 rfl (bool_notF h14) ?_
            refine f_no rfl rfl ?_
            refine f_no rfl rfl ?_
            refine f_no rfl rfl ?_
            refine f_no rfl rfl ?_
            refine f_no rfl rfl ?_
            refine f_op rfl rfl (s_pickT (v := .bool true) rfl rfl) ?_
            refine f_nil ?_
            refine f_keep [0, 17, 18, 19, 46] ?_
            exact s63_j2 happ _ (fun v1_ v2_ v3_ v4_ H_ => ih v1_ v2_ v3_ v4_ H_) v1 v2 v3 v4 true p13.2
      · skip
        refine o_know 26 rfl (dec_false h8) ?_
        refine f_no rfl rfl ?_
        refine f_no rfl rfl ?_
        refine f_no rfl rfl ?_
        refine f_op rfl rfl (s_pickF (v := .bool false) rfl rfl) ?_
        refine f_op rfl rfl (s_mv (v := .bool false) rfl) ?_
        refine f_op rfl rfl (s_fieldAddr Try.underlying47 rfl ty3 rfl) ?_
        refine o_bind ?_; intro x17 hx17
        refine f_op rfl rfl (s_load Try.underlying3 rfl rfl (ldI_eq hx17)) ?_
        refine f_op rfl rfl (s_fieldAddr Try.underlying47 rfl ty3 rfl) ?_
        refine o_bind ?_; intro x18 hx18
        refine f_op rfl rfl (s_load Try.underlying3 rfl rfl (ldI_eq hx18)) ?_
        refine f_op rfl rfl (s_buildSlice (cs := [.int .i64 x17, .int .i64 x18]) Try.underlying76 ty3 (by decide) (by decide) rfl (by decide) rfl) ?_
        refine o_bind ?_; intro p19 hp19
        refine f_op rfl rfl (s_callF rfl ok79 (sim79 happ hp19)) ?_
        refine f_op rfl rfl (s_not rfl) ?_
        refine f_op rfl rfl (s_pickF (v := .bool (!p19.1)) rfl rfl) ?_
        refine f_op rfl rfl (s_mv (v := .bool (!p19.1)) rfl) ?_
        refine o_if (fun h20 => ?_) (fun h20 => ?_)
        · skip
          refine o_know 40 rfl (bool_notT h20) ?_
          refine f_op rfl rfl (s_fieldAddr Try.underlying47 rfl ty3 rfl) ?_
          refine o_bind ?_; intro x21 hx21
          refine f_op rfl rfl (s_load Try.underlying3 rfl rfl (ldI_eq hx21)) ?_
          refine f_op rfl rfl (s_buildSlice (cs := [.int .i64 x21]) Try.underlying76 ty3 (by decide) (by decide) rfl (by decide) rfl) ?_
          refine o_bind ?_; intro p22 hp22
          refine f_op rfl rfl (s_callF rfl ok79 (sim79 happ hp22)) ?_
          refine f_op rfl rfl (s_not rfl) ?_
          refine f_op rfl rfl (s_pickF (v := .bool (!p22.1)) rfl rfl) ?_
          refine f_nil ?_
          refine f_keep [0, 17, 18, 19, 46] ?_
          exact s63_j2 happ _ (fun v1_ v2_ v3_ v4_ H_ => ih v1_ v2_ v3_ v4_ H_) v1 v2 v3 v4 (!p22.1) p22.2
        · skip
          refine o_know 40 rfl (bool_notF h20) ?_
          refine f_no rfl rfl ?_
          refine f_no rfl rfl ?_
          refine f_no rfl rfl ?_
          refine f_no rfl rfl ?_
          refine f_no rfl rfl ?_
          refine f_op rfl rfl (s_pickT (v := .bool true) rfl rfl) ?_
          refine f_nil ?_
          refine f_keep [0, 17, 18, 19, 46] ?_
          exact s63_j2 happ _ (fun v1_ v2_ v3_ v4_ H_ => ih v1_ v2_ v3_ v4_ H_) v1 v2 v3 v4 true p19.2
    · skip
      refine f_know 20 rfl (dec_false h1) ?_
      refine f_condF rfl ?_
      refine f_exit rfl ?_
      refine f_seq ?_
      refine f_seq ?_
      refine f_region ?_
      refine f_op rfl rfl (s_mv (v := .sl v1) rfl) ?_
      refine f_op rfl rfl (s_lenS rfl Try.underlying100 rfl) ?_
      refine f_op rfl rfl (s_mv (v := .int .i64 0) rfl) ?_
      refine f_nil ?_
      refine f_block ?_
      refine f_loop ?_
      refine f_keep [0, 48, 49, 50] ?_
      exact s63_l3 happ FUEL v1 v1 (v1.len : Int) 0 H

theorem s63_j0 {app : App} (happ : AppSim Try.prog app) (v1 : Sl) (v2 : Bool) (H : Hp) : Fin Try.prog Try.f63 ret63 78 (todoAt (bodyOf Try.f63) [1, 0, 1] []) [(0, .sl v1), (16, .bool v2)] H (r63_j0 app v1 v2 H) := by
  unfold r63_j0
  refine f_if (fun h1 => ?_) (fun h1 => ?_)
  · skip
    refine f_know 16 rfl (bool_T h1) ?_
    refine f_condT rfl ?_
    refine f_seq ?_
    refine f_region ?_
    refine f_op rfl rfl (s_as (v := .bool false) rfl) ?_
    refine f_nil ?_
    exact f_ret (.tmp rfl (.nil)) rfl
  · skip
    refine f_know 16 rfl (bool_F h1) ?_
    refine f_condF rfl ?_
    refine f_skip ?_
    refine f_seq ?_
    refine f_seq ?_
    refine f_region ?_
    refine f_op rfl rfl (s_mv (v := .sl v1) rfl) ?_
    refine f_op rfl rfl (s_lenS rfl Try.underlying100 rfl) ?_
    refine f_op rfl rfl (s_mv (v := .int .i64 0) rfl) ?_
    refine f_nil ?_
    refine f_block ?_
    refine f_loop ?_
    refine f_keep [0, 17, 18, 19] ?_
    exact s63_l1 happ FUEL v1 v1 (v1.len : Int) 0 H

theorem sim63 {app : App} (happ : AppSim Try.prog app) {a0 : Sl} {H : Hp} {p : Bool × Hp} (h : r63 app a0 H = some p) : CallSim Try.prog 63 [.sl a0] H (.bool p.1) p.2 := by
  refine callSim (fn := Try.f63) (ret := ret63) Try.func63 rfl Try.ntmps63 rfl ?_ h
  unfold r63
  refine f_seq ?_
  refine f_region ?_
  refine f_op rfl rfl (s_as (v := .bool false) rfl) ?_
  refine f_nil ?_
  refine f_seq ?_
  refine f_seq ?_
  refine f_region ?_
  refine f_op rfl rfl (s_mv (v := .sl a0) rfl) ?_
  refine f_op rfl rfl (s_lenS rfl Try.underlying100 rfl) ?_
  refine f_op rfl rfl (s_lss rfl rfl) ?_
  refine f_op rfl rfl (s_mv (v := .bool (decide ((a0.len : Int) < 3))) rfl) ?_
  refine o_if (fun h1 => ?_) (fun h1 => ?_)
  · skip
    refine o_know 12 rfl (dec_true h1) ?_
    refine f_no rfl rfl ?_
    refine f_no rfl rfl ?_
    refine f_no rfl rfl ?_
    refine f_op rfl rfl (s_pickT (v := .bool true) rfl rfl) ?_
    refine f_nil ?_
    refine f_keep [0, 16] ?_
    exact s63_j0 happ a0 true H
  · skip
    refine o_know 12 rfl (dec_false h1) ?_
    refine f_op rfl rfl (s_mv (v := .sl a0) rfl) ?_
    refine f_op rfl rfl (s_lenS rfl Try.underlying100 rfl) ?_
    refine f_op rfl rfl (s_gtr rfl rfl) ?_
    refine f_op rfl rfl (s_pickF (v := .bool (decide (6 < (a0.len : Int)))) rfl rfl) ?_
    refine f_nil ?_
    refine f_keep [0, 16] ?_
    exact s63_j0 happ a0 (decide (6 < (a0.len : Int))) H

/- 65 (congou/cuts.plate).has -/
theorem ok65 : FnOk Try.prog 65 := ⟨⟨Try.f65, Try.func65, by kernel_rfl, rfl⟩⟩
theorem sim65 {app : App} (happ : AppSim Try.prog app) {a0 : Sl} {a1_0 : Int} {a1_1 : Int} {a1_2 : Int} {a1_3 : Int} {H : Hp} {p : Bool × Hp} (h : r65 app a0 a1_0 a1_1 a1_2 a1_3 H = some p) : CallSim Try.prog 65 [.sl a0, .agg [.int .i64 a1_0, .int .i64 a1_1, .int .i64 a1_2, .int .i64 a1_3]] H (.bool p.1) p.2 := by
  refine callSim (fn := Try.f65) (ret := ret65) Try.func65 rfl Try.ntmps65 rfl ?_ h
  unfold r65
  refine f_seq ?_
  refine f_region ?_
  refine f_op rfl rfl (s_box (v := .agg [.int .i64 a1_0, .int .i64 a1_1, .int .i64 a1_2, .int .i64 a1_3]) rfl rfl) ?_
  refine f_op rfl rfl (s_as (v := .bool false) rfl) ?_
  refine o_hp ?_; intro H1 hH1
  refine f_nil ?_
  refine f_seq ?_
  refine f_region ?_
  refine f_op rfl rfl (s_mv (v := .sl a0) rfl) ?_
  refine f_op rfl rfl (s_makeFunc rfl rfl) ?_
  refine o_bind ?_; intro p2 hp2
  refine f_op rfl rfl (s_callF rfl ok92 (sim92 happ hp2)) ?_
  refine f_op rfl rfl (s_not rfl) ?_
  refine f_op rfl rfl (s_as (v := .bool (!p2.1)) rfl) ?_
  refine f_nil ?_
  exact f_ret (.tmp rfl (.nil)) rfl

/- 94 congou/cuts.gcd -/
theorem ok94 : FnOk Try.prog 94 := ⟨⟨Try.f94, Try.func94, by kernel_rfl, rfl⟩⟩
theorem s94_l0 : ∀ (k_ : Nat) (v1 : Int) (v2 : Int) (H : Hp), Fin Try.prog Try.f94 ret94 15 (todoAt (bodyOf Try.f94) [1, 0, 0, 0] []) [(0, .int .i64 v1), (1, .int .i64 v2)] H (r94_l0 k_ v1 v2 H) := by
  intro k_
  induction k_ with
  | zero => intro _ _ _; exact f_none
  | succ k_ ih =>
    intro v1 v2 H
    rw [r94_l0]
    refine f_seq ?_
    refine f_seq ?_
    refine f_region ?_
    refine f_op rfl rfl (s_mv (v := .int .i64 v2) rfl) ?_
    refine f_op rfl rfl (s_neq rfl rfl) ?_
    refine f_nil ?_
    refine f_if (fun h1 => ?_) (fun h1 => ?_)
    · skip
      refine f_know 6 rfl (dec_true h1) ?_
      refine f_condT rfl ?_
      refine f_skip ?_
      refine f_block ?_
      refine f_ck fun g2 => ?_
      refine f_draw (Φ := fun _ => True) (lim := 1000000) [0, 0, 0, 0, 0, 0] (Trc.pure rfl rfl rfl (.inl fun _ => s_mv (v := .int .i64 v2) rfl) (Trc.pure rfl rfl rfl (.inl fun _ => s_mv (v := .int .i64 v1) rfl) (Trc.pure rfl rfl rfl (.inl fun _ => s_mv (v := .int .i64 v2) rfl) (Trc.pure rfl rfl rfl (.inl fun _ => s_rem rfl rfl g2) (Trc.pure rfl rfl rfl (.inl fun _ => s_as (v := .int .i64 v2) rfl) (Trc.pure rfl rfl rfl (.inl fun _ => s_as (v := .int .i64 (Int.tmod v1 v2)) rfl) (Trc.nil (fun _ => trivial)))))))) rfl (by decide +kernel) mixed ?_
      refine f_inBlock ?_
      refine f_inLoop ?_
      refine f_keep [0, 1] ?_
      exact ih v2 (Int.tmod v1 v2) H
    · skip
      refine f_know 6 rfl (dec_false h1) ?_
      refine f_condF rfl ?_
      refine f_exit rfl ?_
      refine f_seq ?_
      refine f_region ?_
      refine f_op rfl rfl (s_mv (v := .int .i64 v1) rfl) ?_
      refine f_op rfl rfl (s_mv (v := .int .i64 v1) rfl) ?_
      refine f_op rfl rfl (s_neg rfl) ?_
      refine f_op rfl rfl (s_max2 rfl rfl) ?_
      refine f_op rfl rfl (s_as (v := .int .i64 (if v1 < (w64 (0 - v1)) then (w64 (0 - v1)) else v1)) rfl) ?_
      refine f_nil ?_
      exact f_ret (.tmp rfl (.nil)) rfl

theorem sim94 {a0 : Int} {a1 : Int} {H : Hp} {p : Int × Hp} (h : r94 a0 a1 H = some p) : CallSim Try.prog 94 [.int .i64 a0, .int .i64 a1] H (.int .i64 p.1) p.2 := by
  refine callSim (fn := Try.f94) (ret := ret94) Try.func94 rfl Try.ntmps94 rfl ?_ h
  unfold r94
  refine f_seq ?_
  refine f_region ?_
  refine f_op rfl rfl (s_as (v := .int .i64 0) rfl) ?_
  refine f_nil ?_
  refine f_seq ?_
  refine f_block ?_
  refine f_loop ?_
  refine f_keep [0, 1] ?_
  exact s94_l0 FUEL a0 a1 H

/- 100 congou/cuts.frac -/
theorem ok100 : FnOk Try.prog 100 := ⟨⟨Try.f100, Try.func100, by kernel_rfl, rfl⟩⟩
theorem s100_j0 (v1 : Int) (v2 : Int) (v3 : Nat) (H : Hp) : Fin Try.prog Try.f100 ret100 22 (todoAt (bodyOf Try.f100) [1, 1] []) [(0, .int .i64 v1), (1, .int .i64 v2), (4, .ptr v3 0)] H (r100_j0 v1 v2 v3 H) := by
  unfold r100_j0
  refine f_seq ?_
  refine f_region ?_
  refine f_op rfl rfl (s_mv (v := .int .i64 v1) rfl) ?_
  refine f_op rfl rfl (s_mv (v := .int .i64 v2) rfl) ?_
  refine o_bind ?_; intro p1 hp1
  refine f_op rfl rfl (s_callO rfl ok94 (sim94 hp1) rfl rfl) ?_
  refine f_op rfl rfl (s_as (v := .int .i64 p1.1) rfl) ?_
  refine f_nil ?_
  refine f_seq ?_
  refine f_ck fun g2 => ?_
  refine f_ck fun g3 => ?_
  refine f_bind ?_; intro H4 hH4
  refine f_draw (Φ := fun _ => True) (lim := 1000000) [0, 0, 0, 0, 0, 0, 0, 2] (Trc.pure rfl rfl rfl (.inl fun _ => s_mv (v := .int .i64 v1) rfl) (Trc.pure rfl rfl rfl (.inl fun _ => s_mv (v := .int .i64 p1.1) rfl) (Trc.pure rfl rfl rfl (.inl fun _ => s_quo rfl rfl g2) (Trc.pure rfl rfl rfl (.inl fun _ => s_mv (v := .int .i64 v2) rfl) (Trc.pure rfl rfl rfl (.inl fun _ => s_mv (v := .int .i64 p1.1) rfl) (Trc.pure rfl rfl rfl (.inl fun _ => s_quo rfl rfl g3) (Trc.pure rfl rfl rfl (.inl fun _ => s_build (cs := [.int .i64 (w64 (Int.tdiv v1 p1.1)), .int .i64 (w64 (Int.tdiv v2 p1.1))]) Try.underlying24 ty24 rfl pl24 rfl) (Trc.eff rfl rfl rfl (fun _ => trivial) (s_stores ty24 rfl rfl rfl rfl hH4 (Nat.le_of_eq (sts_mono hH4).symm)) (Trc.nil (fun _ => trivial)))))))))) rfl (by decide +kernel) mixed ?_
  refine f_bind ?_; intro x5 hx5
  refine f_bind ?_; intro x6 hx6
  exact f_ret (.cells Try.underlying24 rfl sz24 rfl (lds_cons (ldI_eq hx5) (lds_cons (ldI_eq hx6) (lds_nil))) (.nil)) rfl

theorem sim100 {a0 : Int} {a1 : Int} {H : Hp} {p : (Int × Int) × Hp} (h : r100 a0 a1 H = some p) : CallSim Try.prog 100 [.int .i64 a0, .int .i64 a1] H (.agg [.int .i64 p.1.1, .int .i64 p.1.2]) p.2 := by
  refine callSim (fn := Try.f100) (ret := ret100) Try.func100 rfl Try.ntmps100 rfl ?_ h
  unfold r100
  refine f_seq ?_
  refine f_region ?_
  refine f_op rfl rfl (s_alloc (zs := [.int .i64 0, .int .i64 0]) ty24 rfl rfl) ?_
  refine o_hp ?_; intro H1 hH1
  refine f_nil ?_
  refine f_seq ?_
  refine f_seq ?_
  refine f_region ?_
  refine f_op rfl rfl (s_mv (v := .int .i64 a1) rfl) ?_
  refine f_op rfl rfl (s_lss rfl rfl) ?_
  refine f_nil ?_
  refine f_if (fun h2 => ?_) (fun h2 => ?_)
  · skip
    refine f_know 7 rfl (dec_true h2) ?_
    refine f_condT rfl ?_
    refine f_region ?_
    refine f_op rfl rfl (s_mv (v := .int .i64 a0) rfl) ?_
    refine f_op rfl rfl (s_neg rfl) ?_
    refine f_op rfl rfl (s_mv (v := .int .i64 a1) rfl) ?_
    refine f_op rfl rfl (s_neg rfl) ?_
    refine f_op rfl rfl (s_as (v := .int .i64 (w64 (0 - a0))) rfl) ?_
    refine f_op rfl rfl (s_as (v := .int .i64 (w64 (0 - a1))) rfl) ?_
    refine f_nil ?_
    refine f_keep [0, 1, 4] ?_
    exact s100_j0 (w64 (0 - a0)) (w64 (0 - a1)) H.n H1
  · skip
    refine f_know 7 rfl (dec_false h2) ?_
    refine f_condF rfl ?_
    refine f_skip ?_
    refine f_keep [0, 1, 4] ?_
    exact s100_j0 a0 a1 H.n H1

/- 80 congou/cuts.whole -/
theorem ok80 : FnOk Try.prog 80 := ⟨⟨Try.f80, Try.func80, by kernel_rfl, rfl⟩⟩
theorem sim80 {a0 : Int} {a1 : Int} {H : Hp} {p : (Int × Int × Int × Int) × Hp} (h : r80 a0 a1 H = some p) : CallSim Try.prog 80 [.int .i64 a0, .int .i64 a1] H (.agg [.int .i64 p.1.1, .int .i64 p.1.2.1, .int .i64 p.1.2.2.1, .int .i64 p.1.2.2.2]) p.2 := by
  refine callSim (fn := Try.f80) (ret := ret80) Try.func80 rfl Try.ntmps80 rfl ?_ h
  unfold r80
  refine f_seq ?_
  refine f_region ?_
  refine f_op rfl rfl (s_alloc (zs := [.int .i64 0, .int .i64 0, .int .i64 0, .int .i64 0]) ty32 rfl rfl) ?_
  refine o_hp ?_; intro H1 hH1
  refine f_nil ?_
  refine f_seq ?_
  refine f_region ?_
  refine f_op rfl rfl (s_mv (v := .int .i64 a0) rfl) ?_
  refine o_bind ?_; intro p2 hp2
  refine f_op rfl rfl (s_callO rfl ok100 (sim100 hp2) rfl rfl) ?_
  refine f_op rfl rfl (s_mv (v := .int .i64 a1) rfl) ?_
  refine o_bind ?_; intro p3 hp3
  refine f_op rfl rfl (s_callO rfl ok100 (sim100 hp3) rfl rfl) ?_
  refine f_op rfl rfl (s_build (cs := [.int .i64 p2.1.1, .int .i64 p2.1.2, .int .i64 p3.1.1, .int .i64 p3.1.2]) Try.underlying32 ty32 rfl pl32 rfl) ?_
  refine o_bind ?_; intro H4 hH4
  refine f_op rfl rfl (s_stores ty32 rfl rfl rfl rfl hH4 (Nat.le_of_eq (sts_mono hH4).symm)) ?_
  refine f_nil ?_
  refine f_bind ?_; intro x5 hx5
  refine f_bind ?_; intro x6 hx6
  refine f_bind ?_; intro x7 hx7
  refine f_bind ?_; intro x8 hx8
  exact f_ret (.cells Try.underlying32 rfl sz32 rfl (lds_cons (ldI_eq hx5) (lds_cons (ldI_eq hx6) (lds_cons (ldI_eq hx7) (lds_cons (ldI_eq hx8) (lds_nil))))) (.nil)) rfl

/- 68 congou/cuts.down -/
theorem ok68 : FnOk Try.prog 68 := ⟨⟨Try.f68, Try.func68, by kernel_rfl, rfl⟩⟩
theorem s68_j0 (v1 : Int) (v2 : Bool) (H : Hp) : Fin Try.prog Try.f68 ret68 24 (todoAt (bodyOf Try.f68) [1, 1, 0, 1] []) [(3, .int .i64 v1), (20, .bool v2)] H (r68_j0 v1 v2 H) := by
  unfold r68_j0
  refine f_if (fun h1 => ?_) (fun h1 => ?_)
  · skip
    refine f_know 20 rfl (bool_T h1) ?_
    refine f_condT rfl ?_
    refine f_region ?_
    refine f_op rfl rfl (s_mv (v := .int .i64 v1) rfl) ?_
    refine f_op rfl rfl (s_sub rfl rfl) ?_
    refine f_op rfl rfl (s_as (v := .int .i64 (w64 (v1 - 1))) rfl) ?_
    refine f_nil ?_
    refine f_seq ?_
    refine f_region ?_
    refine f_op rfl rfl (s_mv (v := .int .i64 (w64 (v1 - 1))) rfl) ?_
    refine f_op rfl rfl (s_as (v := .int .i64 (w64 (v1 - 1))) rfl) ?_
    refine f_nil ?_
    exact f_ret (.tmp rfl (.nil)) rfl
  · skip
    refine f_know 20 rfl (bool_F h1) ?_
    refine f_condF rfl ?_
    refine f_skip ?_
    refine f_seq ?_
    refine f_region ?_
    refine f_op rfl rfl (s_mv (v := .int .i64 v1) rfl) ?_
    refine f_op rfl rfl (s_as (v := .int .i64 v1) rfl) ?_
    refine f_nil ?_
    exact f_ret (.tmp rfl (.nil)) rfl

theorem sim68 {a0_0 : Int} {a0_1 : Int} {H : Hp} {p : Int × Hp} (h : r68 a0_0 a0_1 H = some p) : CallSim Try.prog 68 [.agg [.int .i64 a0_0, .int .i64 a0_1]] H (.int .i64 p.1) p.2 := by
  refine callSim (fn := Try.f68) (ret := ret68) Try.func68 rfl Try.ntmps68 rfl ?_ h
  unfold r68
  refine f_seq ?_
  refine f_region ?_
  refine f_op rfl rfl (s_box (v := .agg [.int .i64 a0_0, .int .i64 a0_1]) rfl rfl) ?_
  refine f_op rfl rfl (s_as (v := .int .i64 0) rfl) ?_
  refine o_hp ?_; intro H1 hH1
  refine f_nil ?_
  refine f_seq ?_
  refine f_region ?_
  refine f_op rfl rfl (s_fieldAddr Try.underlying24 rfl ty3 rfl) ?_
  refine o_bind ?_; intro x2 hx2
  refine f_op rfl rfl (s_load Try.underlying3 rfl rfl (ldI_eq hx2)) ?_
  refine f_op rfl rfl (s_fieldAddr Try.underlying24 rfl ty3 rfl) ?_
  refine o_bind ?_; intro x3 hx3
  refine f_op rfl rfl (s_load Try.underlying3 rfl rfl (ldI_eq hx3)) ?_
  refine o_ck fun g4 => ?_
  refine f_op rfl rfl (s_quo rfl rfl g4) ?_
  refine f_op rfl rfl (s_as (v := .int .i64 (w64 (Int.tdiv x2 x3))) rfl) ?_
  refine f_nil ?_
  refine f_seq ?_
  refine f_seq ?_
  refine f_region ?_
  refine f_op rfl rfl (s_fieldAddr Try.underlying24 rfl ty3 rfl) ?_
  refine o_bind ?_; intro x5 hx5
  refine f_op rfl rfl (s_load Try.underlying3 rfl rfl (ldI_eq hx5)) ?_
  refine f_op rfl rfl (s_lss rfl rfl) ?_
  refine f_op rfl rfl (s_mv (v := .bool (decide (x5 < 0))) rfl) ?_
  refine o_if (fun h6 => ?_) (fun h6 => ?_)
  · skip
    refine o_know 12 rfl (dec_true h6) ?_
    refine f_op rfl rfl (s_mv (v := .int .i64 (w64 (Int.tdiv x2 x3))) rfl) ?_
    refine f_op rfl rfl (s_fieldAddr Try.underlying24 rfl ty3 rfl) ?_
    refine o_bind ?_; intro x7 hx7
    refine f_op rfl rfl (s_load Try.underlying3 rfl rfl (ldI_eq hx7)) ?_
    refine f_op rfl rfl (s_mul rfl rfl) ?_
    refine f_op rfl rfl (s_fieldAddr Try.underlying24 rfl ty3 rfl) ?_
    refine o_bind ?_; intro x8 hx8
    refine f_op rfl rfl (s_load Try.underlying3 rfl rfl (ldI_eq hx8)) ?_
    refine f_op rfl rfl (s_neq rfl rfl) ?_
    refine f_op rfl rfl (s_pickT (v := .bool (decide ((w64 ((w64 (Int.tdiv x2 x3)) * x7)) ≠ x8))) rfl rfl) ?_
    refine f_nil ?_
    refine f_keep [3, 20] ?_
    exact s68_j0 (w64 (Int.tdiv x2 x3)) (decide ((w64 ((w64 (Int.tdiv x2 x3)) * x7)) ≠ x8)) H1
  · skip
    refine o_know 12 rfl (dec_false h6) ?_
    refine f_no rfl rfl ?_
    refine f_no rfl rfl ?_
    refine f_no rfl rfl ?_
    refine f_no rfl rfl ?_
    refine f_no rfl rfl ?_
    refine f_no rfl rfl ?_
    refine f_no rfl rfl ?_
    refine f_op rfl rfl (s_pickF (v := .bool false) rfl rfl) ?_
    refine f_nil ?_
    refine f_keep [3, 20] ?_
    exact s68_j0 (w64 (Int.tdiv x2 x3)) false H1

/- 101 (congou/cuts.plate).box -/
theorem ok101 : FnOk Try.prog 101 := ⟨⟨Try.f101, Try.func101, by kernel_rfl, rfl⟩⟩
theorem sim101 {app : App} (happ : AppSim Try.prog app) {a0 : Sl} {H : Hp} {p : (Int × Int × Int × Int × Bool) × Hp} (h : r101 app a0 H = some p) : CallSim Try.prog 101 [.sl a0] H (.tup [.agg [.int .i64 p.1.1, .int .i64 p.1.2.1], .agg [.int .i64 p.1.2.2.1, .int .i64 p.1.2.2.2.1], .bool p.1.2.2.2.2]) p.2 := by
  refine callSim (fn := Try.f101) (ret := ret101) Try.func101 rfl Try.ntmps101 rfl ?_ h
  unfold r101
  refine f_seq ?_
  refine f_region ?_
  refine f_op rfl rfl (s_alloc (zs := [.int .i64 0, .int .i64 0]) ty43 rfl rfl) ?_
  refine f_op rfl rfl (s_alloc (zs := [.int .i64 0, .int .i64 0]) ty43 rfl rfl) ?_
  refine f_op rfl rfl (s_alloc (zs := [.bool false]) ty4 rfl rfl) ?_
  refine o_hp ?_; intro H1 hH1
  refine f_nil ?_
  refine f_seq ?_
  refine f_seq ?_
  refine f_region ?_
  refine f_op rfl rfl (s_mv (v := .sl a0) rfl) ?_
  refine f_op rfl rfl (s_makeFunc rfl rfl) ?_
  refine f_nil ?_
  refine f_block ?_
  refine f_bind ?_; intro p2 hp2
  refine f_bind ?_; intro q3 hq3
  refine f_rangeX happ rfl rfl (lookup_restrict _ [2, 3, 4]) rfl hp2 hq3 ?_
  refine f_if (fun h4 => ?_) (fun h4 => ?_)
  · skip
    refine f_jmp0 h4 ?_
    refine f_inBlock ?_
    refine f_seq ?_
    refine f_bind ?_; intro x5 hx5
    refine f_bind ?_; intro x6 hx6
    refine f_bind ?_; intro x7 hx7
    refine f_bind ?_; intro x8 hx8
    refine f_bind ?_; intro x9 hx9
    refine f_bind ?_; intro H10 hH10
    refine f_bind ?_; intro H11 hH11
    refine f_bind ?_; intro H12 hH12
    refine f_ck fun g13 => ?_
    refine f_ck fun g14 => ?_
    refine f_ck fun g15 => ?_
    refine f_ck fun g16 => ?_
    refine f_ck fun g17 => ?_
    refine f_ck fun g18 => ?_
    refine f_draw (Φ := fun H_ => H_.ld ((H.push (.cells [.int .i64 0, .int .i64 0] false)).n) 0 = some (.int .i64 x7) ∧ H_.ld ((H.push (.cells [.int .i64 0, .int .i64 0] false)).n) (0 + 1) = some (.int .i64 x8) ∧ H_.ld (((H.push (.cells [.int .i64 0, .int .i64 0] false)).push (.cells [.int .i64 0, .int .i64 0] false)).n) 0 = some (.bool x9)) (lim := 5) [1, 0, 0, 2, 2, 2] (Trc.read rfl rfl rfl (s_loads Try.underlying43 rfl ty43 rfl (lds_cons (ldI_eq hx5) (lds_cons (ldI_eq hx6) (lds_nil)))) (Trc.pure rfl rfl rfl (.inr ⟨by decide +kernel, fun _ hp_ => s_loads Try.underlying43 rfl ty43 rfl (lds_cons hp_.1 (lds_cons hp_.2.1 (lds_nil)))⟩) (Trc.pure rfl rfl rfl (.inr ⟨by decide +kernel, fun _ hp_ => s_load Try.underlying4 rfl rfl hp_.2.2⟩) (Trc.eff rfl rfl rfl (fun _ => ⟨ldI_eq hx7, ldI_eq hx8, ldB_eq hx9⟩) (s_stores ty43 rfl rfl rfl rfl hH10 (Nat.le_of_eq (sts_mono hH10).symm)) (Trc.eff rfl rfl rfl (fun _ => ⟨ldI_eq g13, ldI_eq g14, ldB_eq g15⟩) (s_stores ty43 rfl rfl rfl rfl hH11 (Nat.le_of_eq (sts_mono hH11).symm)) (Trc.eff rfl rfl rfl (fun _ => ⟨ldI_eq g16, ldI_eq g17, ldB_eq g18⟩) (s_store (s := 1) ty4 rfl rfl rfl hH12) (Trc.nil (fun h_ => absurd h_ (by decide +kernel))))))))) rfl (by decide +kernel) mixed ?_
    refine f_bind ?_; intro x19 hx19
    refine f_bind ?_; intro x20 hx20
    refine f_bind ?_; intro x21 hx21
    refine f_bind ?_; intro x22 hx22
    refine f_bind ?_; intro x23 hx23
    refine f_ck fun g24 => ?_
    exact f_retD (.cells Try.underlying43 rfl sz43 rfl (lds_cons (ldI_eq hx19) (lds_cons (ldI_eq hx20) (lds_nil))) (.cells Try.underlying43 rfl sz43 rfl (lds_cons (ldI_eq hx21) (lds_cons (ldI_eq hx22) (lds_nil))) (.cell Try.underlying4 rfl rfl (ldB_eq hx23) (.nil)))) rfl (dfrs_of g24)
  · skip
    exact f_none

theorem s101q0_j1 {app : App} (happ : AppSim Try.prog app) {l_ : Nat} (kt0 : Nat → Nat → Nat → Nat → Int → Hp → Option ((Option Code) × Hp)) (hkt0 : ∀ (v1 : Nat) (v2 : Nat) (v3 : Nat) (v4 : Nat) (v5 : Int) (H : Hp), FinG Try.prog PostR ⟨59, [], some l_⟩ (todoAt (bodyOf Try.f101) [1, 0, 1, 0, 1, 0, 1, 0, 1, 0, 0] []) [(2, .ptr v1 0), (3, .ptr v2 0), (4, .ptr v3 0), (6, .ptr v4 0), (20, .int .i64 v5)] H (kt0 v1 v2 v3 v4 v5 H)) (v1 : Nat) (v2 : Nat) (v3 : Nat) (v4 : Nat) (v5 : Int) (v6 : Int) (v7 : Bool) (H : Hp) : FinG Try.prog PostR ⟨59, [], some l_⟩ (todoAt (bodyOf Try.f101) [1, 0, 1, 0, 1, 0, 1, 0, 1, 0, 0, 1, 1, 0, 0, 1, 1, 1] []) [(2, .ptr v1 0), (3, .ptr v2 0), (4, .ptr v3 0), (6, .ptr v4 0), (7, .int .i64 v5), (20, .int .i64 v6), (49, .bool v7)] H (r101q0_j1 app l_ kt0 v1 v2 v3 v4 v5 v6 v7 H) := by
  unfold r101q0_j1
  refine f_if (fun h1 => ?_) (fun h1 => ?_)
  · skip
    refine f_know 49 rfl (bool_T h1) ?_
    refine f_condT rfl ?_
    refine f_region ?_
    refine f_op rfl rfl (s_mv (v := .int .i64 v5) rfl) ?_
    refine f_op rfl rfl (s_mv (v := .int .i64 v5) rfl) ?_
    refine o_ck fun g2 => ?_
    refine f_op rfl rfl (s_idxA Try.underlying43 ty3 rfl rfl g2) ?_
    refine o_bind ?_; intro x3 hx3
    refine f_op rfl rfl (s_load Try.underlying3 rfl rfl (ldI_eq hx3)) ?_
    refine o_ck fun g4 => ?_
    refine f_op rfl rfl (s_idxA Try.underlying43 ty3 rfl rfl g4) ?_
    refine o_bind ?_; intro H5 hH5
    refine f_op rfl rfl (s_store (s := 1) ty3 rfl rfl rfl hH5) ?_
    refine f_nil ?_
    refine f_inBlock ?_
    refine f_region ?_
    refine f_op rfl rfl (s_add rfl rfl) ?_
    refine f_op rfl rfl (s_mv (v := .int .i64 (w64 (v6 + 1))) rfl) ?_
    refine f_nil ?_
    refine f_inLoop ?_
    refine f_keep [2, 3, 4, 6, 20] ?_
    exact hkt0 v1 v2 v3 v4 (w64 (v6 + 1)) H5
  · skip
    refine f_know 49 rfl (bool_F h1) ?_
    refine f_condF rfl ?_
    refine f_skip ?_
    refine f_inBlock ?_
    refine f_region ?_
    refine f_op rfl rfl (s_add rfl rfl) ?_
    refine f_op rfl rfl (s_mv (v := .int .i64 (w64 (v6 + 1))) rfl) ?_
    refine f_nil ?_
    refine f_inLoop ?_
    refine f_keep [2, 3, 4, 6, 20] ?_
    exact hkt0 v1 v2 v3 v4 (w64 (v6 + 1)) H

theorem s101q0_j2 {app : App} (happ : AppSim Try.prog app) {l_ : Nat} (kt0 : Nat → Nat → Nat → Nat → Int → Hp → Option ((Option Code) × Hp)) (hkt0 : ∀ (v1 : Nat) (v2 : Nat) (v3 : Nat) (v4 : Nat) (v5 : Int) (H : Hp), FinG Try.prog PostR ⟨59, [], some l_⟩ (todoAt (bodyOf Try.f101) [1, 0, 1, 0, 1, 0, 1, 0, 1, 0, 0] []) [(2, .ptr v1 0), (3, .ptr v2 0), (4, .ptr v3 0), (6, .ptr v4 0), (20, .int .i64 v5)] H (kt0 v1 v2 v3 v4 v5 H)) (v1 : Nat) (v2 : Nat) (v3 : Nat) (v4 : Nat) (v5 : Int) (v6 : Int) (H : Hp) : FinG Try.prog PostR ⟨59, [], some l_⟩ (todoAt (bodyOf Try.f101) [1, 0, 1, 0, 1, 0, 1, 0, 1, 0, 0, 1, 1, 0, 0, 1, 1] []) [(2, .ptr v1 0), (3, .ptr v2 0), (4, .ptr v3 0), (6, .ptr v4 0), (7, .int .i64 v5), (20, .int .i64 v6)] H (r101q0_j2 app l_ kt0 v1 v2 v3 v4 v5 v6 H) := by
  unfold r101q0_j2
  refine f_seq ?_
  refine f_bind ?_; intro x1 hx1
  refine f_if (fun h2 => ?_) (fun h2 => ?_)
  · skip
    refine f_ck fun g3 => ?_
    refine f_bind ?_; intro x4 hx4
    refine f_ck fun g5 => ?_
    refine f_bind ?_; intro x6 hx6
    refine f_draw (Φ := fun _ => True) (lim := 1000000) [1, 0, 0, 0, 0, 1, 0, 0, 1, 0, 0] (Trc.read rfl rfl rfl (s_load Try.underlying4 rfl rfl (ldB_eq hx1)) (Trc.pure rfl rfl rfl (.inl fun _ => s_not rfl) (Trc.pure rfl rfl rfl (.inl fun _ => s_mv (v := .bool (!x1)) rfl) (Trc.know 41 rfl (bool_notT h2) (Trc.pure rfl rfl rfl (.inl fun _ => s_mv (v := .int .i64 v5) rfl) (Trc.pure rfl rfl rfl (.inl fun _ => s_idxA Try.underlying43 ty3 rfl rfl g3) (Trc.read rfl rfl rfl (s_load Try.underlying3 rfl rfl (ldI_eq hx4)) (Trc.pure rfl rfl rfl (.inl fun _ => s_mv (v := .int .i64 v5) rfl) (Trc.pure rfl rfl rfl (.inl fun _ => s_idxA Try.underlying43 ty3 rfl rfl g5) (Trc.read rfl rfl rfl (s_load Try.underlying3 rfl rfl (ldI_eq hx6)) (Trc.pure rfl rfl rfl (.inl fun _ => s_gtr rfl rfl) (Trc.pure rfl rfl rfl (.inl fun _ => s_pickF (v := .bool (decide (x6 < x4))) rfl rfl) (Trc.nil (fun _ => trivial)))))))))))))) rfl (by decide +kernel) mixed ?_
    refine f_keep [2, 3, 4, 6, 7, 20, 49] ?_
    exact s101q0_j1 happ _ hkt0 v1 v2 v3 v4 v5 v6 (decide (x6 < x4)) H
  · skip
    refine f_draw (Φ := fun _ => True) (lim := 1000000) [1, 0, 0, 0, 0, 0, 0, 0, 0, 0, 0] (Trc.read rfl rfl rfl (s_load Try.underlying4 rfl rfl (ldB_eq hx1)) (Trc.pure rfl rfl rfl (.inl fun _ => s_not rfl) (Trc.pure rfl rfl rfl (.inl fun _ => s_mv (v := .bool (!x1)) rfl) (Trc.know 41 rfl (bool_notF h2) (Trc.no rfl rfl rfl (Trc.no rfl rfl rfl (Trc.no rfl rfl rfl (Trc.no rfl rfl rfl (Trc.no rfl rfl rfl (Trc.no rfl rfl rfl (Trc.no rfl rfl rfl (Trc.pure rfl rfl rfl (.inl fun _ => s_pickT (v := .bool true) rfl rfl) (Trc.nil (fun _ => trivial)))))))))))))) rfl (by decide +kernel) mixed ?_
    refine f_keep [2, 3, 4, 6, 7, 20, 49] ?_
    exact s101q0_j1 happ _ hkt0 v1 v2 v3 v4 v5 v6 true H

theorem s101q0_j3 {app : App} (happ : AppSim Try.prog app) {l_ : Nat} (kt0 : Nat → Nat → Nat → Nat → Int → Hp → Option ((Option Code) × Hp)) (hkt0 : ∀ (v1 : Nat) (v2 : Nat) (v3 : Nat) (v4 : Nat) (v5 : Int) (H : Hp), FinG Try.prog PostR ⟨59, [], some l_⟩ (todoAt (bodyOf Try.f101) [1, 0, 1, 0, 1, 0, 1, 0, 1, 0, 0] []) [(2, .ptr v1 0), (3, .ptr v2 0), (4, .ptr v3 0), (6, .ptr v4 0), (20, .int .i64 v5)] H (kt0 v1 v2 v3 v4 v5 H)) (v1 : Nat) (v2 : Nat) (v3 : Nat) (v4 : Nat) (v5 : Int) (v6 : Int) (v7 : Bool) (H : Hp) : FinG Try.prog PostR ⟨59, [], some l_⟩ (todoAt (bodyOf Try.f101) [1, 0, 1, 0, 1, 0, 1, 0, 1, 0, 0, 1, 1, 0, 0, 1, 0, 1] []) [(2, .ptr v1 0), (3, .ptr v2 0), (4, .ptr v3 0), (6, .ptr v4 0), (7, .int .i64 v5), (20, .int .i64 v6), (33, .bool v7)] H (r101q0_j3 app l_ kt0 v1 v2 v3 v4 v5 v6 v7 H) := by
  unfold r101q0_j3
  refine f_if (fun h1 => ?_) (fun h1 => ?_)
  · skip
    refine f_know 33 rfl (bool_T h1) ?_
    refine f_condT rfl ?_
    refine f_region ?_
    refine f_op rfl rfl (s_mv (v := .int .i64 v5) rfl) ?_
    refine f_op rfl rfl (s_mv (v := .int .i64 v5) rfl) ?_
    refine o_ck fun g2 => ?_
    refine f_op rfl rfl (s_idxA Try.underlying43 ty3 rfl rfl g2) ?_
    refine o_bind ?_; intro x3 hx3
    refine f_op rfl rfl (s_load Try.underlying3 rfl rfl (ldI_eq hx3)) ?_
    refine o_ck fun g4 => ?_
    refine f_op rfl rfl (s_idxA Try.underlying43 ty3 rfl rfl g4) ?_
    refine o_bind ?_; intro H5 hH5
    refine f_op rfl rfl (s_store (s := 1) ty3 rfl rfl rfl hH5) ?_
    refine f_nil ?_
    refine f_keep [2, 3, 4, 6, 7, 20] ?_
    exact s101q0_j2 happ _ hkt0 v1 v2 v3 v4 v5 v6 H5
  · skip
    refine f_know 33 rfl (bool_F h1) ?_
    refine f_condF rfl ?_
    refine f_skip ?_
    refine f_keep [2, 3, 4, 6, 7, 20] ?_
    exact s101q0_j2 happ _ hkt0 v1 v2 v3 v4 v5 v6 H

theorem s101q0_l0 {app : App} (happ : AppSim Try.prog app) {l_ : Nat} : ∀ (k_ : Nat) (v1 : Nat) (v2 : Nat) (v3 : Nat) (v4 : Nat) (v5 : Int) (H : Hp), FinG Try.prog PostR ⟨59, [], some l_⟩ (todoAt (bodyOf Try.f101) [1, 0, 1, 0, 1, 0, 1, 0, 1, 0, 0] []) [(2, .ptr v1 0), (3, .ptr v2 0), (4, .ptr v3 0), (6, .ptr v4 0), (20, .int .i64 v5)] H (r101q0_l0 app l_ k_ v1 v2 v3 v4 v5 H) := by
  intro k_
  induction k_ with
  | zero => intro _ _ _ _ _ _; exact f_none
  | succ k_ ih =>
    intro v1 v2 v3 v4 v5 H
    rw [r101q0_l0]
    refine f_seq ?_
    refine f_region ?_
    refine f_op rfl rfl (s_lss rfl rfl) ?_
    refine f_nil ?_
    refine f_seq ?_
    refine f_if (fun h1 => ?_) (fun h1 => ?_)
    · skip
      refine f_know 21 rfl (dec_true h1) ?_
      refine f_condT rfl ?_
      refine f_skip ?_
      refine f_seq ?_
      refine f_block ?_
      refine f_seq ?_
      refine f_region ?_
      refine f_op rfl rfl (s_mv (v := .int .i64 v5) rfl) ?_
      refine f_op rfl rfl (s_as (v := .int .i64 v5) rfl) ?_
      refine f_nil ?_
      refine f_seq ?_
      refine f_seq ?_
      refine f_bind ?_; intro x2 hx2
      refine f_if (fun h3 => ?_) (fun h3 => ?_)
      · skip
        refine f_ck fun g4 => ?_
        refine f_bind ?_; intro x5 hx5
        refine f_ck fun g6 => ?_
        refine f_bind ?_; intro x7 hx7
        refine f_draw (Φ := fun _ => True) (lim := 1000000) [1, 0, 0, 0, 0, 1, 0, 0, 1, 0, 0] (Trc.read rfl rfl rfl (s_load Try.underlying4 rfl rfl (ldB_eq hx2)) (Trc.pure rfl rfl rfl (.inl fun _ => s_not rfl) (Trc.pure rfl rfl rfl (.inl fun _ => s_mv (v := .bool (!x2)) rfl) (Trc.know 25 rfl (bool_notT h3) (Trc.pure rfl rfl rfl (.inl fun _ => s_mv (v := .int .i64 v5) rfl) (Trc.pure rfl rfl rfl (.inl fun _ => s_idxA Try.underlying43 ty3 rfl rfl g4) (Trc.read rfl rfl rfl (s_load Try.underlying3 rfl rfl (ldI_eq hx5)) (Trc.pure rfl rfl rfl (.inl fun _ => s_mv (v := .int .i64 v5) rfl) (Trc.pure rfl rfl rfl (.inl fun _ => s_idxA Try.underlying43 ty3 rfl rfl g6) (Trc.read rfl rfl rfl (s_load Try.underlying3 rfl rfl (ldI_eq hx7)) (Trc.pure rfl rfl rfl (.inl fun _ => s_lss rfl rfl) (Trc.pure rfl rfl rfl (.inl fun _ => s_pickF (v := .bool (decide (x5 < x7))) rfl rfl) (Trc.nil (fun _ => trivial)))))))))))))) rfl (by decide +kernel) mixed ?_
        refine f_keep [2, 3, 4, 6, 7, 20, 33] ?_
        exact s101q0_j3 happ _ (fun v1_ v2_ v3_ v4_ v5_ H_ => ih v1_ v2_ v3_ v4_ v5_ H_) v1 v2 v3 v4 v5 v5 (decide (x5 < x7)) H
      · skip
        refine f_draw (Φ := fun _ => True) (lim := 1000000) [1, 0, 0, 0, 0, 0, 0, 0, 0, 0, 0] (Trc.read rfl rfl rfl (s_load Try.underlying4 rfl rfl (ldB_eq hx2)) (Trc.pure rfl rfl rfl (.inl fun _ => s_not rfl) (Trc.pure rfl rfl rfl (.inl fun _ => s_mv (v := .bool (!x2)) rfl) (Trc.know 25 rfl (bool_notF h3) (Trc.no rfl rfl rfl (Trc.no rfl rfl rfl (Trc.no rfl rfl rfl (Trc.no rfl rfl rfl (Trc.no rfl rfl rfl (Trc.no rfl rfl rfl (Trc.no rfl rfl rfl (Trc.pure rfl rfl rfl (.inl fun _ => s_pickT (v := .bool true) rfl rfl) (Trc.nil (fun _ => trivial)))))))))))))) rfl (by decide +kernel) mixed ?_
        refine f_keep [2, 3, 4, 6, 7, 20, 33] ?_
        exact s101q0_j3 happ _ (fun v1_ v2_ v3_ v4_ v5_ H_ => ih v1_ v2_ v3_ v4_ v5_ H_) v1 v2 v3 v4 v5 v5 true H
    · skip
      refine f_know 21 rfl (dec_false h1) ?_
      refine f_condF rfl ?_
      refine f_exit rfl ?_
      refine f_region ?_
      refine o_bind ?_; intro H8 hH8
      refine f_op rfl rfl (s_store (s := 1) ty4 rfl rfl rfl hH8) ?_
      refine f_nil ?_
      refine f_inBlock ?_
      exact f_rend

theorem sim101q0 {app : App} (happ : AppSim Try.prog app) {l_ : Nat} {v1 : Nat} {v2 : Nat} {v3 : Nat} {y0_0 : Int} {y0_1 : Int} {y0_2 : Int} {y0_3 : Int} {y0_4 : Int} {y0_5 : Int} {y0_6 : Int} {y0_7 : Int} {y0_8 : Int} {y0_9 : Int} {H : Hp} : FinG Try.prog PostR ⟨59, [], some l_⟩ [.code (siteTab 0).2.1, .beginRound, .code (siteTab 0).2.2] (zipF [10] [.agg [.int .i64 y0_0, .int .i64 y0_1, .int .i64 y0_2, .int .i64 y0_3, .int .i64 y0_4, .int .i64 y0_5, .int .i64 y0_6, .int .i64 y0_7, .int .i64 y0_8, .int .i64 y0_9]] [(2, .ptr v1 0), (3, .ptr v2 0), (4, .ptr v3 0)]) H (r101q0 app l_ v1 v2 v3 y0_0 y0_1 y0_2 y0_3 y0_4 y0_5 y0_6 y0_7 y0_8 y0_9 H) := by
  show FinG Try.prog PostR ⟨59, [], some l_⟩ (todoAt (bodyOf Try.f101) [1, 0, 1, 0, 0] []) [(10, .agg [.int .i64 y0_0, .int .i64 y0_1, .int .i64 y0_2, .int .i64 y0_3, .int .i64 y0_4, .int .i64 y0_5, .int .i64 y0_6, .int .i64 y0_7, .int .i64 y0_8, .int .i64 y0_9]), (2, .ptr v1 0), (3, .ptr v2 0), (4, .ptr v3 0)] H _
  unfold r101q0
  refine f_region ?_
  refine f_op rfl rfl (s_alloc (zs := [.int .i64 0, .int .i64 0, .int .i64 0, .int .i64 0, .int .i64 0, .int .i64 0, .int .i64 0, .int .i64 0, .int .i64 0, .int .i64 0]) ty105 rfl rfl) ?_
  refine o_bind ?_; intro H1 hH1
  refine f_op rfl rfl (s_stores ty105 rfl rfl rfl rfl hH1 (Nat.le_of_eq (sts_mono hH1).symm)) ?_
  refine f_nil ?_
  refine f_bind ?_; intro H2 hH2
  refine f_beginX rfl hH2 ?_
  refine f_block ?_
  refine f_seq ?_
  refine f_bind ?_; intro x3 hx3
  refine f_bind ?_; intro x4 hx4
  refine f_bind ?_; intro p5 hp5
  refine f_bind ?_; intro x6 hx6
  refine f_bind ?_; intro x7 hx7
  refine f_bind ?_; intro p8 hp8
  refine f_bind ?_; intro H9 hH9
  refine f_drawF (Φ := fun _ => True) (lim := 1000000) [0, 0, 1, 0, 0, 0, 1, 0, 0, 2, 2] [false, false, false, false, false, false, false, false, false, true, false] 9 10 (Trc.pure rfl rfl rfl (.inl fun _ => s_fieldAddr Try.underlying105 rfl ty32 rfl) (Trc.pure rfl rfl rfl (.inl fun _ => s_fieldAddr Try.underlying32 rfl ty24 rfl) (Trc.read rfl rfl rfl (s_loads Try.underlying24 rfl ty24 rfl (lds_cons (ldI_eq hx3) (lds_cons (ldI_eq hx4) (lds_nil)))) (Trc.pure rfl rfl rfl (.inl fun _ => s_callO rfl ok68 (sim68 hp5) rfl rfl) (Trc.pure rfl rfl rfl (.inl fun _ => s_fieldAddr Try.underlying105 rfl ty32 rfl) (Trc.pure rfl rfl rfl (.inl fun _ => s_fieldAddr Try.underlying32 rfl ty24 rfl) (Trc.read rfl rfl rfl (s_loads Try.underlying24 rfl ty24 rfl (lds_cons (ldI_eq hx6) (lds_cons (ldI_eq hx7) (lds_nil)))) (Trc.pure rfl rfl rfl (.inl fun _ => s_callO rfl ok68 (sim68 hp8) rfl rfl) (Trc.pure rfl rfl rfl (.inl fun _ => s_buildA (cs := [.int .i64 p5.1, .int .i64 p8.1]) Try.underlying43 ty43 ty3 rfl rfl) (Trc.fl .p rfl rfl rfl (fun _ => trivial) rfl (by rfl) (fun _ => s_alloc (zs := [.int .i64 0, .int .i64 0]) ty43 rfl rfl) (Trc.eff rfl rfl rfl (fun _ => trivial) (s_stores ty43 rfl rfl rfl rfl hH9 (Nat.le_of_eq (sts_mono hH9).symm)) (Trc.nil (fun _ => trivial))))))))))))) rfl rfl (by decide +kernel) mixed ?_
  refine f_seq ?_
  refine f_seq ?_
  refine f_region ?_
  refine f_op rfl rfl (s_mv (v := .int .i64 0) rfl) ?_
  refine f_nil ?_
  refine f_block ?_
  refine f_loop ?_
  refine f_keep [2, 3, 4, 6, 20] ?_
  exact s101q0_l0 happ FUEL v1 v2 v3 H2.n 0 H9

/- 71 (congou/cuts.plate).points -/
theorem ok71 : FnOk Try.prog 71 := ⟨⟨Try.f71, Try.func71, by kernel_rfl, rfl⟩⟩
theorem s71_l1 {app : App} (happ : AppSim Try.prog app) (kt0 : Sl → Nat → Nat → Sl → Int → Hp → Option (Sl × Hp)) (hkt0 : ∀ (v1 : Sl) (v2 : Nat) (v3 : Nat) (v4 : Sl) (v5 : Int) (H : Hp), Fin Try.prog Try.f71 ret71 45 (todoAt (bodyOf Try.f71) [1, 1, 1, 1, 0, 1, 0, 0] []) [(0, .sl v1), (3, .ptr v2 0), (4, .ptr v3 0), (6, .sl v4), (7, .int .i64 v5)] H (kt0 v1 v2 v3 v4 v5 H)) : ∀ (k_ : Nat) (v1 : Sl) (v2 : Nat) (v3 : Nat) (v4 : Sl) (v5 : Int) (v6 : Int) (H : Hp), Fin Try.prog Try.f71 ret71 45 (todoAt (bodyOf Try.f71) [1, 1, 1, 1, 0, 1, 0, 0, 1, 0, 0, 1, 0, 0] []) [(0, .sl v1), (3, .ptr v2 0), (4, .ptr v3 0), (6, .sl v4), (7, .int .i64 v5), (8, .int .i64 v6)] H (r71_l1 app kt0 k_ v1 v2 v3 v4 v5 v6 H) := by
  intro k_
  induction k_ with
  | zero => intro _ _ _ _ _ _ _; exact f_none
  | succ k_ ih =>
    intro v1 v2 v3 v4 v5 v6 H
    rw [r71_l1]
    refine f_seq ?_
    refine f_seq ?_
    refine f_region ?_
    refine f_op rfl rfl (s_mv (v := .int .i64 v6) rfl) ?_
    refine f_op rfl rfl (s_idxA Try.underlying43 ty3 rfl rfl (by decide)) ?_
    refine o_bind ?_; intro x1 hx1
    refine f_op rfl rfl (s_load Try.underlying3 rfl rfl (ldI_eq hx1)) ?_
    refine f_op rfl rfl (s_leq rfl rfl) ?_
    refine f_nil ?_
    refine f_if (fun h2 => ?_) (fun h2 => ?_)
    · skip
      refine f_know 30 rfl (dec_true h2) ?_
      refine f_condT rfl ?_
      refine f_skip ?_
      refine f_seq ?_
      refine f_block ?_
      refine f_seq ?_
      refine f_region ?_
      refine f_op rfl rfl (s_mv (v := .sl v1) rfl) ?_
      refine f_op rfl rfl (s_mv (v := .int .i64 v5) rfl) ?_
      refine f_op rfl rfl (s_mv (v := .int .i64 v6) rfl) ?_
      refine o_bind ?_; intro p3 hp3
      refine f_op rfl rfl (s_callO rfl ok80 (sim80 hp3) rfl rfl) ?_
      refine o_bind ?_; intro p4 hp4
      refine f_op rfl rfl (s_callF rfl ok65 (sim65 happ hp4)) ?_
      refine f_nil ?_
      refine f_if (fun h5 => ?_) (fun h5 => ?_)
      · skip
        refine f_know 37 rfl (bool_T h5) ?_
        refine f_condT rfl ?_
        refine f_region ?_
        refine f_op rfl rfl (s_mv (v := .sl v4) rfl) ?_
        refine f_op rfl rfl (s_mv (v := .int .i64 v5) rfl) ?_
        refine f_op rfl rfl (s_mv (v := .int .i64 v6) rfl) ?_
        refine f_op rfl rfl (s_buildA (cs := [.int .i64 v5, .int .i64 v6]) Try.underlying43 ty43 ty3 rfl rfl) ?_
        refine f_op rfl rfl (s_buildSlice (cs := [.int .i64 v5, .int .i64 v6]) Try.underlying37 ty43 (by decide) (by decide) rfl (by decide) rfl) ?_
        refine o_bind ?_; intro x6 hx6
        refine f_op rfl rfl (s_ap rfl rfl Try.underlying37 Try.underlying37 ty43 rfl rfl rfl rfl rfl rfl rfl hx6) ?_
        refine f_op rfl rfl (s_as (v := .sl x6.1) rfl) ?_
        refine f_nil ?_
        refine f_inBlock ?_
        refine f_region ?_
        refine f_op rfl rfl (s_mv (v := .int .i64 v6) rfl) ?_
        refine f_op rfl rfl (s_add rfl rfl) ?_
        refine f_op rfl rfl (s_as (v := .int .i64 (w64 (v6 + 1))) rfl) ?_
        refine f_nil ?_
        refine f_inLoop ?_
        refine f_keep [0, 3, 4, 6, 7, 8] ?_
        exact ih v1 v2 v3 x6.1 v5 (w64 (v6 + 1)) x6.2
      · skip
        refine f_know 37 rfl (bool_F h5) ?_
        refine f_condF rfl ?_
        refine f_skip ?_
        refine f_inBlock ?_
        refine f_region ?_
        refine f_op rfl rfl (s_mv (v := .int .i64 v6) rfl) ?_
        refine f_op rfl rfl (s_add rfl rfl) ?_
        refine f_op rfl rfl (s_as (v := .int .i64 (w64 (v6 + 1))) rfl) ?_
        refine f_nil ?_
        refine f_inLoop ?_
        refine f_keep [0, 3, 4, 6, 7, 8] ?_
        exact ih v1 v2 v3 v4 v5 (w64 (v6 + 1)) p4.2
    · skip
      refine f_know 30 rfl (dec_false h2) ?_
      refine f_condF rfl ?_
      refine f_exit rfl ?_
      refine f_inBlock ?_
      refine f_region ?_
      refine f_op rfl rfl (s_mv (v := .int .i64 v5) rfl) ?_
      refine f_op rfl rfl (s_add rfl rfl) ?_
      refine f_op rfl rfl (s_as (v := .int .i64 (w64 (v5 + 1))) rfl) ?_
      refine f_nil ?_
      refine f_inLoop ?_
      refine f_keep [0, 3, 4, 6, 7] ?_
      exact hkt0 v1 v2 v3 v4 (w64 (v5 + 1)) H

theorem s71_l0 {app : App} (happ : AppSim Try.prog app) : ∀ (k_ : Nat) (v1 : Sl) (v2 : Nat) (v3 : Nat) (v4 : Sl) (v5 : Int) (H : Hp), Fin Try.prog Try.f71 ret71 45 (todoAt (bodyOf Try.f71) [1, 1, 1, 1, 0, 1, 0, 0] []) [(0, .sl v1), (3, .ptr v2 0), (4, .ptr v3 0), (6, .sl v4), (7, .int .i64 v5)] H (r71_l0 app k_ v1 v2 v3 v4 v5 H) := by
  intro k_
  induction k_ with
  | zero => intro _ _ _ _ _ _; exact f_none
  | succ k_ ih =>
    intro v1 v2 v3 v4 v5 H
    rw [r71_l0]
    refine f_seq ?_
    refine f_seq ?_
    refine f_region ?_
    refine f_op rfl rfl (s_mv (v := .int .i64 v5) rfl) ?_
    refine f_op rfl rfl (s_idxA Try.underlying43 ty3 rfl rfl (by decide)) ?_
    refine o_bind ?_; intro x1 hx1
    refine f_op rfl rfl (s_load Try.underlying3 rfl rfl (ldI_eq hx1)) ?_
    refine f_op rfl rfl (s_leq rfl rfl) ?_
    refine f_nil ?_
    refine f_if (fun h2 => ?_) (fun h2 => ?_)
    · skip
      refine f_know 22 rfl (dec_true h2) ?_
      refine f_condT rfl ?_
      refine f_skip ?_
      refine f_seq ?_
      refine f_block ?_
      refine f_seq ?_
      refine f_region ?_
      refine f_op rfl rfl (s_idxA Try.underlying43 ty3 rfl rfl (by decide)) ?_
      refine o_bind ?_; intro x3 hx3
      refine f_op rfl rfl (s_load Try.underlying3 rfl rfl (ldI_eq hx3)) ?_
      refine f_op rfl rfl (s_as (v := .int .i64 x3) rfl) ?_
      refine f_nil ?_
      refine f_block ?_
      refine f_loop ?_
      refine f_keep [0, 3, 4, 6, 7, 8] ?_
      exact s71_l1 happ _ (fun v1_ v2_ v3_ v4_ v5_ H_ => ih v1_ v2_ v3_ v4_ v5_ H_) FUEL v1 v2 v3 v4 v5 x3 H
    · skip
      refine f_know 22 rfl (dec_false h2) ?_
      refine f_condF rfl ?_
      refine f_exit rfl ?_
      refine f_seq ?_
      refine f_region ?_
      refine f_op rfl rfl (s_mv (v := .sl v4) rfl) ?_
      refine f_op rfl rfl (s_as (v := .sl v4) rfl) ?_
      refine f_nil ?_
      exact f_ret (.tmp rfl (.nil)) rfl

theorem sim71 {app : App} (happ : AppSim Try.prog app) {a0 : Sl} {H : Hp} {p : Sl × Hp} (h : r71 app a0 H = some p) : CallSim Try.prog 71 [.sl a0] H (.sl p.1) p.2 := by
  refine callSim (fn := Try.f71) (ret := ret71) Try.func71 rfl Try.ntmps71 rfl ?_ h
  unfold r71
  refine f_seq ?_
  refine f_region ?_
  refine f_op rfl rfl (s_as (v := .sl ⟨true, 0, 0, 0, 0, 0⟩) rfl) ?_
  refine f_nil ?_
  refine f_seq ?_
  refine f_region ?_
  refine f_op rfl rfl (s_mv (v := .sl a0) rfl) ?_
  refine o_bind ?_; intro p1 hp1
  refine f_op rfl rfl (s_callF rfl ok101 (sim101 happ hp1)) ?_
  refine f_op rfl rfl (s_mv (v := .tup [.agg [.int .i64 p1.1.1, .int .i64 p1.1.2.1], .agg [.int .i64 p1.1.2.2.1, .int .i64 p1.1.2.2.2.1], .bool p1.1.2.2.2.2]) rfl) ?_
  refine f_op rfl rfl (s_extract (r := .agg [.int .i64 p1.1.1, .int .i64 p1.1.2.1]) rfl rfl) ?_
  refine f_op rfl rfl (s_extract (r := .agg [.int .i64 p1.1.2.2.1, .int .i64 p1.1.2.2.2.1]) rfl rfl) ?_
  refine f_op rfl rfl (s_extract (r := .bool p1.1.2.2.2.2) rfl rfl) ?_
  refine f_op rfl rfl (s_alloc (zs := [.int .i64 0, .int .i64 0]) ty43 rfl rfl) ?_
  refine f_op rfl rfl (s_alloc (zs := [.int .i64 0, .int .i64 0]) ty43 rfl rfl) ?_
  refine o_bind ?_; intro H2 hH2
  refine f_op rfl rfl (s_stores ty43 rfl rfl rfl rfl hH2 (Nat.le_of_eq (sts_mono hH2).symm)) ?_
  refine o_bind ?_; intro H3 hH3
  refine f_op rfl rfl (s_stores ty43 rfl rfl rfl rfl hH3 (Nat.le_of_eq (sts_mono hH3).symm)) ?_
  refine f_op rfl rfl (s_as (v := .bool p1.1.2.2.2.2) rfl) ?_
  refine f_nil ?_
  refine f_seq ?_
  refine f_seq ?_
  refine f_region ?_
  refine f_op rfl rfl (s_mv (v := .bool p1.1.2.2.2.2) rfl) ?_
  refine f_op rfl rfl (s_not rfl) ?_
  refine f_nil ?_
  refine f_if (fun h4 => ?_) (fun h4 => ?_)
  · skip
    refine f_know 16 rfl (bool_notT h4) ?_
    refine f_condF rfl ?_
    refine f_skip ?_
    refine f_seq ?_
    refine f_region ?_
    refine f_op rfl rfl (s_as (v := .sl ⟨true, 0, 0, 0, 0, 0⟩) rfl) ?_
    refine f_nil ?_
    refine f_seq ?_
    refine f_seq ?_
    refine f_region ?_
    refine f_op rfl rfl (s_idxA Try.underlying43 ty3 rfl rfl (by decide)) ?_
    refine o_bind ?_; intro x5 hx5
    refine f_op rfl rfl (s_load Try.underlying3 rfl rfl (ldI_eq hx5)) ?_
    refine f_op rfl rfl (s_as (v := .int .i64 x5) rfl) ?_
    refine f_nil ?_
    refine f_block ?_
    refine f_loop ?_
    refine f_keep [0, 3, 4, 6, 7] ?_
    exact s71_l0 happ FUEL a0 p1.2.n ((p1.2.push (.cells [.int .i64 0, .int .i64 0] false)).n) ⟨true, 0, 0, 0, 0, 0⟩ x5 H3
  · skip
    refine f_know 16 rfl (bool_notF h4) ?_
    refine f_condT rfl ?_
    refine f_seq ?_
    refine f_region ?_
    refine f_op rfl rfl (s_as (v := .sl ⟨true, 0, 0, 0, 0, 0⟩) rfl) ?_
    refine f_nil ?_
    exact f_ret (.tmp rfl (.nil)) rfl

/- 40 congou/cuts.Points -/
theorem ok40 : FnOk Try.prog 40 := ⟨⟨Try.f40, Try.func40, by kernel_rfl, rfl⟩⟩
theorem sim40 {app : App} (happ : AppSim Try.prog app) {a0 : Sl} {H : Hp} {p : (Sl × Int) × Hp} (h : r40 app a0 H = some p) : CallSim Try.prog 40 [.sl a0] H (.tup [.sl p.1.1, .int .i64 p.1.2]) p.2 := by
  refine callSim (fn := Try.f40) (ret := ret40) Try.func40 rfl Try.ntmps40 rfl ?_ h
  unfold r40
  refine f_seq ?_
  refine f_region ?_
  refine f_op rfl rfl (s_as (v := .sl ⟨true, 0, 0, 0, 0, 0⟩) rfl) ?_
  refine f_op rfl rfl (s_as (v := .int .i64 0) rfl) ?_
  refine f_nil ?_
  refine f_seq ?_
  refine f_seq ?_
  refine f_region ?_
  refine f_op rfl rfl (s_mv (v := .sl a0) rfl) ?_
  refine o_bind ?_; intro p1 hp1
  refine f_op rfl rfl (s_callF rfl ok63 (sim63 happ hp1)) ?_
  refine f_op rfl rfl (s_not rfl) ?_
  refine f_nil ?_
  refine f_if (fun h2 => ?_) (fun h2 => ?_)
  · skip
    refine f_know 6 rfl (bool_notT h2) ?_
    refine f_condF rfl ?_
    refine f_skip ?_
    refine f_seq ?_
    refine f_region ?_
    refine f_op rfl rfl (s_mv (v := .sl a0) rfl) ?_
    refine o_bind ?_; intro p3 hp3
    refine f_op rfl rfl (s_callF rfl ok71 (sim71 happ hp3)) ?_
    refine f_op rfl rfl (s_as (v := .sl p3.1) rfl) ?_
    refine f_op rfl rfl (s_as (v := .int .i64 0) rfl) ?_
    refine f_nil ?_
    exact f_ret (.tmp rfl (.tmp rfl (.nil))) rfl
  · skip
    refine f_know 6 rfl (bool_notF h2) ?_
    refine f_condT rfl ?_
    refine f_seq ?_
    refine f_region ?_
    refine f_op rfl rfl (s_as (v := .sl ⟨true, 0, 0, 0, 0, 0⟩) rfl) ?_
    refine f_op rfl rfl (s_as (v := .int .i64 2) rfl) ?_
    refine f_nil ?_
    exact f_ret (.tmp rfl (.tmp rfl (.nil))) rfl

end Go.Lt.P2
