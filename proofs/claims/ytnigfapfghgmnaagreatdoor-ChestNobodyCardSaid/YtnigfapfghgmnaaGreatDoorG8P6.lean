/- PRINTED BY A PROGRAM OF OURS: what each function that 'ChestNobody' reaches computes on the abstract heap, and that the translated code does just that. Nothing is asked of the input. -/
import Derived.Test.YtnigfapfghgmnaaGreatDoorG8P5
set_option linter.unusedVariables false
set_option linter.unusedSimpArgs false
set_option maxRecDepth 100000
set_option maxHeartbeats 4000000
namespace Go.Lt.P10
open Go Go.Lt Go.Proofs
/- 76 (*congou/chest.state).stocks -/
theorem ok76 : FnOk Tryz.prog 76 := ⟨⟨Tryz.f76, Tryz.func76, by kernel_rfl, rfl⟩⟩
theorem s76_l0 : ∀ (k_ : Nat) (v1 : Sl) (v2 : Sl) (v3 : Int) (v4 : Int) (H : Hp), Fin Tryz.prog Tryz.f76 ret76 22 (todoAt (bodyOf Tryz.f76) [1, 1, 0, 1, 0, 0] []) [(3, .sl v1), (9, .sl v2), (10, .int .i64 v3), (11, .int .i64 v4)] H (r76_l0 k_ v1 v2 v3 v4 H) := by
  intro k_
  induction k_ with
  | zero => intro _ _ _ _ _; exact f_none
  | succ k_ ih =>
    intro v1 v2 v3 v4 H
    rw [r76_l0]
    refine f_seq ?_
    refine f_region ?_
    refine f_op rfl rfl (s_lss rfl rfl) ?_
    refine f_nil ?_
    refine f_seq ?_
    refine f_if (fun h1 => ?_) (fun h1 => ?_)
    · skip
      refine f_know 12 rfl (dec_true h1) ?_
      refine f_condT rfl ?_
      refine f_skip ?_
      refine f_seq ?_
      refine f_block ?_
      refine f_seq ?_
      refine f_region ?_
      refine o_ck fun g2 => ?_
      refine f_op rfl rfl (s_idx Tryz.underlying64 ty93 rfl rfl g2) ?_
      refine o_bind ?_; intro x3 hx3
      refine o_bind ?_; intro x4 hx4
      refine f_op rfl rfl (s_loads Tryz.underlying93 rfl ty93 rfl (lds_cons (ldStr_eq hx3) (lds_cons (ldI_eq hx4) (lds_nil)))) ?_
      refine f_op rfl rfl (s_alloc (zs := [.str (ByteArray.mk #[]), .int .i64 0]) ty93 rfl rfl) ?_
      refine o_bind ?_; intro H5 hH5
      refine f_op rfl rfl (s_stores ty93 rfl rfl rfl rfl hH5 (Nat.le_of_eq (sts_mono hH5).symm)) ?_
      refine f_nil ?_
      refine f_region ?_
      refine f_op rfl rfl (s_mv (v := .sl v1) rfl) ?_
      refine f_op rfl rfl (s_fieldAddr Tryz.underlying93 rfl ty3 rfl) ?_
      refine o_bind ?_; intro x6 hx6
      refine f_op rfl rfl (s_load Tryz.underlying3 rfl rfl (ldI_eq hx6)) ?_
      refine f_op rfl rfl (s_buildSlice (cs := [.int .i64 x6]) Tryz.underlying30 ty3 (by decide) (by decide) rfl (by decide) rfl) ?_
      refine o_bind ?_; intro x7 hx7
      refine f_op rfl rfl (s_ap rfl rfl Tryz.underlying30 Tryz.underlying30 ty3 rfl rfl rfl rfl rfl rfl rfl hx7) ?_
      refine f_op rfl rfl (s_as (v := .sl x7.1) rfl) ?_
      refine f_nil ?_
      refine f_inBlock ?_
      refine f_region ?_
      refine f_op rfl rfl (s_add rfl rfl) ?_
      refine f_op rfl rfl (s_mv (v := .int .i64 (w64 (v4 + 1))) rfl) ?_
      refine f_nil ?_
      refine f_inLoop ?_
      refine f_keep [3, 9, 10, 11] ?_
      exact ih x7.1 v2 v3 (w64 (v4 + 1)) x7.2
    · skip
      refine f_know 12 rfl (dec_false h1) ?_
      refine f_condF rfl ?_
      refine f_exit rfl ?_
      refine f_seq ?_
      refine f_region ?_
      refine f_op rfl rfl (s_mv (v := .sl v1) rfl) ?_
      refine f_op rfl rfl (s_as (v := .sl v1) rfl) ?_
      refine f_nil ?_
      exact f_ret (.tmp rfl (.nil)) rfl

theorem sim76 {a0b : Nat} {a0o : Nat} {H : Hp} {p : Sl × Hp} (h : r76 a0b a0o H = some p) : CallSim Tryz.prog 76 [.ptr a0b a0o] H (.sl p.1) p.2 := by
  refine callSim (fn := Tryz.f76) (ret := ret76) Tryz.func76 rfl Tryz.ntmps76 rfl ?_ h
  unfold r76
  refine f_seq ?_
  refine f_region ?_
  refine f_op rfl rfl (s_as (v := .sl ⟨true, 0, 0, 0, 0, 0⟩) rfl) ?_
  refine f_nil ?_
  refine f_seq ?_
  refine f_region ?_
  refine f_op rfl rfl (s_as (v := .sl ⟨true, 0, 0, 0, 0, 0⟩) rfl) ?_
  refine f_nil ?_
  refine f_seq ?_
  refine f_seq ?_
  refine f_region ?_
  refine f_op rfl rfl (s_mv (v := .ptr a0b a0o) rfl) ?_
  refine f_op rfl rfl (s_nilCheck rfl) ?_
  refine f_op rfl rfl (s_fieldAddr Tryz.underlying69 rfl ty64 rfl) ?_
  refine o_bind ?_; intro x1 hx1
  refine f_op rfl rfl (s_load Tryz.underlying64 rfl rfl (ldSl_eq hx1)) ?_
  refine f_op rfl rfl (s_lenS rfl Tryz.underlying64 rfl) ?_
  refine f_op rfl rfl (s_mv (v := .int .i64 0) rfl) ?_
  refine f_nil ?_
  refine f_block ?_
  refine f_loop ?_
  refine f_keep [3, 9, 10, 11] ?_
  exact s76_l0 FUEL ⟨true, 0, 0, 0, 0, 0⟩ x1 (x1.len : Int) 0 H

/- 156 slices.Min[[]int,int] -/
theorem ok156 : FnOk Tryz.prog 156 := ⟨⟨Tryz.f156, Tryz.func156, by kernel_rfl, rfl⟩⟩
theorem s156_l0 : ∀ (k_ : Nat) (v1 : Sl) (v2 : Int) (v3 : Int) (H : Hp), Fin Tryz.prog Tryz.f156 ret156 25 (todoAt (bodyOf Tryz.f156) [1, 1, 1, 0, 1, 0, 0] []) [(0, .sl v1), (3, .int .i64 v2), (4, .int .i64 v3)] H (r156_l0 k_ v1 v2 v3 H) := by
  intro k_
  induction k_ with
  | zero => intro _ _ _ _; exact f_none
  | succ k_ ih =>
    intro v1 v2 v3 H
    rw [r156_l0]
    refine f_seq ?_
    refine f_seq ?_
    refine f_region ?_
    refine f_op rfl rfl (s_mv (v := .int .i64 v3) rfl) ?_
    refine f_op rfl rfl (s_mv (v := .sl v1) rfl) ?_
    refine f_op rfl rfl (s_lenS rfl Tryz.underlying30 rfl) ?_
    refine f_op rfl rfl (s_lss rfl rfl) ?_
    refine f_nil ?_
    refine f_if (fun h1 => ?_) (fun h1 => ?_)
    · skip
      refine f_know 15 rfl (dec_true h1) ?_
      refine f_condT rfl ?_
      refine f_skip ?_
      refine f_seq ?_
      refine f_block ?_
      refine f_region ?_
      refine f_op rfl rfl (s_mv (v := .int .i64 v2) rfl) ?_
      refine f_op rfl rfl (s_mv (v := .sl v1) rfl) ?_
      refine f_op rfl rfl (s_mv (v := .int .i64 v3) rfl) ?_
      refine o_ck fun g2 => ?_
      refine f_op rfl rfl (s_idx Tryz.underlying30 ty3 rfl rfl g2) ?_
      refine o_bind ?_; intro x3 hx3
      refine f_op rfl rfl (s_load Tryz.underlying3 rfl rfl (ldI_eq hx3)) ?_
      refine f_op rfl rfl (s_min2 rfl rfl) ?_
      refine f_op rfl rfl (s_as (v := .int .i64 (if x3 < v2 then x3 else v2)) rfl) ?_
      refine f_nil ?_
      refine f_inBlock ?_
      refine f_region ?_
      refine f_op rfl rfl (s_mv (v := .int .i64 v3) rfl) ?_
      refine f_op rfl rfl (s_add rfl rfl) ?_
      refine f_op rfl rfl (s_as (v := .int .i64 (w64 (v3 + 1))) rfl) ?_
      refine f_nil ?_
      refine f_inLoop ?_
      refine f_keep [0, 3, 4] ?_
      exact ih v1 (if x3 < v2 then x3 else v2) (w64 (v3 + 1)) H
    · skip
      refine f_know 15 rfl (dec_false h1) ?_
      refine f_condF rfl ?_
      refine f_exit rfl ?_
      refine f_seq ?_
      refine f_region ?_
      refine f_op rfl rfl (s_mv (v := .int .i64 v2) rfl) ?_
      refine f_op rfl rfl (s_as (v := .int .i64 v2) rfl) ?_
      refine f_nil ?_
      exact f_ret (.tmp rfl (.nil)) rfl

theorem sim156 {a0 : Sl} {H : Hp} {p : Int × Hp} (h : r156 a0 H = some p) : CallSim Tryz.prog 156 [.sl a0] H (.int .i64 p.1) p.2 := by
  refine callSim (fn := Tryz.f156) (ret := ret156) Tryz.func156 rfl Tryz.ntmps156 rfl ?_ h
  unfold r156
  refine f_seq ?_
  refine f_region ?_
  refine f_op rfl rfl (s_as (v := .int .i64 0) rfl) ?_
  refine f_nil ?_
  refine f_seq ?_
  refine f_seq ?_
  refine f_region ?_
  refine f_op rfl rfl (s_mv (v := .sl a0) rfl) ?_
  refine f_op rfl rfl (s_lenS rfl Tryz.underlying30 rfl) ?_
  refine f_op rfl rfl (s_lss rfl rfl) ?_
  refine f_nil ?_
  refine f_if (fun h1 => ?_) (fun h1 => ?_)
  · skip
    refine f_know 7 rfl (dec_true h1) ?_
    refine f_condT rfl ?_
    refine f_region ?_
    exact o_none
  · skip
    refine f_know 7 rfl (dec_false h1) ?_
    refine f_condF rfl ?_
    refine f_skip ?_
    refine f_seq ?_
    refine f_region ?_
    refine f_op rfl rfl (s_mv (v := .sl a0) rfl) ?_
    refine o_ck fun g2 => ?_
    refine f_op rfl rfl (s_idx Tryz.underlying30 ty3 rfl rfl g2) ?_
    refine o_bind ?_; intro x3 hx3
    refine f_op rfl rfl (s_load Tryz.underlying3 rfl rfl (ldI_eq hx3)) ?_
    refine f_op rfl rfl (s_as (v := .int .i64 x3) rfl) ?_
    refine f_nil ?_
    refine f_seq ?_
    refine f_seq ?_
    refine f_region ?_
    refine f_op rfl rfl (s_as (v := .int .i64 1) rfl) ?_
    refine f_nil ?_
    refine f_block ?_
    refine f_loop ?_
    refine f_keep [0, 3, 4] ?_
    exact s156_l0 FUEL a0 x3 1 H

/- 157 slices.Max[[]int,int] -/
theorem ok157 : FnOk Tryz.prog 157 := ⟨⟨Tryz.f157, Tryz.func157, by kernel_rfl, rfl⟩⟩
theorem s157_l0 : ∀ (k_ : Nat) (v1 : Sl) (v2 : Int) (v3 : Int) (H : Hp), Fin Tryz.prog Tryz.f157 ret157 25 (todoAt (bodyOf Tryz.f157) [1, 1, 1, 0, 1, 0, 0] []) [(0, .sl v1), (3, .int .i64 v2), (4, .int .i64 v3)] H (r157_l0 k_ v1 v2 v3 H) := by
  intro k_
  induction k_ with
  | zero => intro _ _ _ _; exact f_none
  | succ k_ ih =>
    intro v1 v2 v3 H
    rw [r157_l0]
    refine f_seq ?_
    refine f_seq ?_
    refine f_region ?_
    refine f_op rfl rfl (s_mv (v := .int .i64 v3) rfl) ?_
    refine f_op rfl rfl (s_mv (v := .sl v1) rfl) ?_
    refine f_op rfl rfl (s_lenS rfl Tryz.underlying30 rfl) ?_
    refine f_op rfl rfl (s_lss rfl rfl) ?_
    refine f_nil ?_
    refine f_if (fun h1 => ?_) (fun h1 => ?_)
    · skip
      refine f_know 15 rfl (dec_true h1) ?_
      refine f_condT rfl ?_
      refine f_skip ?_
      refine f_seq ?_
      refine f_block ?_
      refine f_region ?_
      refine f_op rfl rfl (s_mv (v := .int .i64 v2) rfl) ?_
      refine f_op rfl rfl (s_mv (v := .sl v1) rfl) ?_
      refine f_op rfl rfl (s_mv (v := .int .i64 v3) rfl) ?_
      refine o_ck fun g2 => ?_
      refine f_op rfl rfl (s_idx Tryz.underlying30 ty3 rfl rfl g2) ?_
      refine o_bind ?_; intro x3 hx3
      refine f_op rfl rfl (s_load Tryz.underlying3 rfl rfl (ldI_eq hx3)) ?_
      refine f_op rfl rfl (s_max2 rfl rfl) ?_
      refine f_op rfl rfl (s_as (v := .int .i64 (if v2 < x3 then x3 else v2)) rfl) ?_
      refine f_nil ?_
      refine f_inBlock ?_
      refine f_region ?_
      refine f_op rfl rfl (s_mv (v := .int .i64 v3) rfl) ?_
      refine f_op rfl rfl (s_add rfl rfl) ?_
      refine f_op rfl rfl (s_as (v := .int .i64 (w64 (v3 + 1))) rfl) ?_
      refine f_nil ?_
      refine f_inLoop ?_
      refine f_keep [0, 3, 4] ?_
      exact ih v1 (if v2 < x3 then x3 else v2) (w64 (v3 + 1)) H
    · skip
      refine f_know 15 rfl (dec_false h1) ?_
      refine f_condF rfl ?_
      refine f_exit rfl ?_
      refine f_seq ?_
      refine f_region ?_
      refine f_op rfl rfl (s_mv (v := .int .i64 v2) rfl) ?_
      refine f_op rfl rfl (s_as (v := .int .i64 v2) rfl) ?_
      refine f_nil ?_
      exact f_ret (.tmp rfl (.nil)) rfl

theorem sim157 {a0 : Sl} {H : Hp} {p : Int × Hp} (h : r157 a0 H = some p) : CallSim Tryz.prog 157 [.sl a0] H (.int .i64 p.1) p.2 := by
  refine callSim (fn := Tryz.f157) (ret := ret157) Tryz.func157 rfl Tryz.ntmps157 rfl ?_ h
  unfold r157
  refine f_seq ?_
  refine f_region ?_
  refine f_op rfl rfl (s_as (v := .int .i64 0) rfl) ?_
  refine f_nil ?_
  refine f_seq ?_
  refine f_seq ?_
  refine f_region ?_
  refine f_op rfl rfl (s_mv (v := .sl a0) rfl) ?_
  refine f_op rfl rfl (s_lenS rfl Tryz.underlying30 rfl) ?_
  refine f_op rfl rfl (s_lss rfl rfl) ?_
  refine f_nil ?_
  refine f_if (fun h1 => ?_) (fun h1 => ?_)
  · skip
    refine f_know 7 rfl (dec_true h1) ?_
    refine f_condT rfl ?_
    refine f_region ?_
    exact o_none
  · skip
    refine f_know 7 rfl (dec_false h1) ?_
    refine f_condF rfl ?_
    refine f_skip ?_
    refine f_seq ?_
    refine f_region ?_
    refine f_op rfl rfl (s_mv (v := .sl a0) rfl) ?_
    refine o_ck fun g2 => ?_
    refine f_op rfl rfl (s_idx Tryz.underlying30 ty3 rfl rfl g2) ?_
    refine o_bind ?_; intro x3 hx3
    refine f_op rfl rfl (s_load Tryz.underlying3 rfl rfl (ldI_eq hx3)) ?_
    refine f_op rfl rfl (s_as (v := .int .i64 x3) rfl) ?_
    refine f_nil ?_
    refine f_seq ?_
    refine f_seq ?_
    refine f_region ?_
    refine f_op rfl rfl (s_as (v := .int .i64 1) rfl) ?_
    refine f_nil ?_
    refine f_block ?_
    refine f_loop ?_
    refine f_keep [0, 3, 4] ?_
    exact s157_l0 FUEL a0 x3 1 H

/- 103 congou/shares.are -/
theorem ok103 : FnOk Tryz.prog 103 := ⟨⟨Tryz.f103, Tryz.func103, by kernel_rfl, rfl⟩⟩
theorem s103_j1 (kt0 : Sl → Sl → Int → Int → Hp → Option (Bool × Hp)) (hkt0 : ∀ (v1 : Sl) (v2 : Sl) (v3 : Int) (v4 : Int) (H : Hp), Fin Tryz.prog Tryz.f103 ret103 39 (todoAt (bodyOf Tryz.f103) [1, 0, 1, 0, 0] []) [(0, .sl v1), (5, .sl v2), (6, .int .i64 v3), (7, .int .i64 v4)] H (kt0 v1 v2 v3 v4 H)) (v1 : Sl) (v2 : Sl) (v3 : Int) (v4 : Int) (v5 : Bool) (H : Hp) : Fin Tryz.prog Tryz.f103 ret103 39 (todoAt (bodyOf Tryz.f103) [1, 0, 1, 0, 0, 1, 1, 0, 0, 1, 1] []) [(0, .sl v1), (5, .sl v2), (6, .int .i64 v3), (7, .int .i64 v4), (37, .bool v5)] H (r103_j1 kt0 v1 v2 v3 v4 v5 H) := by
  unfold r103_j1
  refine f_if (fun h1 => ?_) (fun h1 => ?_)
  · skip
    refine f_know 37 rfl (bool_T h1) ?_
    refine f_condT rfl ?_
    refine f_seq ?_
    refine f_region ?_
    refine f_op rfl rfl (s_as (v := .bool false) rfl) ?_
    refine f_nil ?_
    exact f_ret (.tmp rfl (.nil)) rfl
  · skip
    refine f_know 37 rfl (bool_F h1) ?_
    refine f_condF rfl ?_
    refine f_skip ?_
    refine f_inBlock ?_
    refine f_region ?_
    refine f_op rfl rfl (s_add rfl rfl) ?_
    refine f_op rfl rfl (s_mv (v := .int .i64 (w64 (v4 + 1))) rfl) ?_
    refine f_nil ?_
    refine f_inLoop ?_
    refine f_keep [0, 5, 6, 7] ?_
    exact hkt0 v1 v2 v3 (w64 (v4 + 1)) H

theorem s103_l0 : ∀ (k_ : Nat) (v1 : Sl) (v2 : Sl) (v3 : Int) (v4 : Int) (H : Hp), Fin Tryz.prog Tryz.f103 ret103 39 (todoAt (bodyOf Tryz.f103) [1, 0, 1, 0, 0] []) [(0, .sl v1), (5, .sl v2), (6, .int .i64 v3), (7, .int .i64 v4)] H (r103_l0 k_ v1 v2 v3 v4 H) := by
  intro k_
  induction k_ with
  | zero => intro _ _ _ _ _; exact f_none
  | succ k_ ih =>
    intro v1 v2 v3 v4 H
    rw [r103_l0]
    refine f_seq ?_
    refine f_region ?_
    refine f_op rfl rfl (s_lss rfl rfl) ?_
    refine f_nil ?_
    refine f_seq ?_
    refine f_if (fun h1 => ?_) (fun h1 => ?_)
    · skip
      refine f_know 8 rfl (dec_true h1) ?_
      refine f_condT rfl ?_
      refine f_skip ?_
      refine f_seq ?_
      refine f_block ?_
      refine f_seq ?_
      refine f_region ?_
      refine o_ck fun g2 => ?_
      refine f_op rfl rfl (s_idx Tryz.underlying122 ty30 rfl rfl g2) ?_
      refine o_bind ?_; intro x3 hx3
      refine f_op rfl rfl (s_load Tryz.underlying30 rfl rfl (ldSl_eq hx3)) ?_
      refine f_op rfl rfl (s_as (v := .sl x3) rfl) ?_
      refine f_nil ?_
      refine f_seq ?_
      refine f_region ?_
      refine f_op rfl rfl (s_mv (v := .sl x3) rfl) ?_
      refine f_op rfl rfl (s_lenS rfl Tryz.underlying30 rfl) ?_
      refine f_op rfl rfl (s_lss rfl rfl) ?_
      refine f_op rfl rfl (s_mv (v := .bool (decide ((x3.len : Int) < 1))) rfl) ?_
      refine o_if (fun h4 => ?_) (fun h4 => ?_)
      · skip
        refine o_know 14 rfl (dec_true h4) ?_
        refine f_no rfl rfl ?_
        refine f_no rfl rfl ?_
        refine f_no rfl rfl ?_
        refine f_op rfl rfl (s_pickT (v := .bool true) rfl rfl) ?_
        refine f_op rfl rfl (s_mv (v := .bool true) rfl) ?_
        refine f_no rfl rfl ?_
        refine f_no rfl rfl ?_
        refine f_no rfl rfl ?_
        refine f_no rfl rfl ?_
        refine f_no rfl rfl ?_
        refine f_no rfl rfl ?_
        refine f_no rfl rfl ?_
        refine f_op rfl rfl (s_pickT (v := .bool true) rfl rfl) ?_
        refine f_op rfl rfl (s_mv (v := .bool true) rfl) ?_
        refine f_no rfl rfl ?_
        refine f_no rfl rfl ?_
        refine f_no rfl rfl ?_
        refine f_op rfl rfl (s_pickT (v := .bool true) rfl rfl) ?_
        refine f_op rfl rfl (s_mv (v := .bool true) rfl) ?_
        refine f_no rfl rfl ?_
        refine f_no rfl rfl ?_
        refine f_no rfl rfl ?_
        refine f_op rfl rfl (s_pickT (v := .bool true) rfl rfl) ?_
        refine f_nil ?_
        refine f_keep [0, 5, 6, 7, 37] ?_
        exact s103_j1 _ (fun v1_ v2_ v3_ v4_ H_ => ih v1_ v2_ v3_ v4_ H_) v1 v2 v3 v4 true H
      · skip
        refine o_know 14 rfl (dec_false h4) ?_
        refine f_op rfl rfl (s_mv (v := .sl x3) rfl) ?_
        refine f_op rfl rfl (s_lenS rfl Tryz.underlying30 rfl) ?_
        refine f_op rfl rfl (s_gtr rfl rfl) ?_
        refine f_op rfl rfl (s_pickF (v := .bool (decide (6 < (x3.len : Int)))) rfl rfl) ?_
        refine f_op rfl rfl (s_mv (v := .bool (decide (6 < (x3.len : Int)))) rfl) ?_
        refine o_if (fun h5 => ?_) (fun h5 => ?_)
        · skip
          refine o_know 19 rfl (dec_true h5) ?_
          refine f_no rfl rfl ?_
          refine f_no rfl rfl ?_
          refine f_no rfl rfl ?_
          refine f_no rfl rfl ?_
          refine f_no rfl rfl ?_
          refine f_no rfl rfl ?_
          refine f_no rfl rfl ?_
          refine f_op rfl rfl (s_pickT (v := .bool true) rfl rfl) ?_
          refine f_op rfl rfl (s_mv (v := .bool true) rfl) ?_
          refine f_no rfl rfl ?_
          refine f_no rfl rfl ?_
          refine f_no rfl rfl ?_
          refine f_op rfl rfl (s_pickT (v := .bool true) rfl rfl) ?_
          refine f_op rfl rfl (s_mv (v := .bool true) rfl) ?_
          refine f_no rfl rfl ?_
          refine f_no rfl rfl ?_
          refine f_no rfl rfl ?_
          refine f_op rfl rfl (s_pickT (v := .bool true) rfl rfl) ?_
          refine f_nil ?_
          refine f_keep [0, 5, 6, 7, 37] ?_
          exact s103_j1 _ (fun v1_ v2_ v3_ v4_ H_ => ih v1_ v2_ v3_ v4_ H_) v1 v2 v3 v4 true H
        · skip
          refine o_know 19 rfl (dec_false h5) ?_
          refine f_op rfl rfl (s_mv (v := .sl x3) rfl) ?_
          refine f_op rfl rfl (s_lenS rfl Tryz.underlying30 rfl) ?_
          refine f_op rfl rfl (s_mv (v := .sl v1) rfl) ?_
          refine o_ck fun g6 => ?_
          refine f_op rfl rfl (s_idx Tryz.underlying122 ty30 rfl rfl g6) ?_
          refine o_bind ?_; intro x7 hx7
          refine f_op rfl rfl (s_load Tryz.underlying30 rfl rfl (ldSl_eq hx7)) ?_
          refine f_op rfl rfl (s_lenS rfl Tryz.underlying30 rfl) ?_
          refine f_op rfl rfl (s_neq rfl rfl) ?_
          refine f_op rfl rfl (s_pickF (v := .bool (decide ((x3.len : Int) ≠ (x7.len : Int)))) rfl rfl) ?_
          refine f_op rfl rfl (s_mv (v := .bool (decide ((x3.len : Int) ≠ (x7.len : Int)))) rfl) ?_
          refine o_if (fun h8 => ?_) (fun h8 => ?_)
          · skip
            refine o_know 28 rfl (dec_true h8) ?_
            refine f_no rfl rfl ?_
            refine f_no rfl rfl ?_
            refine f_no rfl rfl ?_
            refine f_op rfl rfl (s_pickT (v := .bool true) rfl rfl) ?_
            refine f_op rfl rfl (s_mv (v := .bool true) rfl) ?_
            refine f_no rfl rfl ?_
            refine f_no rfl rfl ?_
            refine f_no rfl rfl ?_
            refine f_op rfl rfl (s_pickT (v := .bool true) rfl rfl) ?_
            refine f_nil ?_
            refine f_keep [0, 5, 6, 7, 37] ?_
            exact s103_j1 _ (fun v1_ v2_ v3_ v4_ H_ => ih v1_ v2_ v3_ v4_ H_) v1 v2 v3 v4 true H
          · skip
            refine o_know 28 rfl (dec_false h8) ?_
            refine f_op rfl rfl (s_mv (v := .sl x3) rfl) ?_
            refine o_bind ?_; intro p9 hp9
            refine f_op rfl rfl (s_callF rfl ok156 (sim156 hp9)) ?_
            refine f_op rfl rfl (s_lss rfl rfl) ?_
            refine f_op rfl rfl (s_pickF (v := .bool (decide (p9.1 < 0))) rfl rfl) ?_
            refine f_op rfl rfl (s_mv (v := .bool (decide (p9.1 < 0))) rfl) ?_
            refine o_if (fun h10 => ?_) (fun h10 => ?_)
            · skip
              refine o_know 33 rfl (dec_true h10) ?_
              refine f_no rfl rfl ?_
              refine f_no rfl rfl ?_
              refine f_no rfl rfl ?_
              refine f_op rfl rfl (s_pickT (v := .bool true) rfl rfl) ?_
              refine f_nil ?_
              refine f_keep [0, 5, 6, 7, 37] ?_
              exact s103_j1 _ (fun v1_ v2_ v3_ v4_ H_ => ih v1_ v2_ v3_ v4_ H_) v1 v2 v3 v4 true p9.2
            · skip
              refine o_know 33 rfl (dec_false h10) ?_
              refine f_op rfl rfl (s_mv (v := .sl x3) rfl) ?_
              refine o_bind ?_; intro p11 hp11
              refine f_op rfl rfl (s_callF rfl ok157 (sim157 hp11)) ?_
              refine f_op rfl rfl (s_gtr rfl rfl) ?_
              refine f_op rfl rfl (s_pickF (v := .bool (decide (20 < p11.1))) rfl rfl) ?_
              refine f_nil ?_
              refine f_keep [0, 5, 6, 7, 37] ?_
              exact s103_j1 _ (fun v1_ v2_ v3_ v4_ H_ => ih v1_ v2_ v3_ v4_ H_) v1 v2 v3 v4 (decide (20 < p11.1)) p11.2
    · skip
      refine f_know 8 rfl (dec_false h1) ?_
      refine f_condF rfl ?_
      refine f_exit rfl ?_
      refine f_seq ?_
      refine f_region ?_
      refine f_op rfl rfl (s_as (v := .bool true) rfl) ?_
      refine f_nil ?_
      exact f_ret (.tmp rfl (.nil)) rfl

theorem sim103 {a0 : Sl} {H : Hp} {p : Bool × Hp} (h : r103 a0 H = some p) : CallSim Tryz.prog 103 [.sl a0] H (.bool p.1) p.2 := by
  refine callSim (fn := Tryz.f103) (ret := ret103) Tryz.func103 rfl Tryz.ntmps103 rfl ?_ h
  unfold r103
  refine f_seq ?_
  refine f_region ?_
  refine f_op rfl rfl (s_as (v := .bool false) rfl) ?_
  refine f_nil ?_
  refine f_seq ?_
  refine f_seq ?_
  refine f_region ?_
  refine f_op rfl rfl (s_mv (v := .sl a0) rfl) ?_
  refine f_op rfl rfl (s_lenS rfl Tryz.underlying122 rfl) ?_
  refine f_op rfl rfl (s_mv (v := .int .i64 0) rfl) ?_
  refine f_nil ?_
  refine f_block ?_
  refine f_loop ?_
  refine f_keep [0, 5, 6, 7] ?_
  exact s103_l0 FUEL a0 a0 (a0.len : Int) 0 H

/- 87 congou/shares.Gap -/
theorem ok87 : FnOk Tryz.prog 87 := ⟨⟨Tryz.f87, Tryz.func87, by kernel_rfl, rfl⟩⟩
theorem s87_l1 (kt0 : Sl → Int → Sl → Int → Int → Hp → Option ((Int × Int) × Hp)) (hkt0 : ∀ (v1 : Sl) (v2 : Int) (v3 : Sl) (v4 : Int) (v5 : Int) (H : Hp), Fin Tryz.prog Tryz.f87 ret87 40 (todoAt (bodyOf Tryz.f87) [1, 1, 1, 0, 1, 0, 0] []) [(0, .sl v1), (4, .int .i64 v2), (13, .sl v3), (14, .int .i64 v4), (15, .int .i64 v5)] H (kt0 v1 v2 v3 v4 v5 H)) : ∀ (k_ : Nat) (v1 : Sl) (v2 : Int) (v3 : Int) (v4 : Sl) (v5 : Int) (v6 : Int) (v7 : Sl) (v8 : Int) (v9 : Int) (H : Hp), Fin Tryz.prog Tryz.f87 ret87 40 (todoAt (bodyOf Tryz.f87) [1, 1, 1, 0, 1, 0, 0, 1, 1, 0, 0, 1, 1, 0, 0] []) [(0, .sl v1), (4, .int .i64 v2), (6, .int .i64 v3), (13, .sl v4), (14, .int .i64 v5), (15, .int .i64 v6), (22, .sl v7), (23, .int .i64 v8), (24, .int .i64 v9)] H (r87_l1 kt0 k_ v1 v2 v3 v4 v5 v6 v7 v8 v9 H) := by
  intro k_
  induction k_ with
  | zero => intro _ _ _ _ _ _ _ _ _ _; exact f_none
  | succ k_ ih =>
    intro v1 v2 v3 v4 v5 v6 v7 v8 v9 H
    rw [r87_l1]
    refine f_seq ?_
    refine f_region ?_
    refine f_op rfl rfl (s_lss rfl rfl) ?_
    refine f_nil ?_
    refine f_seq ?_
    refine f_if (fun h1 => ?_) (fun h1 => ?_)
    · skip
      refine f_know 25 rfl (dec_true h1) ?_
      refine f_condT rfl ?_
      refine f_skip ?_
      refine f_seq ?_
      refine f_block ?_
      refine f_seq ?_
      refine f_region ?_
      refine o_ck fun g2 => ?_
      refine f_op rfl rfl (s_idx Tryz.underlying30 ty3 rfl rfl g2) ?_
      refine o_bind ?_; intro x3 hx3
      refine f_op rfl rfl (s_load Tryz.underlying3 rfl rfl (ldI_eq hx3)) ?_
      refine f_op rfl rfl (s_as (v := .int .i64 x3) rfl) ?_
      refine f_nil ?_
      refine f_region ?_
      refine f_op rfl rfl (s_mv (v := .int .i64 v2) rfl) ?_
      refine f_op rfl rfl (s_mv (v := .int .i64 v3) rfl) ?_
      refine f_op rfl rfl (s_mv (v := .int .i64 x3) rfl) ?_
      refine f_op rfl rfl (s_sub rfl rfl) ?_
      refine f_op rfl rfl (s_mv (v := .int .i64 x3) rfl) ?_
      refine f_op rfl rfl (s_mv (v := .int .i64 v3) rfl) ?_
      refine f_op rfl rfl (s_sub rfl rfl) ?_
      refine f_op rfl rfl (s_max2 rfl rfl) ?_
      refine f_op rfl rfl (s_add rfl rfl) ?_
      refine f_op rfl rfl (s_as (v := .int .i64 (w64 (v2 + (if (w64 (v3 - x3)) < (w64 (x3 - v3)) then (w64 (x3 - v3)) else (w64 (v3 - x3)))))) rfl) ?_
      refine f_nil ?_
      refine f_inBlock ?_
      refine f_region ?_
      refine f_op rfl rfl (s_add rfl rfl) ?_
      refine f_op rfl rfl (s_mv (v := .int .i64 (w64 (v9 + 1))) rfl) ?_
      refine f_nil ?_
      refine f_inLoop ?_
      refine f_keep [0, 4, 6, 13, 14, 15, 22, 23, 24] ?_
      exact ih v1 (w64 (v2 + (if (w64 (v3 - x3)) < (w64 (x3 - v3)) then (w64 (x3 - v3)) else (w64 (v3 - x3))))) v3 v4 v5 v6 v7 v8 (w64 (v9 + 1)) H
    · skip
      refine f_know 25 rfl (dec_false h1) ?_
      refine f_condF rfl ?_
      refine f_exit rfl ?_
      refine f_inBlock ?_
      refine f_region ?_
      refine f_op rfl rfl (s_add rfl rfl) ?_
      refine f_op rfl rfl (s_mv (v := .int .i64 (w64 (v6 + 1))) rfl) ?_
      refine f_nil ?_
      refine f_inLoop ?_
      refine f_keep [0, 4, 13, 14, 15] ?_
      exact hkt0 v1 v2 v4 v5 (w64 (v6 + 1)) H

theorem s87_l0 : ∀ (k_ : Nat) (v1 : Sl) (v2 : Int) (v3 : Sl) (v4 : Int) (v5 : Int) (H : Hp), Fin Tryz.prog Tryz.f87 ret87 40 (todoAt (bodyOf Tryz.f87) [1, 1, 1, 0, 1, 0, 0] []) [(0, .sl v1), (4, .int .i64 v2), (13, .sl v3), (14, .int .i64 v4), (15, .int .i64 v5)] H (r87_l0 k_ v1 v2 v3 v4 v5 H) := by
  intro k_
  induction k_ with
  | zero => intro _ _ _ _ _ _; exact f_none
  | succ k_ ih =>
    intro v1 v2 v3 v4 v5 H
    rw [r87_l0]
    refine f_seq ?_
    refine f_region ?_
    refine f_op rfl rfl (s_lss rfl rfl) ?_
    refine f_nil ?_
    refine f_seq ?_
    refine f_if (fun h1 => ?_) (fun h1 => ?_)
    · skip
      refine f_know 16 rfl (dec_true h1) ?_
      refine f_condT rfl ?_
      refine f_skip ?_
      refine f_seq ?_
      refine f_block ?_
      refine f_seq ?_
      refine f_region ?_
      refine f_op rfl rfl (s_mv (v := .int .i64 v5) rfl) ?_
      refine o_ck fun g2 => ?_
      refine f_op rfl rfl (s_idx Tryz.underlying30 ty3 rfl rfl g2) ?_
      refine o_bind ?_; intro x3 hx3
      refine f_op rfl rfl (s_load Tryz.underlying3 rfl rfl (ldI_eq hx3)) ?_
      refine f_op rfl rfl (s_as (v := .int .i64 v5) rfl) ?_
      refine f_op rfl rfl (s_as (v := .int .i64 x3) rfl) ?_
      refine f_nil ?_
      refine f_seq ?_
      refine f_region ?_
      refine f_op rfl rfl (s_mv (v := .sl v1) rfl) ?_
      refine f_op rfl rfl (s_mv (v := .int .i64 v5) rfl) ?_
      refine o_ck fun g4 => ?_
      refine f_op rfl rfl (s_slice Tryz.underlying30 ty3 rfl rfl rfl g4.1 g4.2) ?_
      refine f_op rfl rfl (s_lenS rfl Tryz.underlying30 rfl) ?_
      refine f_op rfl rfl (s_mv (v := .int .i64 0) rfl) ?_
      refine f_nil ?_
      refine f_block ?_
      refine f_loop ?_
      refine f_keep [0, 4, 6, 13, 14, 15, 22, 23, 24] ?_
      exact s87_l1 _ (fun v1_ v2_ v3_ v4_ v5_ H_ => ih v1_ v2_ v3_ v4_ v5_ H_) FUEL v1 v2 x3 v3 v4 v5 (v1.cut 1 (0 : Int).toNat (v5 : Int).toNat) ((v1.cut 1 (0 : Int).toNat (v5 : Int).toNat).len : Int) 0 H
    · skip
      refine f_know 16 rfl (dec_false h1) ?_
      refine f_condF rfl ?_
      refine f_exit rfl ?_
      refine f_seq ?_
      refine f_region ?_
      refine f_op rfl rfl (s_mv (v := .int .i64 v2) rfl) ?_
      refine f_op rfl rfl (s_as (v := .int .i64 v2) rfl) ?_
      refine f_op rfl rfl (s_as (v := .int .i64 0) rfl) ?_
      refine f_nil ?_
      exact f_ret (.tmp rfl (.tmp rfl (.nil))) rfl

theorem sim87 {a0 : Sl} {H : Hp} {p : (Int × Int) × Hp} (h : r87 a0 H = some p) : CallSim Tryz.prog 87 [.sl a0] H (.tup [.int .i64 p.1.1, .int .i64 p.1.2]) p.2 := by
  refine callSim (fn := Tryz.f87) (ret := ret87) Tryz.func87 rfl Tryz.ntmps87 rfl ?_ h
  unfold r87
  refine f_seq ?_
  refine f_region ?_
  refine f_op rfl rfl (s_as (v := .int .i64 0) rfl) ?_
  refine f_op rfl rfl (s_as (v := .int .i64 0) rfl) ?_
  refine f_nil ?_
  refine f_seq ?_
  refine f_seq ?_
  refine f_region ?_
  refine f_op rfl rfl (s_mv (v := .sl a0) rfl) ?_
  refine f_op rfl rfl (s_buildSlice (cs := [.sl a0]) Tryz.underlying122 ty30 (by decide) (by decide) rfl (by decide) rfl) ?_
  refine o_bind ?_; intro p1 hp1
  refine f_op rfl rfl (s_callF rfl ok103 (sim103 hp1)) ?_
  refine f_op rfl rfl (s_not rfl) ?_
  refine f_nil ?_
  refine f_if (fun h2 => ?_) (fun h2 => ?_)
  · skip
    refine f_know 12 rfl (bool_notT h2) ?_
    refine f_condF rfl ?_
    refine f_skip ?_
    refine f_seq ?_
    refine f_region ?_
    refine f_op rfl rfl (s_as (v := .int .i64 0) rfl) ?_
    refine f_nil ?_
    refine f_seq ?_
    refine f_seq ?_
    refine f_region ?_
    refine f_op rfl rfl (s_mv (v := .sl a0) rfl) ?_
    refine f_op rfl rfl (s_lenS rfl Tryz.underlying30 rfl) ?_
    refine f_op rfl rfl (s_mv (v := .int .i64 0) rfl) ?_
    refine f_nil ?_
    refine f_block ?_
    refine f_loop ?_
    refine f_keep [0, 4, 13, 14, 15] ?_
    exact s87_l0 FUEL a0 0 a0 (a0.len : Int) 0 p1.2
  · skip
    refine f_know 12 rfl (bool_notF h2) ?_
    refine f_condT rfl ?_
    refine f_seq ?_
    refine f_region ?_
    refine f_op rfl rfl (s_as (v := .int .i64 0) rfl) ?_
    refine f_op rfl rfl (s_as (v := .int .i64 2) rfl) ?_
    refine f_nil ?_
    exact f_ret (.tmp rfl (.tmp rfl (.nil))) rfl

/- 60 (*congou/chest.state).gap -/
theorem ok60 : FnOk Tryz.prog 60 := ⟨⟨Tryz.f60, Tryz.func60, by kernel_rfl, rfl⟩⟩
theorem sim60 {app : App} (happ : AppSim Tryz.prog app) {a0b : Nat} {a0o : Nat} {a1_0 : Sl} {a1_1 : Sl} {H : Hp} {p : (Sl × Int) × Hp} (h : r60 app a0b a0o a1_0 a1_1 H = some p) : CallSim Tryz.prog 60 [.ptr a0b a0o, .agg [.sl a1_0, .sl a1_1]] H (.tup [.sl p.1.1, .int .i64 p.1.2]) p.2 := by
  refine callSim (fn := Tryz.f60) (ret := ret60) Tryz.func60 rfl Tryz.ntmps60 rfl ?_ h
  unfold r60
  refine f_seq ?_
  refine f_region ?_
  refine f_op rfl rfl (s_box (v := .agg [.sl a1_0, .sl a1_1]) rfl rfl) ?_
  refine f_op rfl rfl (s_as (v := .sl ⟨true, 0, 0, 0, 0, 0⟩) rfl) ?_
  refine f_op rfl rfl (s_as (v := .int .i64 0) rfl) ?_
  refine o_hp ?_; intro H1 hH1
  refine f_nil ?_
  refine f_seq ?_
  refine f_seq ?_
  refine f_region ?_
  refine f_op rfl rfl (s_mv (v := .ptr a0b a0o) rfl) ?_
  refine f_op rfl rfl (s_nilCheck rfl) ?_
  refine f_op rfl rfl (s_fieldAddr Tryz.underlying69 rfl ty64 rfl) ?_
  refine o_bind ?_; intro x2 hx2
  refine f_op rfl rfl (s_load Tryz.underlying64 rfl rfl (ldSl_eq hx2)) ?_
  refine f_op rfl rfl (s_lenS rfl Tryz.underlying64 rfl) ?_
  refine f_op rfl rfl (s_eql rfl rfl) ?_
  refine f_nil ?_
  refine f_if (fun h3 => ?_) (fun h3 => ?_)
  · skip
    refine f_know 13 rfl (dec_true h3) ?_
    refine f_condT rfl ?_
    refine f_seq ?_
    refine f_region ?_
    refine f_op rfl rfl (s_as (v := .sl ⟨true, 0, 0, 0, 0, 0⟩) rfl) ?_
    refine f_op rfl rfl (s_as (v := .int .i64 4) rfl) ?_
    refine f_nil ?_
    exact f_ret (.tmp rfl (.tmp rfl (.nil))) rfl
  · skip
    refine f_know 13 rfl (dec_false h3) ?_
    refine f_condF rfl ?_
    refine f_skip ?_
    refine f_seq ?_
    refine f_region ?_
    refine f_op rfl rfl (s_mv (v := .ptr a0b a0o) rfl) ?_
    refine o_bind ?_; intro p4 hp4
    refine f_op rfl rfl (s_callF rfl ok76 (sim76 hp4)) ?_
    refine o_bind ?_; intro p5 hp5
    refine f_op rfl rfl (s_callF rfl ok87 (sim87 hp5)) ?_
    refine f_op rfl rfl (s_mv (v := .tup [.int .i64 p5.1.1, .int .i64 p5.1.2]) rfl) ?_
    refine f_op rfl rfl (s_extract (r := .int .i64 p5.1.1) rfl rfl) ?_
    refine f_op rfl rfl (s_extract (r := .int .i64 p5.1.2) rfl rfl) ?_
    refine f_op rfl rfl (s_as (v := .int .i64 p5.1.1) rfl) ?_
    refine f_op rfl rfl (s_as (v := .int .i64 p5.1.2) rfl) ?_
    refine f_nil ?_
    refine f_seq ?_
    refine f_region ?_
    refine f_op rfl rfl (s_mv (v := .int .i64 p5.1.1) rfl) ?_
    refine f_op rfl rfl (s_buildSlice (cs := [.int .i64 p5.1.1]) Tryz.underlying30 ty3 (by decide) (by decide) rfl (by decide) rfl) ?_
    refine o_bind ?_; intro p6 hp6
    refine f_op rfl rfl (s_callF rfl ok57 (sim57 happ hp6)) ?_
    refine f_op rfl rfl (s_mv (v := .int .i64 p5.1.2) rfl) ?_
    refine f_op rfl rfl (s_as (v := .sl p6.1) rfl) ?_
    refine f_op rfl rfl (s_as (v := .int .i64 p5.1.2) rfl) ?_
    refine f_nil ?_
    exact f_ret (.tmp rfl (.tmp rfl (.nil))) rfl

/- 102 (*congou/chest.state).find$1 -/
theorem ok102 : FnOk Tryz.prog 102 := ⟨⟨Tryz.f102, Tryz.func102, by kernel_rfl, rfl⟩⟩
theorem sim102 {a0_0 : ByteArray} {a0_1 : Int} {c0 : Nat} {H : Hp} {p : Bool × Hp} (h : r102 a0_0 a0_1 c0 H = some p) : CallSim Tryz.prog 102 [.agg [.str a0_0, .int .i64 a0_1], .ptr c0 0] H (.bool p.1) p.2 := by
  refine callSim (fn := Tryz.f102) (ret := ret102) Tryz.func102 rfl Tryz.ntmps102 rfl ?_ h
  unfold r102
  refine f_seq ?_
  refine f_region ?_
  refine f_op rfl rfl (s_box (v := .agg [.str a0_0, .int .i64 a0_1]) rfl rfl) ?_
  refine f_op rfl rfl (s_as (v := .bool false) rfl) ?_
  refine o_hp ?_; intro H1 hH1
  refine f_nil ?_
  refine f_seq ?_
  refine f_region ?_
  refine f_op rfl rfl (s_fieldAddr Tryz.underlying93 rfl ty9 rfl) ?_
  refine o_bind ?_; intro x2 hx2
  refine f_op rfl rfl (s_load Tryz.underlying9 rfl rfl (ldStr_eq hx2)) ?_
  refine o_bind ?_; intro x3 hx3
  refine f_op rfl rfl (s_load Tryz.underlying9 rfl rfl (ldStr_eq hx3)) ?_
  refine f_op rfl rfl (s_eqStr rfl rfl) ?_
  refine f_op rfl rfl (s_as (v := .bool (strEq x2 x3)) rfl) ?_
  refine f_nil ?_
  exact f_ret (.tmp rfl (.nil)) rfl

/- 258 internal/strconv.lower -/
theorem ok258 : FnOk Tryz.prog 258 := ⟨⟨Tryz.f258, Tryz.func258, by kernel_rfl, rfl⟩⟩
theorem sim258 {a0 : Int} {H : Hp} {p : Int × Hp} (h : r258 a0 H = some p) : CallSim Tryz.prog 258 [.int .u8 a0] H (.int .u8 p.1) p.2 := by
  refine callSim (fn := Tryz.f258) (ret := ret258) Tryz.func258 rfl Tryz.ntmps258 rfl ?_ h
  unfold r258
  refine f_seq ?_
  refine f_region ?_
  refine f_op rfl rfl (s_as (v := .int .u8 0) rfl) ?_
  refine f_nil ?_
  refine f_seq ?_
  refine f_region ?_
  refine f_op rfl rfl (s_mv (v := .int .u8 a0) rfl) ?_
  refine f_op rfl rfl (s_or rfl rfl) ?_
  refine f_op rfl rfl (s_as (v := .int .u8 (bitsOf .or .u8 a0 32)) rfl) ?_
  refine f_nil ?_
  exact f_ret (.tmp rfl (.nil)) rfl

/- 259 internal/strconv.underscoreOK -/
theorem ok259 : FnOk Tryz.prog 259 := ⟨⟨Tryz.f259, Tryz.func259, by kernel_rfl, rfl⟩⟩
theorem s259_j5 (kt0 : ByteArray → Int → Int → Bool → Hp → Option (Bool × Hp)) (hkt0 : ∀ (v1 : ByteArray) (v2 : Int) (v3 : Int) (v4 : Bool) (H : Hp), Fin Tryz.prog Tryz.f259 ret259 94 (todoAt (bodyOf Tryz.f259) [1, 1, 1, 1, 1, 1, 0, 0, 0] []) [(0, .str v1), (3, .int .i32 v2), (4, .int .i64 v3), (5, .bool v4)] H (kt0 v1 v2 v3 v4 H)) (v1 : ByteArray) (v2 : Int) (v3 : Int) (v4 : Bool) (v5 : Bool) (H : Hp) : Fin Tryz.prog Tryz.f259 ret259 94 (todoAt (bodyOf Tryz.f259) [1, 1, 1, 1, 1, 1, 0, 0, 0, 1, 0, 0, 0, 1] []) [(0, .str v1), (3, .int .i32 v2), (4, .int .i64 v3), (5, .bool v4), (83, .bool v5)] H (r259_j5 kt0 v1 v2 v3 v4 v5 H) := by
  unfold r259_j5
  refine f_if (fun h1 => ?_) (fun h1 => ?_)
  · skip
    refine f_know 83 rfl (bool_T h1) ?_
    refine f_condT rfl ?_
    refine f_seq ?_
    refine f_region ?_
    refine f_op rfl rfl (s_as (v := .int .i32 48) rfl) ?_
    refine f_nil ?_
    refine f_exit rfl ?_
    refine f_region ?_
    refine f_op rfl rfl (s_mv (v := .int .i64 v3) rfl) ?_
    refine f_op rfl rfl (s_add rfl rfl) ?_
    refine f_op rfl rfl (s_as (v := .int .i64 (w64 (v3 + 1))) rfl) ?_
    refine f_nil ?_
    refine f_inLoop ?_
    refine f_keep [0, 3, 4, 5] ?_
    exact hkt0 v1 48 (w64 (v3 + 1)) v4 H
  · skip
    refine f_know 83 rfl (bool_F h1) ?_
    refine f_condF rfl ?_
    refine f_skip ?_
    refine f_seq ?_
    refine f_seq ?_
    refine f_region ?_
    refine f_op rfl rfl (s_mv (v := .str v1) rfl) ?_
    refine f_op rfl rfl (s_mv (v := .int .i64 v3) rfl) ?_
    refine o_ck fun g2 => ?_
    refine f_op rfl rfl (s_indexStr Tryz.underlying9 rfl rfl g2) ?_
    refine f_op rfl rfl (s_eql rfl rfl) ?_
    refine f_nil ?_
    refine f_if (fun h3 => ?_) (fun h3 => ?_)
    · skip
      refine f_know 87 rfl (dec_true h3) ?_
      refine f_condT rfl ?_
      refine f_seq ?_
      refine f_seq ?_
      refine f_region ?_
      refine f_op rfl rfl (s_mv (v := .int .i32 v2) rfl) ?_
      refine f_op rfl rfl (s_neq rfl rfl) ?_
      refine f_nil ?_
      refine f_if (fun h4 => ?_) (fun h4 => ?_)
      · skip
        refine f_know 89 rfl (dec_true h4) ?_
        refine f_condT rfl ?_
        refine f_seq ?_
        refine f_region ?_
        refine f_op rfl rfl (s_as (v := .bool false) rfl) ?_
        refine f_nil ?_
        exact f_ret (.tmp rfl (.nil)) rfl
      · skip
        refine f_know 89 rfl (dec_false h4) ?_
        refine f_condF rfl ?_
        refine f_skip ?_
        refine f_seq ?_
        refine f_region ?_
        refine f_op rfl rfl (s_as (v := .int .i32 95) rfl) ?_
        refine f_nil ?_
        refine f_exit rfl ?_
        refine f_region ?_
        refine f_op rfl rfl (s_mv (v := .int .i64 v3) rfl) ?_
        refine f_op rfl rfl (s_add rfl rfl) ?_
        refine f_op rfl rfl (s_as (v := .int .i64 (w64 (v3 + 1))) rfl) ?_
        refine f_nil ?_
        refine f_inLoop ?_
        refine f_keep [0, 3, 4, 5] ?_
        exact hkt0 v1 95 (w64 (v3 + 1)) v4 H
    · skip
      refine f_know 87 rfl (dec_false h3) ?_
      refine f_condF rfl ?_
      refine f_skip ?_
      refine f_seq ?_
      refine f_seq ?_
      refine f_region ?_
      refine f_op rfl rfl (s_mv (v := .int .i32 v2) rfl) ?_
      refine f_op rfl rfl (s_eql rfl rfl) ?_
      refine f_nil ?_
      refine f_if (fun h5 => ?_) (fun h5 => ?_)
      · skip
        refine f_know 91 rfl (dec_true h5) ?_
        refine f_condT rfl ?_
        refine f_seq ?_
        refine f_region ?_
        refine f_op rfl rfl (s_as (v := .bool false) rfl) ?_
        refine f_nil ?_
        exact f_ret (.tmp rfl (.nil)) rfl
      · skip
        refine f_know 91 rfl (dec_false h5) ?_
        refine f_condF rfl ?_
        refine f_skip ?_
        refine f_region ?_
        refine f_op rfl rfl (s_as (v := .int .i32 33) rfl) ?_
        refine f_nil ?_
        refine f_inBlock ?_
        refine f_region ?_
        refine f_op rfl rfl (s_mv (v := .int .i64 v3) rfl) ?_
        refine f_op rfl rfl (s_add rfl rfl) ?_
        refine f_op rfl rfl (s_as (v := .int .i64 (w64 (v3 + 1))) rfl) ?_
        refine f_nil ?_
        refine f_inLoop ?_
        refine f_keep [0, 3, 4, 5] ?_
        exact hkt0 v1 33 (w64 (v3 + 1)) v4 H

theorem s259_l0 : ∀ (k_ : Nat) (v1 : ByteArray) (v2 : Int) (v3 : Int) (v4 : Bool) (H : Hp), Fin Tryz.prog Tryz.f259 ret259 94 (todoAt (bodyOf Tryz.f259) [1, 1, 1, 1, 1, 1, 0, 0, 0] []) [(0, .str v1), (3, .int .i32 v2), (4, .int .i64 v3), (5, .bool v4)] H (r259_l0 k_ v1 v2 v3 v4 H) := by
  intro k_
  induction k_ with
  | zero => intro _ _ _ _ _; exact f_none
  | succ k_ ih =>
    intro v1 v2 v3 v4 H
    rw [r259_l0]
    refine f_seq ?_
    refine f_seq ?_
    refine f_region ?_
    refine f_op rfl rfl (s_mv (v := .int .i64 v3) rfl) ?_
    refine f_op rfl rfl (s_mv (v := .str v1) rfl) ?_
    refine f_op rfl rfl (s_lenStr rfl Tryz.underlying9 rfl) ?_
    refine f_op rfl rfl (s_lss rfl rfl) ?_
    refine f_nil ?_
    refine f_if (fun h1 => ?_) (fun h1 => ?_)
    · skip
      refine f_know 54 rfl (dec_true h1) ?_
      refine f_condT rfl ?_
      refine f_skip ?_
      refine f_seq ?_
      refine f_block ?_
      refine f_seq ?_
      refine f_seq ?_
      refine f_region ?_
      refine f_op rfl rfl (s_mv (v := .str v1) rfl) ?_
      refine f_op rfl rfl (s_mv (v := .int .i64 v3) rfl) ?_
      refine o_ck fun g2 => ?_
      refine f_op rfl rfl (s_indexStr Tryz.underlying9 rfl rfl g2) ?_
      refine f_op rfl rfl (s_leq rfl rfl) ?_
      refine f_op rfl rfl (s_mv (v := .bool (decide (48 ≤ (bt v1 v3)))) rfl) ?_
      refine o_if (fun h3 => ?_) (fun h3 => ?_)
      · skip
        refine o_know 61 rfl (dec_true h3) ?_
        refine f_op rfl rfl (s_mv (v := .str v1) rfl) ?_
        refine f_op rfl rfl (s_mv (v := .int .i64 v3) rfl) ?_
        refine o_ck fun g4 => ?_
        refine f_op rfl rfl (s_indexStr Tryz.underlying9 rfl rfl g4) ?_
        refine f_op rfl rfl (s_leq rfl rfl) ?_
        refine f_op rfl rfl (s_pickT (v := .bool (decide ((bt v1 v3) ≤ 57))) rfl rfl) ?_
        refine f_op rfl rfl (s_mv (v := .bool (decide ((bt v1 v3) ≤ 57))) rfl) ?_
        refine o_if (fun h5 => ?_) (fun h5 => ?_)
        · skip
          refine o_know 67 rfl (dec_true h5) ?_
          refine f_no rfl rfl ?_
          refine f_no rfl rfl ?_
          refine f_no rfl rfl ?_
          refine f_no rfl rfl ?_
          refine f_no rfl rfl ?_
          refine f_no rfl rfl ?_
          refine f_no rfl rfl ?_
          refine f_no rfl rfl ?_
          refine f_no rfl rfl ?_
          refine f_no rfl rfl ?_
          refine f_no rfl rfl ?_
          refine f_no rfl rfl ?_
          refine f_no rfl rfl ?_
          refine f_no rfl rfl ?_
          refine f_no rfl rfl ?_
          refine f_op rfl rfl (s_pickT (v := .bool true) rfl rfl) ?_
          refine f_nil ?_
          refine f_keep [0, 3, 4, 5, 83] ?_
          exact s259_j5 _ (fun v1_ v2_ v3_ v4_ H_ => ih v1_ v2_ v3_ v4_ H_) v1 v2 v3 v4 true H
        · skip
          refine o_know 67 rfl (dec_false h5) ?_
          refine f_op rfl rfl (s_mv (v := .bool v4) rfl) ?_
          refine f_op rfl rfl (s_mv (v := .bool v4) rfl) ?_
          refine o_if (fun h6 => ?_) (fun h6 => ?_)
          · skip
            refine o_know 69 rfl (bool_T h6) ?_
            refine f_op rfl rfl (s_mv (v := .str v1) rfl) ?_
            refine f_op rfl rfl (s_mv (v := .int .i64 v3) rfl) ?_
            refine o_ck fun g7 => ?_
            refine f_op rfl rfl (s_indexStr Tryz.underlying9 rfl rfl g7) ?_
            refine o_bind ?_; intro p8 hp8
            refine f_op rfl rfl (s_callF rfl ok258 (sim258 hp8)) ?_
            refine f_op rfl rfl (s_leq rfl rfl) ?_
            refine f_op rfl rfl (s_pickT (v := .bool (decide (97 ≤ p8.1))) rfl rfl) ?_
            refine f_op rfl rfl (s_mv (v := .bool (decide (97 ≤ p8.1))) rfl) ?_
            refine o_if (fun h9 => ?_) (fun h9 => ?_)
            · skip
              refine o_know 76 rfl (dec_true h9) ?_
              refine f_op rfl rfl (s_mv (v := .str v1) rfl) ?_
              refine f_op rfl rfl (s_mv (v := .int .i64 v3) rfl) ?_
              refine o_ck fun g10 => ?_
              refine f_op rfl rfl (s_indexStr Tryz.underlying9 rfl rfl g10) ?_
              refine o_bind ?_; intro p11 hp11
              refine f_op rfl rfl (s_callF rfl ok258 (sim258 hp11)) ?_
              refine f_op rfl rfl (s_leq rfl rfl) ?_
              refine f_op rfl rfl (s_pickT (v := .bool (decide (p11.1 ≤ 102))) rfl rfl) ?_
              refine f_op rfl rfl (s_pickF (v := .bool (decide (p11.1 ≤ 102))) rfl rfl) ?_
              refine f_nil ?_
              refine f_know 5 rfl (bool_T h6) ?_
              refine f_keep [0, 3, 4, 5, 83] ?_
              exact s259_j5 _ (fun v1_ v2_ v3_ v4_ H_ => ih v1_ v2_ v3_ v4_ H_) v1 v2 v3 true (decide (p11.1 ≤ 102)) p11.2
            · skip
              refine o_know 76 rfl (dec_false h9) ?_
              refine f_no rfl rfl ?_
              refine f_no rfl rfl ?_
              refine f_no rfl rfl ?_
              refine f_no rfl rfl ?_
              refine f_no rfl rfl ?_
              refine f_op rfl rfl (s_pickF (v := .bool false) rfl rfl) ?_
              refine f_op rfl rfl (s_pickF (v := .bool false) rfl rfl) ?_
              refine f_nil ?_
              refine f_know 5 rfl (bool_T h6) ?_
              refine f_keep [0, 3, 4, 5, 83] ?_
              exact s259_j5 _ (fun v1_ v2_ v3_ v4_ H_ => ih v1_ v2_ v3_ v4_ H_) v1 v2 v3 true false p8.2
          · skip
            refine o_know 69 rfl (bool_F h6) ?_
            refine f_no rfl rfl ?_
            refine f_no rfl rfl ?_
            refine f_no rfl rfl ?_
            refine f_no rfl rfl ?_
            refine f_no rfl rfl ?_
            refine f_op rfl rfl (s_pickF (v := .bool false) rfl rfl) ?_
            refine f_op rfl rfl (s_mv (v := .bool false) rfl) ?_
            refine f_no rfl rfl ?_
            refine f_no rfl rfl ?_
            refine f_no rfl rfl ?_
            refine f_no rfl rfl ?_
            refine f_no rfl rfl ?_
            refine f_op rfl rfl (s_pickF (v := .bool false) rfl rfl) ?_
            refine f_op rfl rfl (s_pickF (v := .bool false) rfl rfl) ?_
            refine f_nil ?_
            refine f_know 5 rfl (bool_F h6) ?_
            refine f_keep [0, 3, 4, 5, 83] ?_
            exact s259_j5 _ (fun v1_ v2_ v3_ v4_ H_ => ih v1_ v2_ v3_ v4_ H_) v1 v2 v3 false false H
      · skip
        refine o_know 61 rfl (dec_false h3) ?_
        refine f_no rfl rfl ?_
        refine f_no rfl rfl ?_
        refine f_no rfl rfl ?_
        refine f_no rfl rfl ?_
        refine f_op rfl rfl (s_pickF (v := .bool false) rfl rfl) ?_
        refine f_op rfl rfl (s_mv (v := .bool false) rfl) ?_
        refine f_op rfl rfl (s_mv (v := .bool v4) rfl) ?_
        refine f_op rfl rfl (s_mv (v := .bool v4) rfl) ?_
        refine o_if (fun h12 => ?_) (fun h12 => ?_)
        · skip
          refine o_know 69 rfl (bool_T h12) ?_
          refine f_op rfl rfl (s_mv (v := .str v1) rfl) ?_
          refine f_op rfl rfl (s_mv (v := .int .i64 v3) rfl) ?_
          refine o_ck fun g13 => ?_
          refine f_op rfl rfl (s_indexStr Tryz.underlying9 rfl rfl g13) ?_
          refine o_bind ?_; intro p14 hp14
          refine f_op rfl rfl (s_callF rfl ok258 (sim258 hp14)) ?_
          refine f_op rfl rfl (s_leq rfl rfl) ?_
          refine f_op rfl rfl (s_pickT (v := .bool (decide (97 ≤ p14.1))) rfl rfl) ?_
          refine f_op rfl rfl (s_mv (v := .bool (decide (97 ≤ p14.1))) rfl) ?_
          refine o_if (fun h15 => ?_) (fun h15 => ?_)
          · skip
            refine o_know 76 rfl (dec_true h15) ?_
            refine f_op rfl rfl (s_mv (v := .str v1) rfl) ?_
            refine f_op rfl rfl (s_mv (v := .int .i64 v3) rfl) ?_
            refine o_ck fun g16 => ?_
            refine f_op rfl rfl (s_indexStr Tryz.underlying9 rfl rfl g16) ?_
            refine o_bind ?_; intro p17 hp17
            refine f_op rfl rfl (s_callF rfl ok258 (sim258 hp17)) ?_
            refine f_op rfl rfl (s_leq rfl rfl) ?_
            refine f_op rfl rfl (s_pickT (v := .bool (decide (p17.1 ≤ 102))) rfl rfl) ?_
            refine f_op rfl rfl (s_pickF (v := .bool (decide (p17.1 ≤ 102))) rfl rfl) ?_
            refine f_nil ?_
            refine f_know 5 rfl (bool_T h12) ?_
            refine f_keep [0, 3, 4, 5, 83] ?_
            exact s259_j5 _ (fun v1_ v2_ v3_ v4_ H_ => ih v1_ v2_ v3_ v4_ H_) v1 v2 v3 true (decide (p17.1 ≤ 102)) p17.2
          · skip
            refine o_know 76 rfl (dec_false h15) ?_
            refine f_no rfl rfl ?_
            refine f_no rfl rfl ?_
            refine f_no rfl rfl ?_
            refine f_no rfl rfl ?_
            refine f_no rfl rfl ?_
            refine f_op rfl rfl (s_pickF (v := .bool false) rfl rfl) ?_
            refine f_op rfl rfl (s_pickF (v := .bool false) rfl rfl) ?_
            refine f_nil ?_
            refine f_know 5 rfl (bool_T h12) ?_
            refine f_keep [0, 3, 4, 5, 83] ?_
            exact s259_j5 _ (fun v1_ v2_ v3_ v4_ H_ => ih v1_ v2_ v3_ v4_ H_) v1 v2 v3 true false p14.2
        · skip
          refine o_know 69 rfl (bool_F h12) ?_
          refine f_no rfl rfl ?_
          refine f_no rfl rfl ?_
          refine f_no rfl rfl ?_
          refine f_no rfl rfl ?_
          refine f_no rfl rfl ?_
          refine f_op rfl rfl (s_pickF (v := .bool false) rfl rfl) ?_
          refine f_op rfl rfl (s_mv (v := .bool false) rfl) ?_
          refine f_no rfl rfl ?_
          refine f_no rfl rfl ?_
          refine f_no rfl rfl ?_
          refine f_no rfl rfl ?_
          refine f_no rfl rfl ?_
          refine f_op rfl rfl (s_pickF (v := .bool false) rfl rfl) ?_
          refine f_op rfl rfl (s_pickF (v := .bool false) rfl rfl) ?_
          refine f_nil ?_
          refine f_know 5 rfl (bool_F h12) ?_
          refine f_keep [0, 3, 4, 5, 83] ?_
          exact s259_j5 _ (fun v1_ v2_ v3_ v4_ H_ => ih v1_ v2_ v3_ v4_ H_) v1 v2 v3 false false H
    · skip
      refine f_know 54 rfl (dec_false h1) ?_
      refine f_condF rfl ?_
      refine f_exit rfl ?_
      refine f_seq ?_
      refine f_region ?_
      refine f_op rfl rfl (s_mv (v := .int .i32 v2) rfl) ?_
      refine f_op rfl rfl (s_neq rfl rfl) ?_
      refine f_op rfl rfl (s_as (v := .bool (decide (v2 ≠ 95))) rfl) ?_
      refine f_nil ?_
      exact f_ret (.tmp rfl (.nil)) rfl

theorem s259_j4 (v1 : ByteArray) (v2 : Int) (v3 : Int) (v4 : Bool) (H : Hp) : Fin Tryz.prog Tryz.f259 ret259 94 (todoAt (bodyOf Tryz.f259) [1, 1, 1, 1, 1, 1] []) [(0, .str v1), (3, .int .i32 v2), (4, .int .i64 v3), (5, .bool v4)] H (r259_j4 v1 v2 v3 v4 H) := by
  unfold r259_j4
  refine f_seq ?_
  refine f_block ?_
  refine f_loop ?_
  refine f_keep [0, 3, 4, 5] ?_
  exact s259_l0 FUEL v1 v2 v3 v4 H

theorem s259_j1 (v1 : ByteArray) (v2 : Int) (v3 : Int) (v4 : Bool) (v5 : Bool) (H : Hp) : Fin Tryz.prog Tryz.f259 ret259 94 (todoAt (bodyOf Tryz.f259) [1, 1, 1, 1, 1, 0, 1] []) [(0, .str v1), (3, .int .i32 v2), (4, .int .i64 v3), (5, .bool v4), (46, .bool v5)] H (r259_j1 v1 v2 v3 v4 v5 H) := by
  unfold r259_j1
  refine f_if (fun h1 => ?_) (fun h1 => ?_)
  · skip
    refine f_know 46 rfl (bool_T h1) ?_
    refine f_condT rfl ?_
    refine f_seq ?_
    refine f_region ?_
    refine f_op rfl rfl (s_as (v := .int .i64 2) rfl) ?_
    refine f_nil ?_
    refine f_seq ?_
    refine f_region ?_
    refine f_op rfl rfl (s_as (v := .int .i32 48) rfl) ?_
    refine f_nil ?_
    refine f_region ?_
    refine f_op rfl rfl (s_mv (v := .str v1) rfl) ?_
    refine o_ck fun g2 => ?_
    refine f_op rfl rfl (s_indexStr Tryz.underlying9 rfl rfl g2) ?_
    refine o_bind ?_; intro p3 hp3
    refine f_op rfl rfl (s_callF rfl ok258 (sim258 hp3)) ?_
    refine f_op rfl rfl (s_eql rfl rfl) ?_
    refine f_op rfl rfl (s_as (v := .bool (decide (p3.1 = 120))) rfl) ?_
    refine f_nil ?_
    refine f_keep [0, 3, 4, 5] ?_
    exact s259_j4 v1 48 2 (decide (p3.1 = 120)) p3.2
  · skip
    refine f_know 46 rfl (bool_F h1) ?_
    refine f_condF rfl ?_
    refine f_skip ?_
    refine f_keep [0, 3, 4, 5] ?_
    exact s259_j4 v1 v2 v3 v4 H

theorem s259_j3 (v1 : ByteArray) (v2 : Int) (v3 : Int) (H : Hp) : Fin Tryz.prog Tryz.f259 ret259 94 (todoAt (bodyOf Tryz.f259) [1, 1, 1, 1] []) [(0, .str v1), (3, .int .i32 v2), (4, .int .i64 v3)] H (r259_j3 v1 v2 v3 H) := by
  unfold r259_j3
  refine f_seq ?_
  refine f_region ?_
  refine f_op rfl rfl (s_as (v := .bool false) rfl) ?_
  refine f_nil ?_
  refine f_seq ?_
  refine f_seq ?_
  refine f_region ?_
  refine f_op rfl rfl (s_mv (v := .str v1) rfl) ?_
  refine f_op rfl rfl (s_lenStr rfl Tryz.underlying9 rfl) ?_
  refine f_op rfl rfl (s_geq rfl rfl) ?_
  refine f_op rfl rfl (s_mv (v := .bool (decide (2 ≤ (v1.size : Int)))) rfl) ?_
  refine o_if (fun h1 => ?_) (fun h1 => ?_)
  · skip
    refine o_know 24 rfl (dec_true h1) ?_
    refine f_op rfl rfl (s_mv (v := .str v1) rfl) ?_
    refine o_ck fun g2 => ?_
    refine f_op rfl rfl (s_indexStr Tryz.underlying9 rfl rfl g2) ?_
    refine f_op rfl rfl (s_eql rfl rfl) ?_
    refine f_op rfl rfl (s_pickT (v := .bool (decide ((bt v1 0) = 48))) rfl rfl) ?_
    refine f_op rfl rfl (s_mv (v := .bool (decide ((bt v1 0) = 48))) rfl) ?_
    refine o_if (fun h3 => ?_) (fun h3 => ?_)
    · skip
      refine o_know 29 rfl (dec_true h3) ?_
      refine f_op rfl rfl (s_mv (v := .str v1) rfl) ?_
      refine o_ck fun g4 => ?_
      refine f_op rfl rfl (s_indexStr Tryz.underlying9 rfl rfl g4) ?_
      refine o_bind ?_; intro p5 hp5
      refine f_op rfl rfl (s_callF rfl ok258 (sim258 hp5)) ?_
      refine f_op rfl rfl (s_eql rfl rfl) ?_
      refine f_op rfl rfl (s_mv (v := .bool (decide (p5.1 = 98))) rfl) ?_
      refine o_if (fun h6 => ?_) (fun h6 => ?_)
      · skip
        refine o_know 34 rfl (dec_true h6) ?_
        refine f_no rfl rfl ?_
        refine f_no rfl rfl ?_
        refine f_no rfl rfl ?_
        refine f_no rfl rfl ?_
        refine f_op rfl rfl (s_pickT (v := .bool true) rfl rfl) ?_
        refine f_op rfl rfl (s_mv (v := .bool true) rfl) ?_
        refine f_no rfl rfl ?_
        refine f_no rfl rfl ?_
        refine f_no rfl rfl ?_
        refine f_no rfl rfl ?_
        refine f_op rfl rfl (s_pickT (v := .bool true) rfl rfl) ?_
        refine f_op rfl rfl (s_pickT (v := .bool true) rfl rfl) ?_
        refine f_nil ?_
        refine f_keep [0, 3, 4, 5, 46] ?_
        exact s259_j1 v1 v2 v3 false true p5.2
      · skip
        refine o_know 34 rfl (dec_false h6) ?_
        refine f_op rfl rfl (s_mv (v := .str v1) rfl) ?_
        refine o_ck fun g7 => ?_
        refine f_op rfl rfl (s_indexStr Tryz.underlying9 rfl rfl g7) ?_
        refine o_bind ?_; intro p8 hp8
        refine f_op rfl rfl (s_callF rfl ok258 (sim258 hp8)) ?_
        refine f_op rfl rfl (s_eql rfl rfl) ?_
        refine f_op rfl rfl (s_pickF (v := .bool (decide (p8.1 = 111))) rfl rfl) ?_
        refine f_op rfl rfl (s_mv (v := .bool (decide (p8.1 = 111))) rfl) ?_
        refine o_if (fun h9 => ?_) (fun h9 => ?_)
        · skip
          refine o_know 40 rfl (dec_true h9) ?_
          refine f_no rfl rfl ?_
          refine f_no rfl rfl ?_
          refine f_no rfl rfl ?_
          refine f_no rfl rfl ?_
          refine f_op rfl rfl (s_pickT (v := .bool true) rfl rfl) ?_
          refine f_op rfl rfl (s_pickT (v := .bool true) rfl rfl) ?_
          refine f_nil ?_
          refine f_keep [0, 3, 4, 5, 46] ?_
          exact s259_j1 v1 v2 v3 false true p8.2
        · skip
          refine o_know 40 rfl (dec_false h9) ?_
          refine f_op rfl rfl (s_mv (v := .str v1) rfl) ?_
          refine o_ck fun g10 => ?_
          refine f_op rfl rfl (s_indexStr Tryz.underlying9 rfl rfl g10) ?_
          refine o_bind ?_; intro p11 hp11
          refine f_op rfl rfl (s_callF rfl ok258 (sim258 hp11)) ?_
          refine f_op rfl rfl (s_eql rfl rfl) ?_
          refine f_op rfl rfl (s_pickF (v := .bool (decide (p11.1 = 120))) rfl rfl) ?_
          refine f_op rfl rfl (s_pickT (v := .bool (decide (p11.1 = 120))) rfl rfl) ?_
          refine f_nil ?_
          refine f_keep [0, 3, 4, 5, 46] ?_
          exact s259_j1 v1 v2 v3 false (decide (p11.1 = 120)) p11.2
    · skip
      refine o_know 29 rfl (dec_false h3) ?_
      refine f_no rfl rfl ?_
      refine f_no rfl rfl ?_
      refine f_no rfl rfl ?_
      refine f_no rfl rfl ?_
      refine f_no rfl rfl ?_
      refine f_no rfl rfl ?_
      refine f_no rfl rfl ?_
      refine f_no rfl rfl ?_
      refine f_no rfl rfl ?_
      refine f_no rfl rfl ?_
      refine f_no rfl rfl ?_
      refine f_no rfl rfl ?_
      refine f_no rfl rfl ?_
      refine f_no rfl rfl ?_
      refine f_no rfl rfl ?_
      refine f_no rfl rfl ?_
      refine f_op rfl rfl (s_pickF (v := .bool false) rfl rfl) ?_
      refine f_nil ?_
      refine f_keep [0, 3, 4, 5, 46] ?_
      exact s259_j1 v1 v2 v3 false false H
  · skip
    refine o_know 24 rfl (dec_false h1) ?_
    refine f_no rfl rfl ?_
    refine f_no rfl rfl ?_
    refine f_no rfl rfl ?_
    refine f_op rfl rfl (s_pickF (v := .bool false) rfl rfl) ?_
    refine f_op rfl rfl (s_mv (v := .bool false) rfl) ?_
    refine f_no rfl rfl ?_
    refine f_no rfl rfl ?_
    refine f_no rfl rfl ?_
    refine f_no rfl rfl ?_
    refine f_no rfl rfl ?_
    refine f_no rfl rfl ?_
    refine f_no rfl rfl ?_
    refine f_no rfl rfl ?_
    refine f_no rfl rfl ?_
    refine f_no rfl rfl ?_
    refine f_no rfl rfl ?_
    refine f_no rfl rfl ?_
    refine f_no rfl rfl ?_
    refine f_no rfl rfl ?_
    refine f_no rfl rfl ?_
    refine f_no rfl rfl ?_
    refine f_op rfl rfl (s_pickF (v := .bool false) rfl rfl) ?_
    refine f_nil ?_
    refine f_keep [0, 3, 4, 5, 46] ?_
    exact s259_j1 v1 v2 v3 false false H

theorem s259_j2 (v1 : ByteArray) (v2 : Int) (v3 : Int) (v4 : Bool) (H : Hp) : Fin Tryz.prog Tryz.f259 ret259 94 (todoAt (bodyOf Tryz.f259) [1, 1, 1, 0, 1] []) [(0, .str v1), (3, .int .i32 v2), (4, .int .i64 v3), (18, .bool v4)] H (r259_j2 v1 v2 v3 v4 H) := by
  unfold r259_j2
  refine f_if (fun h1 => ?_) (fun h1 => ?_)
  · skip
    refine f_know 18 rfl (bool_T h1) ?_
    refine f_condT rfl ?_
    refine f_region ?_
    refine f_op rfl rfl (s_mv (v := .str v1) rfl) ?_
    refine o_ck fun g2 => ?_
    refine f_op rfl rfl (s_sliceStr Tryz.underlying9 rfl rfl rfl g2) ?_
    refine f_op rfl rfl (s_as (v := .str (v1.extract (1 : Int).toNat ((v1.size : Int) : Int).toNat)) rfl) ?_
    refine f_nil ?_
    refine f_keep [0, 3, 4] ?_
    exact s259_j3 (v1.extract (1 : Int).toNat ((v1.size : Int) : Int).toNat) v2 v3 H
  · skip
    refine f_know 18 rfl (bool_F h1) ?_
    refine f_condF rfl ?_
    refine f_skip ?_
    refine f_keep [0, 3, 4] ?_
    exact s259_j3 v1 v2 v3 H

theorem sim259 {a0 : ByteArray} {H : Hp} {p : Bool × Hp} (h : r259 a0 H = some p) : CallSim Tryz.prog 259 [.str a0] H (.bool p.1) p.2 := by
  refine callSim (fn := Tryz.f259) (ret := ret259) Tryz.func259 rfl Tryz.ntmps259 rfl ?_ h
  unfold r259
  refine f_seq ?_
  refine f_region ?_
  refine f_op rfl rfl (s_as (v := .bool false) rfl) ?_
  refine f_nil ?_
  refine f_seq ?_
  refine f_region ?_
  refine f_op rfl rfl (s_as (v := .int .i32 94) rfl) ?_
  refine f_nil ?_
  refine f_seq ?_
  refine f_region ?_
  refine f_op rfl rfl (s_as (v := .int .i64 0) rfl) ?_
  refine f_nil ?_
  refine f_seq ?_
  refine f_seq ?_
  refine f_region ?_
  refine f_op rfl rfl (s_mv (v := .str a0) rfl) ?_
  refine f_op rfl rfl (s_lenStr rfl Tryz.underlying9 rfl) ?_
  refine f_op rfl rfl (s_geq rfl rfl) ?_
  refine f_op rfl rfl (s_mv (v := .bool (decide (1 ≤ (a0.size : Int)))) rfl) ?_
  refine o_if (fun h1 => ?_) (fun h1 => ?_)
  · skip
    refine o_know 9 rfl (dec_true h1) ?_
    refine f_op rfl rfl (s_mv (v := .str a0) rfl) ?_
    refine o_ck fun g2 => ?_
    refine f_op rfl rfl (s_indexStr Tryz.underlying9 rfl rfl g2) ?_
    refine f_op rfl rfl (s_eql rfl rfl) ?_
    refine f_op rfl rfl (s_mv (v := .bool (decide ((bt a0 0) = 45))) rfl) ?_
    refine o_if (fun h3 => ?_) (fun h3 => ?_)
    · skip
      refine o_know 13 rfl (dec_true h3) ?_
      refine f_no rfl rfl ?_
      refine f_no rfl rfl ?_
      refine f_no rfl rfl ?_
      refine f_op rfl rfl (s_pickT (v := .bool true) rfl rfl) ?_
      refine f_op rfl rfl (s_pickT (v := .bool true) rfl rfl) ?_
      refine f_nil ?_
      refine f_keep [0, 3, 4, 18] ?_
      exact s259_j2 a0 94 0 true H
    · skip
      refine o_know 13 rfl (dec_false h3) ?_
      refine f_op rfl rfl (s_mv (v := .str a0) rfl) ?_
      refine o_ck fun g4 => ?_
      refine f_op rfl rfl (s_indexStr Tryz.underlying9 rfl rfl g4) ?_
      refine f_op rfl rfl (s_eql rfl rfl) ?_
      refine f_op rfl rfl (s_pickF (v := .bool (decide ((bt a0 0) = 43))) rfl rfl) ?_
      refine f_op rfl rfl (s_pickT (v := .bool (decide ((bt a0 0) = 43))) rfl rfl) ?_
      refine f_nil ?_
      refine f_keep [0, 3, 4, 18] ?_
      exact s259_j2 a0 94 0 (decide ((bt a0 0) = 43)) H
  · skip
    refine o_know 9 rfl (dec_false h1) ?_
    refine f_no rfl rfl ?_
    refine f_no rfl rfl ?_
    refine f_no rfl rfl ?_
    refine f_no rfl rfl ?_
    refine f_no rfl rfl ?_
    refine f_no rfl rfl ?_
    refine f_no rfl rfl ?_
    refine f_no rfl rfl ?_
    refine f_op rfl rfl (s_pickF (v := .bool false) rfl rfl) ?_
    refine f_nil ?_
    refine f_keep [0, 3, 4, 18] ?_
    exact s259_j2 a0 94 0 false H

end Go.Lt.P10
