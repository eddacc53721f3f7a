/- PRINTED BY A PROGRAM OF OURS: what each function that 'ChestPages' reaches computes on the abstract heap, and that the translated code does just that. Nothing is asked of the input. -/
import Derived.Test.YtnigfapfghgmnaaGreatDoorG4P4
set_option linter.unusedVariables false
set_option linter.unusedSimpArgs false
set_option maxRecDepth 100000
set_option maxHeartbeats 4000000
namespace Go.Lt.P10
open Go Go.Lt Go.Proofs
/- 44 (*congou/chest.state).leaf -/
theorem ok44 : FnOk Tryz.prog 44 := ⟨⟨Tryz.f44, Tryz.func44, by kernel_rfl, rfl⟩⟩
theorem sim44 {app : App} (happ : AppSim Tryz.prog app) {a0b : Nat} {a0o : Nat} {a1_0 : Sl} {a1_1 : Sl} {H : Hp} {p : Int × Hp} (h : r44 app a0b a0o a1_0 a1_1 H = some p) : CallSim Tryz.prog 44 [.ptr a0b a0o, .agg [.sl a1_0, .sl a1_1]] H (.int .i64 p.1) p.2 := by
  refine callSim (fn := Tryz.f44) (ret := ret44) Tryz.func44 rfl Tryz.ntmps44 rfl ?_ h
  unfold r44
  refine f_seq ?_
  refine f_region ?_
  refine f_op rfl rfl (s_box (v := .agg [.sl a1_0, .sl a1_1]) rfl rfl) ?_
  refine f_op rfl rfl (s_as (v := .int .i64 0) rfl) ?_
  refine o_hp ?_; intro H1 hH1
  refine f_nil ?_
  refine f_seq ?_
  refine f_block ?_
  refine f_seq ?_
  refine f_region ?_
  refine f_op rfl rfl (s_mv (v := .ptr a0b a0o) rfl) ?_
  refine f_op rfl rfl (s_fieldAddr Tryz.underlying84 rfl ty38 rfl) ?_
  refine o_bind ?_; intro x2 hx2
  refine f_op rfl rfl (s_load Tryz.underlying38 rfl rfl (ldSl_eq hx2)) ?_
  refine o_ck fun g3 => ?_
  refine f_op rfl rfl (s_idx Tryz.underlying38 ty9 rfl rfl g3) ?_
  refine o_bind ?_; intro x4 hx4
  refine f_op rfl rfl (s_load Tryz.underlying9 rfl rfl (ldStr_eq hx4)) ?_
  refine o_bind ?_; intro p5 hp5
  refine f_op rfl rfl (s_callF rfl ok75 (sim75 happ hp5)) ?_
  refine f_op rfl rfl (s_geq rfl rfl) ?_
  refine f_op rfl rfl (s_as (v := .bool (decide (0 ≤ p5.1))) rfl) ?_
  refine f_nil ?_
  refine f_if (fun h6 => ?_) (fun h6 => ?_)
  · skip
    refine f_know 5 rfl (dec_true h6) ?_
    refine f_condT rfl ?_
    refine f_seq ?_
    refine f_region ?_
    refine f_op rfl rfl (s_as (v := .int .i64 5) rfl) ?_
    refine f_nil ?_
    exact f_ret (.tmp rfl (.nil)) rfl
  · skip
    refine f_know 5 rfl (dec_false h6) ?_
    refine f_condF rfl ?_
    refine f_seq ?_
    refine f_region ?_
    refine f_op rfl rfl (s_fieldAddr Tryz.underlying84 rfl ty30 rfl) ?_
    refine o_bind ?_; intro x7 hx7
    refine f_op rfl rfl (s_load Tryz.underlying30 rfl rfl (ldSl_eq hx7)) ?_
    refine o_ck fun g8 => ?_
    refine f_op rfl rfl (s_idx Tryz.underlying30 ty3 rfl rfl g8) ?_
    refine o_bind ?_; intro x9 hx9
    refine f_op rfl rfl (s_load Tryz.underlying3 rfl rfl (ldI_eq hx9)) ?_
    refine f_op rfl rfl (s_gtr rfl rfl) ?_
    refine f_op rfl rfl (s_as (v := .bool (decide (20 < x9))) rfl) ?_
    refine f_nil ?_
    refine f_if (fun h10 => ?_) (fun h10 => ?_)
    · skip
      refine f_know 13 rfl (dec_true h10) ?_
      refine f_condT rfl ?_
      refine f_seq ?_
      refine f_region ?_
      refine f_op rfl rfl (s_as (v := .int .i64 2) rfl) ?_
      refine f_nil ?_
      exact f_ret (.tmp rfl (.nil)) rfl
    · skip
      refine f_know 13 rfl (dec_false h10) ?_
      refine f_condF rfl ?_
      refine f_seq ?_
      refine f_region ?_
      refine f_op rfl rfl (s_mv (v := .ptr a0b a0o) rfl) ?_
      refine f_op rfl rfl (s_nilCheck rfl) ?_
      refine f_op rfl rfl (s_fieldAddr Tryz.underlying69 rfl ty64 rfl) ?_
      refine o_bind ?_; intro x11 hx11
      refine f_op rfl rfl (s_load Tryz.underlying64 rfl rfl (ldSl_eq hx11)) ?_
      refine f_op rfl rfl (s_lenS rfl Tryz.underlying64 rfl) ?_
      refine f_op rfl rfl (s_eql rfl rfl) ?_
      refine f_op rfl rfl (s_as (v := .bool (decide ((x11.len : Int) = 6))) rfl) ?_
      refine f_nil ?_
      refine f_if (fun h12 => ?_) (fun h12 => ?_)
      · skip
        refine f_know 19 rfl (dec_true h12) ?_
        refine f_condT rfl ?_
        refine f_seq ?_
        refine f_region ?_
        refine f_op rfl rfl (s_as (v := .int .i64 7) rfl) ?_
        refine f_nil ?_
        exact f_ret (.tmp rfl (.nil)) rfl
      · skip
        refine f_know 19 rfl (dec_false h12) ?_
        refine f_condF rfl ?_
        refine f_skip ?_
        refine f_inBlock ?_
        refine f_seq ?_
        refine f_bind ?_; intro x13 hx13
        refine f_bind ?_; intro x14 hx14
        refine f_ck fun g15 => ?_
        refine f_bind ?_; intro x16 hx16
        refine f_bind ?_; intro x17 hx17
        refine f_ck fun g18 => ?_
        refine f_bind ?_; intro x19 hx19
        refine f_bind ?_; intro x20 hx20
        refine f_bind ?_; intro H21 hH21
        refine f_drawF (Φ := fun _ => True) (lim := 1000000) [0, 0, 0, 0, 1, 0, 1, 0, 1, 0, 1, 0, 1, 0, 2, 2, 0, 0, 2] [false, false, false, false, false, false, false, false, false, false, false, false, false, false, true, false, false, false, false] 14 15 (Trc.pure rfl rfl rfl (.inl fun _ => s_mv (v := .ptr a0b a0o) rfl) (Trc.pure rfl rfl rfl (.inl fun _ => s_mv (v := .ptr a0b a0o) rfl) (Trc.pure rfl rfl rfl (.inl fun _ => s_nilCheck rfl) (Trc.pure rfl rfl rfl (.inl fun _ => s_fieldAddr Tryz.underlying69 rfl ty64 rfl) (Trc.read rfl rfl rfl (s_load Tryz.underlying64 rfl rfl (ldSl_eq hx13)) (Trc.pure rfl rfl rfl (.inl fun _ => s_fieldAddr Tryz.underlying84 rfl ty38 rfl) (Trc.read rfl rfl rfl (s_load Tryz.underlying38 rfl rfl (ldSl_eq hx14)) (Trc.pure rfl rfl rfl (.inl fun _ => s_idx Tryz.underlying38 ty9 rfl rfl g15) (Trc.read rfl rfl rfl (s_load Tryz.underlying9 rfl rfl (ldStr_eq hx16)) (Trc.pure rfl rfl rfl (.inl fun _ => s_fieldAddr Tryz.underlying84 rfl ty30 rfl) (Trc.read rfl rfl rfl (s_load Tryz.underlying30 rfl rfl (ldSl_eq hx17)) (Trc.pure rfl rfl rfl (.inl fun _ => s_idx Tryz.underlying30 ty3 rfl rfl g18) (Trc.read rfl rfl rfl (s_load Tryz.underlying3 rfl rfl (ldI_eq hx19)) (Trc.pure rfl rfl rfl (.inl fun _ => s_build (cs := [.str x16, .int .i64 x19]) Tryz.underlying93 ty93 rfl pl93 rfl) (Trc.fl (.s 1) rfl rfl rfl (fun _ => trivial) rfl (by rfl) (fun _ => s_buildSlice (cs := [.str x16, .int .i64 x19]) Tryz.underlying64 ty93 (by decide) (by decide) rfl (by decide) rfl) (Trc.eff rfl rfl rfl (fun _ => trivial) (s_ap rfl rfl Tryz.underlying64 Tryz.underlying64 ty93 rfl rfl rfl rfl rfl rfl rfl hx20) (Trc.pure rfl rfl rfl (.inl fun _ => s_nilCheck rfl) (Trc.pure rfl rfl rfl (.inl fun _ => s_fieldAddr Tryz.underlying69 rfl ty64 rfl) (Trc.eff rfl rfl rfl (fun _ => trivial) (s_store (s := 1) ty64 rfl rfl rfl hH21) (Trc.nil (fun _ => trivial))))))))))))))))))))) rfl rfl (by decide +kernel) mixed ?_
        refine f_seq ?_
        refine f_region ?_
        refine f_op rfl rfl (s_as (v := .int .i64 0) rfl) ?_
        refine f_nil ?_
        exact f_ret (.tmp rfl (.nil)) rfl

/- 76 (*congou/chest.state).stocks -/
theorem ok76 : FnOk Tryz.prog 76 := ⟨⟨Tryz.f76, Tryz.func76, by kernel_rfl, rfl⟩⟩
theorem s76_l0 : ∀ (k_ : Nat) (v1 : Sl) (v2 : Sl) (v3 : Int) (v4 : Int) (H : Hp), Fin Tryz.prog Tryz.f76 ret76 22 (todoAt (bodyOf Tryz.f76) [1, 1, 0, 1, 0, 0] []) [(3, .sl v1), (9, .sl v2), (10, .int .i64 v3), (11, .int .i64 v4)] H (r76_l0 k_ v1 v2 v3 v4 H) := by
  intro k_
  induction k_ with
  | zero => intro _ _ _ _ _; exact f_none
  | succ k_ ih =>
    intro v1 v2 v3 v4 H
    rw [r76_l0]
    refine f_seq ?_
    refine f_region ?_
    refine f_op rfl rfl (s_lss rfl rfl) ?_
    refine f_nil ?_
    refine f_seq ?_
    refine f_if (fun h1 => ?_) (fun h1 => ?_)
    · skip
      refine f_know 12 rfl (dec_true h1) ?_
      refine f_condT rfl ?_
      refine f_skip ?_
      refine f_seq ?_
      refine f_block ?_
      refine f_seq ?_
      refine f_region ?_
      refine o_ck fun g2 => ?_
      refine f_op rfl rfl (s_idx Tryz.underlying64 ty93 rfl rfl g2) ?_
      refine o_bind ?_; intro x3 hx3
      refine o_bind ?_; intro x4 hx4
      refine f_op rfl rfl (s_loads Tryz.underlying93 rfl ty93 rfl (lds_cons (ldStr_eq hx3) (lds_cons (ldI_eq hx4) (lds_nil)))) ?_
      refine f_op rfl rfl (s_alloc (zs := [.str (ByteArray.mk #[]), .int .i64 0]) ty93 rfl rfl) ?_
      refine o_bind ?_; intro H5 hH5
      refine f_op rfl rfl (s_stores ty93 rfl rfl rfl rfl hH5 (Nat.le_of_eq (sts_mono hH5).symm)) ?_
      refine f_nil ?_
      refine f_region ?_
      refine f_op rfl rfl (s_mv (v := .sl v1) rfl) ?_
      refine f_op rfl rfl (s_fieldAddr Tryz.underlying93 rfl ty3 rfl) ?_
      refine o_bind ?_; intro x6 hx6
      refine f_op rfl rfl (s_load Tryz.underlying3 rfl rfl (ldI_eq hx6)) ?_
      refine f_op rfl rfl (s_buildSlice (cs := [.int .i64 x6]) Tryz.underlying30 ty3 (by decide) (by decide) rfl (by decide) rfl) ?_
      refine o_bind ?_; intro x7 hx7
      refine f_op rfl rfl (s_ap rfl rfl Tryz.underlying30 Tryz.underlying30 ty3 rfl rfl rfl rfl rfl rfl rfl hx7) ?_
      refine f_op rfl rfl (s_as (v := .sl x7.1) rfl) ?_
      refine f_nil ?_
      refine f_inBlock ?_
      refine f_region ?_
      refine f_op rfl rfl (s_add rfl rfl) ?_
      refine f_op rfl rfl (s_mv (v := .int .i64 (w64 (v4 + 1))) rfl) ?_
      refine f_nil ?_
      refine f_inLoop ?_
      refine f_keep [3, 9, 10, 11] ?_
      exact ih x7.1 v2 v3 (w64 (v4 + 1)) x7.2
    · skip
      refine f_know 12 rfl (dec_false h1) ?_
      refine f_condF rfl ?_
      refine f_exit rfl ?_
      refine f_seq ?_
      refine f_region ?_
      refine f_op rfl rfl (s_mv (v := .sl v1) rfl) ?_
      refine f_op rfl rfl (s_as (v := .sl v1) rfl) ?_
      refine f_nil ?_
      exact f_ret (.tmp rfl (.nil)) rfl

theorem sim76 {a0b : Nat} {a0o : Nat} {H : Hp} {p : Sl × Hp} (h : r76 a0b a0o H = some p) : CallSim Tryz.prog 76 [.ptr a0b a0o] H (.sl p.1) p.2 := by
  refine callSim (fn := Tryz.f76) (ret := ret76) Tryz.func76 rfl Tryz.ntmps76 rfl ?_ h
  unfold r76
  refine f_seq ?_
  refine f_region ?_
  refine f_op rfl rfl (s_as (v := .sl ⟨true, 0, 0, 0, 0, 0⟩) rfl) ?_
  refine f_nil ?_
  refine f_seq ?_
  refine f_region ?_
  refine f_op rfl rfl (s_as (v := .sl ⟨true, 0, 0, 0, 0, 0⟩) rfl) ?_
  refine f_nil ?_
  refine f_seq ?_
  refine f_seq ?_
  refine f_region ?_
  refine f_op rfl rfl (s_mv (v := .ptr a0b a0o) rfl) ?_
  refine f_op rfl rfl (s_nilCheck rfl) ?_
  refine f_op rfl rfl (s_fieldAddr Tryz.underlying69 rfl ty64 rfl) ?_
  refine o_bind ?_; intro x1 hx1
  refine f_op rfl rfl (s_load Tryz.underlying64 rfl rfl (ldSl_eq hx1)) ?_
  refine f_op rfl rfl (s_lenS rfl Tryz.underlying64 rfl) ?_
  refine f_op rfl rfl (s_mv (v := .int .i64 0) rfl) ?_
  refine f_nil ?_
  refine f_block ?_
  refine f_loop ?_
  refine f_keep [3, 9, 10, 11] ?_
  exact s76_l0 FUEL ⟨true, 0, 0, 0, 0, 0⟩ x1 (x1.len : Int) 0 H

/- 156 slices.Min[[]int,int] -/
theorem ok156 : FnOk Tryz.prog 156 := ⟨⟨Tryz.f156, Tryz.func156, by kernel_rfl, rfl⟩⟩
theorem s156_l0 : ∀ (k_ : Nat) (v1 : Sl) (v2 : Int) (v3 : Int) (H : Hp), Fin Tryz.prog Tryz.f156 ret156 25 (todoAt (bodyOf Tryz.f156) [1, 1, 1, 0, 1, 0, 0] []) [(0, .sl v1), (3, .int .i64 v2), (4, .int .i64 v3)] H (r156_l0 k_ v1 v2 v3 H) := by
  intro k_
  induction k_ with
  | zero => intro _ _ _ _; exact f_none
  | succ k_ ih =>
    intro v1 v2 v3 H
    rw [r156_l0]
    refine f_seq ?_
    refine f_seq ?_
    refine f_region ?_
    refine f_op rfl rfl (s_mv (v := .int .i64 v3) rfl) ?_
    refine f_op rfl rfl (s_mv (v := .sl v1) rfl) ?_
    refine f_op rfl rfl (s_lenS rfl Tryz.underlying30 rfl) ?_
    refine f_op rfl rfl (s_lss rfl rfl) ?_
    refine f_nil ?_
    refine f_if (fun h1 => ?_) (fun h1 => ?_)
    · skip
      refine f_know 15 rfl (dec_true h1) ?_
      refine f_condT rfl ?_
      refine f_skip ?_
      refine f_seq ?_
      refine f_block ?_
      refine f_region ?_
      refine f_op rfl rfl (s_mv (v := .int .i64 v2) rfl) ?_
      refine f_op rfl rfl (s_mv (v := .sl v1) rfl) ?_
      refine f_op rfl rfl (s_mv (v := .int .i64 v3) rfl) ?_
      refine o_ck fun g2 => ?_
      refine f_op rfl rfl (s_idx Tryz.underlying30 ty3 rfl rfl g2) ?_
      refine o_bind ?_; intro x3 hx3
      refine f_op rfl rfl (s_load Tryz.underlying3 rfl rfl (ldI_eq hx3)) ?_
      refine f_op rfl rfl (s_min2 rfl rfl) ?_
      refine f_op rfl rfl (s_as (v := .int .i64 (if x3 < v2 then x3 else v2)) rfl) ?_
      refine f_nil ?_
      refine f_inBlock ?_
      refine f_region ?_
      refine f_op rfl rfl (s_mv (v := .int .i64 v3) rfl) ?_
      refine f_op rfl rfl (s_add rfl rfl) ?_
      refine f_op rfl rfl (s_as (v := .int .i64 (w64 (v3 + 1))) rfl) ?_
      refine f_nil ?_
      refine f_inLoop ?_
      refine f_keep [0, 3, 4] ?_
      exact ih v1 (if x3 < v2 then x3 else v2) (w64 (v3 + 1)) H
    · skip
      refine f_know 15 rfl (dec_false h1) ?_
      refine f_condF rfl ?_
      refine f_exit rfl ?_
      refine f_seq ?_
      refine f_region ?_
      refine f_op rfl rfl (s_mv (v := .int .i64 v2) rfl) ?_
      refine f_op rfl rfl (s_as (v := .int .i64 v2) rfl) ?_
      refine f_nil ?_
      exact f_ret (.tmp rfl (.nil)) rfl

theorem sim156 {a0 : Sl} {H : Hp} {p : Int × Hp} (h : r156 a0 H = some p) : CallSim Tryz.prog 156 [.sl a0] H (.int .i64 p.1) p.2 := by
  refine callSim (fn := Tryz.f156) (ret := ret156) Tryz.func156 rfl Tryz.ntmps156 rfl ?_ h
  unfold r156
  refine f_seq ?_
  refine f_region ?_
  refine f_op rfl rfl (s_as (v := .int .i64 0) rfl) ?_
  refine f_nil ?_
  refine f_seq ?_
  refine f_seq ?_
  refine f_region ?_
  refine f_op rfl rfl (s_mv (v := .sl a0) rfl) ?_
  refine f_op rfl rfl (s_lenS rfl Tryz.underlying30 rfl) ?_
  refine f_op rfl rfl (s_lss rfl rfl) ?_
  refine f_nil ?_
  refine f_if (fun h1 => ?_) (fun h1 => ?_)
  · skip
    refine f_know 7 rfl (dec_true h1) ?_
    refine f_condT rfl ?_
    refine f_region ?_
    exact o_none
  · skip
    refine f_know 7 rfl (dec_false h1) ?_
    refine f_condF rfl ?_
    refine f_skip ?_
    refine f_seq ?_
    refine f_region ?_
    refine f_op rfl rfl (s_mv (v := .sl a0) rfl) ?_
    refine o_ck fun g2 => ?_
    refine f_op rfl rfl (s_idx Tryz.underlying30 ty3 rfl rfl g2) ?_
    refine o_bind ?_; intro x3 hx3
    refine f_op rfl rfl (s_load Tryz.underlying3 rfl rfl (ldI_eq hx3)) ?_
    refine f_op rfl rfl (s_as (v := .int .i64 x3) rfl) ?_
    refine f_nil ?_
    refine f_seq ?_
    refine f_seq ?_
    refine f_region ?_
    refine f_op rfl rfl (s_as (v := .int .i64 1) rfl) ?_
    refine f_nil ?_
    refine f_block ?_
    refine f_loop ?_
    refine f_keep [0, 3, 4] ?_
    exact s156_l0 FUEL a0 x3 1 H

/- 157 slices.Max[[]int,int] -/
theorem ok157 : FnOk Tryz.prog 157 := ⟨⟨Tryz.f157, Tryz.func157, by kernel_rfl, rfl⟩⟩
theorem s157_l0 : ∀ (k_ : Nat) (v1 : Sl) (v2 : Int) (v3 : Int) (H : Hp), Fin Tryz.prog Tryz.f157 ret157 25 (todoAt (bodyOf Tryz.f157) [1, 1, 1, 0, 1, 0, 0] []) [(0, .sl v1), (3, .int .i64 v2), (4, .int .i64 v3)] H (r157_l0 k_ v1 v2 v3 H) := by
  intro k_
  induction k_ with
  | zero => intro _ _ _ _; exact f_none
  | succ k_ ih =>
    intro v1 v2 v3 H
    rw [r157_l0]
    refine f_seq ?_
    refine f_seq ?_
    refine f_region ?_
    refine f_op rfl rfl (s_mv (v := .int .i64 v3) rfl) ?_
    refine f_op rfl rfl (s_mv (v := .sl v1) rfl) ?_
    refine f_op rfl rfl (s_lenS rfl Tryz.underlying30 rfl) ?_
    refine f_op rfl rfl (s_lss rfl rfl) ?_
    refine f_nil ?_
    refine f_if (fun h1 => ?_) (fun h1 => ?_)
    · skip
      refine f_know 15 rfl (dec_true h1) ?_
      refine f_condT rfl ?_
      refine f_skip ?_
      refine f_seq ?_
      refine f_block ?_
      refine f_region ?_
      refine f_op rfl rfl (s_mv (v := .int .i64 v2) rfl) ?_
      refine f_op rfl rfl (s_mv (v := .sl v1) rfl) ?_
      refine f_op rfl rfl (s_mv (v := .int .i64 v3) rfl) ?_
      refine o_ck fun g2 => ?_
      refine f_op rfl rfl (s_idx Tryz.underlying30 ty3 rfl rfl g2) ?_
      refine o_bind ?_; intro x3 hx3
      refine f_op rfl rfl (s_load Tryz.underlying3 rfl rfl (ldI_eq hx3)) ?_
      refine f_op rfl rfl (s_max2 rfl rfl) ?_
      refine f_op rfl rfl (s_as (v := .int .i64 (if v2 < x3 then x3 else v2)) rfl) ?_
      refine f_nil ?_
      refine f_inBlock ?_
      refine f_region ?_
      refine f_op rfl rfl (s_mv (v := .int .i64 v3) rfl) ?_
      refine f_op rfl rfl (s_add rfl rfl) ?_
      refine f_op rfl rfl (s_as (v := .int .i64 (w64 (v3 + 1))) rfl) ?_
      refine f_nil ?_
      refine f_inLoop ?_
      refine f_keep [0, 3, 4] ?_
      exact ih v1 (if v2 < x3 then x3 else v2) (w64 (v3 + 1)) H
    · skip
      refine f_know 15 rfl (dec_false h1) ?_
      refine f_condF rfl ?_
      refine f_exit rfl ?_
      refine f_seq ?_
      refine f_region ?_
      refine f_op rfl rfl (s_mv (v := .int .i64 v2) rfl) ?_
      refine f_op rfl rfl (s_as (v := .int .i64 v2) rfl) ?_
      refine f_nil ?_
      exact f_ret (.tmp rfl (.nil)) rfl

theorem sim157 {a0 : Sl} {H : Hp} {p : Int × Hp} (h : r157 a0 H = some p) : CallSim Tryz.prog 157 [.sl a0] H (.int .i64 p.1) p.2 := by
  refine callSim (fn := Tryz.f157) (ret := ret157) Tryz.func157 rfl Tryz.ntmps157 rfl ?_ h
  unfold r157
  refine f_seq ?_
  refine f_region ?_
  refine f_op rfl rfl (s_as (v := .int .i64 0) rfl) ?_
  refine f_nil ?_
  refine f_seq ?_
  refine f_seq ?_
  refine f_region ?_
  refine f_op rfl rfl (s_mv (v := .sl a0) rfl) ?_
  refine f_op rfl rfl (s_lenS rfl Tryz.underlying30 rfl) ?_
  refine f_op rfl rfl (s_lss rfl rfl) ?_
  refine f_nil ?_
  refine f_if (fun h1 => ?_) (fun h1 => ?_)
  · skip
    refine f_know 7 rfl (dec_true h1) ?_
    refine f_condT rfl ?_
    refine f_region ?_
    exact o_none
  · skip
    refine f_know 7 rfl (dec_false h1) ?_
    refine f_condF rfl ?_
    refine f_skip ?_
    refine f_seq ?_
    refine f_region ?_
    refine f_op rfl rfl (s_mv (v := .sl a0) rfl) ?_
    refine o_ck fun g2 => ?_
    refine f_op rfl rfl (s_idx Tryz.underlying30 ty3 rfl rfl g2) ?_
    refine o_bind ?_; intro x3 hx3
    refine f_op rfl rfl (s_load Tryz.underlying3 rfl rfl (ldI_eq hx3)) ?_
    refine f_op rfl rfl (s_as (v := .int .i64 x3) rfl) ?_
    refine f_nil ?_
    refine f_seq ?_
    refine f_seq ?_
    refine f_region ?_
    refine f_op rfl rfl (s_as (v := .int .i64 1) rfl) ?_
    refine f_nil ?_
    refine f_block ?_
    refine f_loop ?_
    refine f_keep [0, 3, 4] ?_
    exact s157_l0 FUEL a0 x3 1 H

/- 103 congou/shares.are -/
theorem ok103 : FnOk Tryz.prog 103 := ⟨⟨Tryz.f103, Tryz.func103, by kernel_rfl, rfl⟩⟩
theorem s103_j1 (kt0 : Sl → Sl → Int → Int → Hp → Option (Bool × Hp)) (hkt0 : ∀ (v1 : Sl) (v2 : Sl) (v3 : Int) (v4 : Int) (H : Hp), Fin Tryz.prog Tryz.f103 ret103 39 (todoAt (bodyOf Tryz.f103) [1, 0, 1, 0, 0] []) [(0, .sl v1), (5, .sl v2), (6, .int .i64 v3), (7, .int .i64 v4)] H (kt0 v1 v2 v3 v4 H)) (v1 : Sl) (v2 : Sl) (v3 : Int) (v4 : Int) (v5 : Bool) (H : Hp) : Fin Tryz.prog Tryz.f103 ret103 39 (todoAt (bodyOf Tryz.f103) [1, 0, 1, 0, 0, 1, 1, 0, 0, 1, 1] []) [(0, .sl v1), (5, .sl v2), (6, .int .i64 v3), (7, .int .i64 v4), (37, .bool v5)] H (r103_j1 kt0 v1 v2 v3 v4 v5 H) := by
  unfold r103_j1
  refine f_if (fun h1 => ?_) (fun h1 => ?_)
  · skip
    refine f_know 37 rfl (bool_T h1) ?_
    refine f_condT rfl ?_
    refine f_seq ?_
    refine f_region ?_
    refine f_op rfl rfl (s_as (v := .bool false) rfl) ?_
    refine f_nil ?_
    exact f_ret (.tmp rfl (.nil)) rfl
  · skip
    refine f_know 37 rfl (bool_F h1) ?_
    refine f_condF rfl ?_
    refine f_skip ?_
    refine f_inBlock ?_
    refine f_region ?_
    refine f_op rfl rfl (s_add rfl rfl) ?_
    refine f_op rfl rfl (s_mv (v := .int .i64 (w64 (v4 + 1))) rfl) ?_
    refine f_nil ?_
    refine f_inLoop ?_
    refine f_keep [0, 5, 6, 7] ?_
    exact hkt0 v1 v2 v3 (w64 (v4 + 1)) H

theorem s103_l0 : ∀ (k_ : Nat) (v1 : Sl) (v2 : Sl) (v3 : Int) (v4 : Int) (H : Hp), Fin Tryz.prog Tryz.f103 ret103 39 (todoAt (bodyOf Tryz.f103) [1, 0, 1, 0, 0] []) [(0, .sl v1), (5, .sl v2), (6, .int .i64 v3), (7, .int .i64 v4)] H (r103_l0 k_ v1 v2 v3 v4 H) := by
  intro k_
  induction k_ with
  | zero => intro _ _ _ _ _; exact f_none
  | succ k_ ih =>
    intro v1 v2 v3 v4 H
    rw [r103_l0]
    refine f_seq ?_
    refine f_region ?_
    refine f_op rfl rfl (s_lss rfl rfl) ?_
    refine f_nil ?_
    refine f_seq ?_
    refine f_if (fun h1 => ?_) (fun h1 => ?_)
    · skip
      refine f_know 8 rfl (dec_true h1) ?_
      refine f_condT rfl ?_
      refine f_skip ?_
      refine f_seq ?_
      refine f_block ?_
      refine f_seq ?_
      refine f_region ?_
      refine o_ck fun g2 => ?_
      refine f_op rfl rfl (s_idx Tryz.underlying122 ty30 rfl rfl g2) ?_
      refine o_bind ?_; intro x3 hx3
      refine f_op rfl rfl (s_load Tryz.underlying30 rfl rfl (ldSl_eq hx3)) ?_
      refine f_op rfl rfl (s_as (v := .sl x3) rfl) ?_
      refine f_nil ?_
      refine f_seq ?_
      refine f_region ?_
      refine f_op rfl rfl (s_mv (v := .sl x3) rfl) ?_
      refine f_op rfl rfl (s_lenS rfl Tryz.underlying30 rfl) ?_
      refine f_op rfl rfl (s_lss rfl rfl) ?_
      refine f_op rfl rfl (s_mv (v := .bool (decide ((x3.len : Int) < 1))) rfl) ?_
      refine o_if (fun h4 => ?_) (fun h4 => ?_)
      · skip
        refine o_know 14 rfl (dec_true h4) ?_
        refine f_no rfl rfl ?_
        refine f_no rfl rfl ?_
        refine f_no rfl rfl ?_
        refine f_op rfl rfl (s_pickT (v := .bool true) rfl rfl) ?_
        refine f_op rfl rfl (s_mv (v := .bool true) rfl) ?_
        refine f_no rfl rfl ?_
        refine f_no rfl rfl ?_
        refine f_no rfl rfl ?_
        refine f_no rfl rfl ?_
        refine f_no rfl rfl ?_
        refine f_no rfl rfl ?_
        refine f_no rfl rfl ?_
        refine f_op rfl rfl (s_pickT (v := .bool true) rfl rfl) ?_
        refine f_op rfl rfl (s_mv (v := .bool true) rfl) ?_
        refine f_no rfl rfl ?_
        refine f_no rfl rfl ?_
        refine f_no rfl rfl ?_
        refine f_op rfl rfl (s_pickT (v := .bool true) rfl rfl) ?_
        refine f_op rfl rfl (s_mv (v := .bool true) rfl) ?_
        refine f_no rfl rfl ?_
        refine f_no rfl rfl ?_
        refine f_no rfl rfl ?_
        refine f_op rfl rfl (s_pickT (v := .bool true) rfl rfl) ?_
        refine f_nil ?_
        refine f_keep [0, 5, 6, 7, 37] ?_
        exact s103_j1 _ (fun v1_ v2_ v3_ v4_ H_ => ih v1_ v2_ v3_ v4_ H_) v1 v2 v3 v4 true H
      · skip
        refine o_know 14 rfl (dec_false h4) ?_
        refine f_op rfl rfl (s_mv (v := .sl x3) rfl) ?_
        refine f_op rfl rfl (s_lenS rfl Tryz.underlying30 rfl) ?_
        refine f_op rfl rfl (s_gtr rfl rfl) ?_
        refine f_op rfl rfl (s_pickF (v := .bool (decide (6 < (x3.len : Int)))) rfl rfl) ?_
        refine f_op rfl rfl (s_mv (v := .bool (decide (6 < (x3.len : Int)))) rfl) ?_
        refine o_if (fun h5 => ?_) (fun h5 => ?_)
        · skip
          refine o_know 19 rfl (dec_true h5) ?_
          refine f_no rfl rfl ?_
          refine f_no rfl rfl ?_
          refine f_no rfl rfl ?_
          refine f_no rfl rfl ?_
          refine f_no rfl rfl ?_
          refine f_no rfl rfl ?_
          refine f_no rfl rfl ?_
          refine f_op rfl rfl (s_pickT (v := .bool true) rfl rfl) ?_
          refine f_op rfl rfl (s_mv (v := .bool true) rfl) ?_
          refine f_no rfl rfl ?_
          refine f_no rfl rfl ?_
          refine f_no rfl rfl ?_
          refine f_op rfl rfl (s_pickT (v := .bool true) rfl rfl) ?_
          refine f_op rfl rfl (s_mv (v := .bool true) rfl) ?_
          refine f_no rfl rfl ?_
          refine f_no rfl rfl ?_
          refine f_no rfl rfl ?_
          refine f_op rfl rfl (s_pickT (v := .bool true) rfl rfl) ?_
          refine f_nil ?_
          refine f_keep [0, 5, 6, 7, 37] ?_
          exact s103_j1 _ (fun v1_ v2_ v3_ v4_ H_ => ih v1_ v2_ v3_ v4_ H_) v1 v2 v3 v4 true H
        · skip
          refine o_know 19 rfl (dec_false h5) ?_
          refine f_op rfl rfl (s_mv (v := .sl x3) rfl) ?_
          refine f_op rfl rfl (s_lenS rfl Tryz.underlying30 rfl) ?_
          refine f_op rfl rfl (s_mv (v := .sl v1) rfl) ?_
          refine o_ck fun g6 => ?_
          refine f_op rfl rfl (s_idx Tryz.underlying122 ty30 rfl rfl g6) ?_
          refine o_bind ?_; intro x7 hx7
          refine f_op rfl rfl (s_load Tryz.underlying30 rfl rfl (ldSl_eq hx7)) ?_
          refine f_op rfl rfl (s_lenS rfl Tryz.underlying30 rfl) ?_
          refine f_op rfl rfl (s_neq rfl rfl) ?_
          refine f_op rfl rfl (s_pickF (v := .bool (decide ((x3.len : Int) ≠ (x7.len : Int)))) rfl rfl) ?_
          refine f_op rfl rfl (s_mv (v := .bool (decide ((x3.len : Int) ≠ (x7.len : Int)))) rfl) ?_
          refine o_if (fun h8 => ?_) (fun h8 => ?_)
          · skip
            refine o_know 28 rfl (dec_true h8) ?_
            refine f_no rfl rfl ?_
            refine f_no rfl rfl ?_
            refine f_no rfl rfl ?_
            refine f_op rfl rfl (s_pickT (v := .bool true) rfl rfl) ?_
            refine f_op rfl rfl (s_mv (v := .bool true) rfl) ?_
            refine f_no rfl rfl ?_
            refine f_no rfl rfl ?_
            refine f_no rfl rfl ?_
            refine f_op rfl rfl (s_pickT (v := .bool true) rfl rfl) ?_
            refine f_nil ?_
            refine f_keep [0, 5, 6, 7, 37] ?_
            exact s103_j1 _ (fun v1_ v2_ v3_ v4_ H_ => ih v1_ v2_ v3_ v4_ H_) v1 v2 v3 v4 true H
          · skip
            refine o_know 28 rfl (dec_false h8) ?_
            refine f_op rfl rfl (s_mv (v := .sl x3) rfl) ?_
            refine o_bind ?_; intro p9 hp9
            refine f_op rfl rfl (s_callF rfl ok156 (sim156 hp9)) ?_
            refine f_op rfl rfl (s_lss rfl rfl) ?_
            refine f_op rfl rfl (s_pickF (v := .bool (decide (p9.1 < 0))) rfl rfl) ?_
            refine f_op rfl rfl (s_mv (v := .bool (decide (p9.1 < 0))) rfl) ?_
            refine o_if (fun h10 => ?_) (fun h10 => ?_)
            · skip
              refine o_know 33 rfl (dec_true h10) ?_
              refine f_no rfl rfl ?_
              refine f_no rfl rfl ?_
              refine f_no rfl rfl ?_
              refine f_op rfl rfl (s_pickT (v := .bool true) rfl rfl) ?_
              refine f_nil ?_
              refine f_keep [0, 5, 6, 7, 37] ?_
              exact s103_j1 _ (fun v1_ v2_ v3_ v4_ H_ => ih v1_ v2_ v3_ v4_ H_) v1 v2 v3 v4 true p9.2
            · skip
              refine o_know 33 rfl (dec_false h10) ?_
              refine f_op rfl rfl (s_mv (v := .sl x3) rfl) ?_
              refine o_bind ?_; intro p11 hp11
              refine f_op rfl rfl (s_callF rfl ok157 (sim157 hp11)) ?_
              refine f_op rfl rfl (s_gtr rfl rfl) ?_
              refine f_op rfl rfl (s_pickF (v := .bool (decide (20 < p11.1))) rfl rfl) ?_
              refine f_nil ?_
              refine f_keep [0, 5, 6, 7, 37] ?_
              exact s103_j1 _ (fun v1_ v2_ v3_ v4_ H_ => ih v1_ v2_ v3_ v4_ H_) v1 v2 v3 v4 (decide (20 < p11.1)) p11.2
    · skip
      refine f_know 8 rfl (dec_false h1) ?_
      refine f_condF rfl ?_
      refine f_exit rfl ?_
      refine f_seq ?_
      refine f_region ?_
      refine f_op rfl rfl (s_as (v := .bool true) rfl) ?_
      refine f_nil ?_
      exact f_ret (.tmp rfl (.nil)) rfl

theorem sim103 {a0 : Sl} {H : Hp} {p : Bool × Hp} (h : r103 a0 H = some p) : CallSim Tryz.prog 103 [.sl a0] H (.bool p.1) p.2 := by
  refine callSim (fn := Tryz.f103) (ret := ret103) Tryz.func103 rfl Tryz.ntmps103 rfl ?_ h
  unfold r103
  refine f_seq ?_
  refine f_region ?_
  refine f_op rfl rfl (s_as (v := .bool false) rfl) ?_
  refine f_nil ?_
  refine f_seq ?_
  refine f_seq ?_
  refine f_region ?_
  refine f_op rfl rfl (s_mv (v := .sl a0) rfl) ?_
  refine f_op rfl rfl (s_lenS rfl Tryz.underlying122 rfl) ?_
  refine f_op rfl rfl (s_mv (v := .int .i64 0) rfl) ?_
  refine f_nil ?_
  refine f_block ?_
  refine f_loop ?_
  refine f_keep [0, 5, 6, 7] ?_
  exact s103_l0 FUEL a0 a0 (a0.len : Int) 0 H

/- 104 (congou/shares.Give).do -/
theorem ok104 : FnOk Tryz.prog 104 := ⟨⟨Tryz.f104, Tryz.func104, by kernel_rfl, rfl⟩⟩
theorem s104_j0 (v1 : Sl) (v2 : Nat) (v3 : Bool) (H : Hp) : Fin Tryz.prog Tryz.f104 ret104 80 (todoAt (bodyOf Tryz.f104) [1, 1, 0, 1] []) [(1, .sl v1), (2, .ptr v2 0), (61, .bool v3)] H (r104_j0 v1 v2 v3 H) := by
  unfold r104_j0
  refine f_if (fun h1 => ?_) (fun h1 => ?_)
  · skip
    refine f_know 61 rfl (bool_T h1) ?_
    refine f_condT rfl ?_
    refine f_seq ?_
    refine f_region ?_
    refine f_op rfl rfl (s_as (v := .bool false) rfl) ?_
    refine f_nil ?_
    exact f_ret (.tmp rfl (.nil)) rfl
  · skip
    refine f_know 61 rfl (bool_F h1) ?_
    refine f_condF rfl ?_
    refine f_skip ?_
    refine f_seq ?_
    refine f_bind ?_; intro x2 hx2
    refine f_ck fun g3 => ?_
    refine f_bind ?_; intro x4 hx4
    refine f_bind ?_; intro x5 hx5
    refine f_ck fun g6 => ?_
    refine f_bind ?_; intro H7 hH7
    refine f_draw (Φ := fun _ => True) (lim := 1000000) [0, 0, 1, 0, 1, 0, 1, 0, 0, 2] (Trc.pure rfl rfl rfl (.inl fun _ => s_mv (v := .sl v1) rfl) (Trc.pure rfl rfl rfl (.inl fun _ => s_fieldAddr Tryz.underlying114 rfl ty3 rfl) (Trc.read rfl rfl rfl (s_load Tryz.underlying3 rfl rfl (ldI_eq hx2)) (Trc.pure rfl rfl rfl (.inl fun _ => s_idx Tryz.underlying30 ty3 rfl rfl g3) (Trc.read rfl rfl rfl (s_load Tryz.underlying3 rfl rfl (ldI_eq hx4)) (Trc.pure rfl rfl rfl (.inl fun _ => s_fieldAddr Tryz.underlying114 rfl ty3 rfl) (Trc.read rfl rfl rfl (s_load Tryz.underlying3 rfl rfl (ldI_eq hx5)) (Trc.pure rfl rfl rfl (.inl fun _ => s_sub rfl rfl) (Trc.pure rfl rfl rfl (.inl fun _ => s_idx Tryz.underlying30 ty3 rfl rfl g6) (Trc.eff rfl rfl rfl (fun _ => trivial) (s_store (s := 1) ty3 rfl rfl rfl hH7) (Trc.nil (fun _ => trivial)))))))))))) rfl (by decide +kernel) mixed ?_
    refine f_seq ?_
    refine f_bind ?_; intro x8 hx8
    refine f_ck fun g9 => ?_
    refine f_bind ?_; intro x10 hx10
    refine f_bind ?_; intro x11 hx11
    refine f_ck fun g12 => ?_
    refine f_bind ?_; intro H13 hH13
    refine f_draw (Φ := fun _ => True) (lim := 1000000) [0, 0, 1, 0, 1, 0, 1, 0, 0, 2] (Trc.pure rfl rfl rfl (.inl fun _ => s_mv (v := .sl v1) rfl) (Trc.pure rfl rfl rfl (.inl fun _ => s_fieldAddr Tryz.underlying114 rfl ty3 rfl) (Trc.read rfl rfl rfl (s_load Tryz.underlying3 rfl rfl (ldI_eq hx8)) (Trc.pure rfl rfl rfl (.inl fun _ => s_idx Tryz.underlying30 ty3 rfl rfl g9) (Trc.read rfl rfl rfl (s_load Tryz.underlying3 rfl rfl (ldI_eq hx10)) (Trc.pure rfl rfl rfl (.inl fun _ => s_fieldAddr Tryz.underlying114 rfl ty3 rfl) (Trc.read rfl rfl rfl (s_load Tryz.underlying3 rfl rfl (ldI_eq hx11)) (Trc.pure rfl rfl rfl (.inl fun _ => s_add rfl rfl) (Trc.pure rfl rfl rfl (.inl fun _ => s_idx Tryz.underlying30 ty3 rfl rfl g12) (Trc.eff rfl rfl rfl (fun _ => trivial) (s_store (s := 1) ty3 rfl rfl rfl hH13) (Trc.nil (fun _ => trivial)))))))))))) rfl (by decide +kernel) mixed ?_
    refine f_seq ?_
    refine f_region ?_
    refine f_op rfl rfl (s_as (v := .bool true) rfl) ?_
    refine f_nil ?_
    exact f_ret (.tmp rfl (.nil)) rfl

theorem sim104 {a0_0 : Int} {a0_1 : Int} {a0_2 : Int} {a1 : Sl} {H : Hp} {p : Bool × Hp} (h : r104 a0_0 a0_1 a0_2 a1 H = some p) : CallSim Tryz.prog 104 [.agg [.int .i64 a0_0, .int .i64 a0_1, .int .i64 a0_2], .sl a1] H (.bool p.1) p.2 := by
  refine callSim (fn := Tryz.f104) (ret := ret104) Tryz.func104 rfl Tryz.ntmps104 rfl ?_ h
  unfold r104
  refine f_seq ?_
  refine f_region ?_
  refine f_op rfl rfl (s_box (v := .agg [.int .i64 a0_0, .int .i64 a0_1, .int .i64 a0_2]) rfl rfl) ?_
  refine f_op rfl rfl (s_as (v := .bool false) rfl) ?_
  refine o_hp ?_; intro H1 hH1
  refine f_nil ?_
  refine f_seq ?_
  refine f_region ?_
  refine f_op rfl rfl (s_mv (v := .sl a1) rfl) ?_
  refine f_op rfl rfl (s_lenS rfl Tryz.underlying30 rfl) ?_
  refine f_op rfl rfl (s_as (v := .int .i64 (a1.len : Int)) rfl) ?_
  refine f_nil ?_
  refine f_seq ?_
  refine f_seq ?_
  refine f_bind ?_; intro x2 hx2
  refine f_if (fun h3 => ?_) (fun h3 => ?_)
  · skip
    refine f_draw (Φ := fun _ => True) (lim := 1000000) [0, 1, 0, 0, 0, 0, 0, 0, 0, 0, 0, 0, 0, 0, 0, 0, 0, 0, 0, 0, 0, 0, 0, 0, 0, 0, 0, 0, 0, 0, 0, 0, 0, 0, 0, 0, 0, 0, 0, 0, 0, 0, 0, 0, 0, 0, 0, 0, 0, 0, 0, 0, 0, 0] (Trc.pure rfl rfl rfl (.inl fun _ => s_fieldAddr Tryz.underlying114 rfl ty3 rfl) (Trc.read rfl rfl rfl (s_load Tryz.underlying3 rfl rfl (ldI_eq hx2)) (Trc.pure rfl rfl rfl (.inl fun _ => s_lss rfl rfl) (Trc.pure rfl rfl rfl (.inl fun _ => s_mv (v := .bool (decide (x2 < 0))) rfl) (Trc.know 11 rfl (dec_true h3) (Trc.no rfl rfl rfl (Trc.no rfl rfl rfl (Trc.no rfl rfl rfl (Trc.no rfl rfl rfl (Trc.pure rfl rfl rfl (.inl fun _ => s_pickT (v := .bool true) rfl rfl) (Trc.pure rfl rfl rfl (.inl fun _ => s_mv (v := .bool true) rfl) (Trc.no rfl rfl rfl (Trc.no rfl rfl rfl (Trc.no rfl rfl rfl (Trc.pure rfl rfl rfl (.inl fun _ => s_pickT (v := .bool true) rfl rfl) (Trc.pure rfl rfl rfl (.inl fun _ => s_mv (v := .bool true) rfl) (Trc.no rfl rfl rfl (Trc.no rfl rfl rfl (Trc.no rfl rfl rfl (Trc.no rfl rfl rfl (Trc.pure rfl rfl rfl (.inl fun _ => s_pickT (v := .bool true) rfl rfl) (Trc.pure rfl rfl rfl (.inl fun _ => s_mv (v := .bool true) rfl) (Trc.no rfl rfl rfl (Trc.no rfl rfl rfl (Trc.no rfl rfl rfl (Trc.no rfl rfl rfl (Trc.no rfl rfl rfl (Trc.pure rfl rfl rfl (.inl fun _ => s_pickT (v := .bool true) rfl rfl) (Trc.pure rfl rfl rfl (.inl fun _ => s_mv (v := .bool true) rfl) (Trc.no rfl rfl rfl (Trc.no rfl rfl rfl (Trc.no rfl rfl rfl (Trc.pure rfl rfl rfl (.inl fun _ => s_pickT (v := .bool true) rfl rfl) (Trc.pure rfl rfl rfl (.inl fun _ => s_mv (v := .bool true) rfl) (Trc.no rfl rfl rfl (Trc.no rfl rfl rfl (Trc.no rfl rfl rfl (Trc.pure rfl rfl rfl (.inl fun _ => s_pickT (v := .bool true) rfl rfl) (Trc.pure rfl rfl rfl (.inl fun _ => s_mv (v := .bool true) rfl) (Trc.no rfl rfl rfl (Trc.no rfl rfl rfl (Trc.no rfl rfl rfl (Trc.no rfl rfl rfl (Trc.no rfl rfl rfl (Trc.no rfl rfl rfl (Trc.no rfl rfl rfl (Trc.no rfl rfl rfl (Trc.no rfl rfl rfl (Trc.no rfl rfl rfl (Trc.no rfl rfl rfl (Trc.no rfl rfl rfl (Trc.no rfl rfl rfl (Trc.no rfl rfl rfl (Trc.no rfl rfl rfl (Trc.pure rfl rfl rfl (.inl fun _ => s_pickT (v := .bool true) rfl rfl) (Trc.nil (fun _ => trivial))))))))))))))))))))))))))))))))))))))))))))))))))))))))) rfl (by decide +kernel) mixed ?_
    refine f_keep [1, 2, 61] ?_
    exact s104_j0 a1 H.n true H1
  · skip
    refine f_bind ?_; intro x4 hx4
    refine f_if (fun h5 => ?_) (fun h5 => ?_)
    · skip
      refine f_draw (Φ := fun _ => True) (lim := 1000000) [0, 1, 0, 0, 0, 1, 0, 0, 0, 0, 0, 0, 0, 0, 0, 0, 0, 0, 0, 0, 0, 0, 0, 0, 0, 0, 0, 0, 0, 0, 0, 0, 0, 0, 0, 0, 0, 0, 0, 0, 0, 0, 0, 0, 0, 0, 0, 0, 0, 0, 0, 0, 0, 0] (Trc.pure rfl rfl rfl (.inl fun _ => s_fieldAddr Tryz.underlying114 rfl ty3 rfl) (Trc.read rfl rfl rfl (s_load Tryz.underlying3 rfl rfl (ldI_eq hx2)) (Trc.pure rfl rfl rfl (.inl fun _ => s_lss rfl rfl) (Trc.pure rfl rfl rfl (.inl fun _ => s_mv (v := .bool (decide (x2 < 0))) rfl) (Trc.know 11 rfl (dec_false h3) (Trc.pure rfl rfl rfl (.inl fun _ => s_fieldAddr Tryz.underlying114 rfl ty3 rfl) (Trc.read rfl rfl rfl (s_load Tryz.underlying3 rfl rfl (ldI_eq hx4)) (Trc.pure rfl rfl rfl (.inl fun _ => s_mv (v := .int .i64 (a1.len : Int)) rfl) (Trc.pure rfl rfl rfl (.inl fun _ => s_geq rfl rfl) (Trc.pure rfl rfl rfl (.inl fun _ => s_pickF (v := .bool (decide ((a1.len : Int) ≤ x4))) rfl rfl) (Trc.pure rfl rfl rfl (.inl fun _ => s_mv (v := .bool (decide ((a1.len : Int) ≤ x4))) rfl) (Trc.know 17 rfl (dec_true h5) (Trc.no rfl rfl rfl (Trc.no rfl rfl rfl (Trc.no rfl rfl rfl (Trc.pure rfl rfl rfl (.inl fun _ => s_pickT (v := .bool true) rfl rfl) (Trc.pure rfl rfl rfl (.inl fun _ => s_mv (v := .bool true) rfl) (Trc.no rfl rfl rfl (Trc.no rfl rfl rfl (Trc.no rfl rfl rfl (Trc.no rfl rfl rfl (Trc.pure rfl rfl rfl (.inl fun _ => s_pickT (v := .bool true) rfl rfl) (Trc.pure rfl rfl rfl (.inl fun _ => s_mv (v := .bool true) rfl) (Trc.no rfl rfl rfl (Trc.no rfl rfl rfl (Trc.no rfl rfl rfl (Trc.no rfl rfl rfl (Trc.no rfl rfl rfl (Trc.pure rfl rfl rfl (.inl fun _ => s_pickT (v := .bool true) rfl rfl) (Trc.pure rfl rfl rfl (.inl fun _ => s_mv (v := .bool true) rfl) (Trc.no rfl rfl rfl (Trc.no rfl rfl rfl (Trc.no rfl rfl rfl (Trc.pure rfl rfl rfl (.inl fun _ => s_pickT (v := .bool true) rfl rfl) (Trc.pure rfl rfl rfl (.inl fun _ => s_mv (v := .bool true) rfl) (Trc.no rfl rfl rfl (Trc.no rfl rfl rfl (Trc.no rfl rfl rfl (Trc.pure rfl rfl rfl (.inl fun _ => s_pickT (v := .bool true) rfl rfl) (Trc.pure rfl rfl rfl (.inl fun _ => s_mv (v := .bool true) rfl) (Trc.no rfl rfl rfl (Trc.no rfl rfl rfl (Trc.no rfl rfl rfl (Trc.no rfl rfl rfl (Trc.no rfl rfl rfl (Trc.no rfl rfl rfl (Trc.no rfl rfl rfl (Trc.no rfl rfl rfl (Trc.no rfl rfl rfl (Trc.no rfl rfl rfl (Trc.no rfl rfl rfl (Trc.no rfl rfl rfl (Trc.no rfl rfl rfl (Trc.no rfl rfl rfl (Trc.no rfl rfl rfl (Trc.pure rfl rfl rfl (.inl fun _ => s_pickT (v := .bool true) rfl rfl) (Trc.nil (fun _ => trivial)))))))))))))))))))))))))))))))))))))))))))))))))))))))))) rfl (by decide +kernel) mixed ?_
      refine f_keep [1, 2, 61] ?_
      exact s104_j0 a1 H.n true H1
    · skip
      refine f_bind ?_; intro x6 hx6
      refine f_if (fun h7 => ?_) (fun h7 => ?_)
      · skip
        refine f_draw (Φ := fun _ => True) (lim := 1000000) [0, 1, 0, 0, 0, 1, 0, 0, 0, 0, 0, 1, 0, 0, 0, 0, 0, 0, 0, 0, 0, 0, 0, 0, 0, 0, 0, 0, 0, 0, 0, 0, 0, 0, 0, 0, 0, 0, 0, 0, 0, 0, 0, 0, 0, 0, 0, 0, 0, 0, 0, 0, 0, 0] (Trc.pure rfl rfl rfl (.inl fun _ => s_fieldAddr Tryz.underlying114 rfl ty3 rfl) (Trc.read rfl rfl rfl (s_load Tryz.underlying3 rfl rfl (ldI_eq hx2)) (Trc.pure rfl rfl rfl (.inl fun _ => s_lss rfl rfl) (Trc.pure rfl rfl rfl (.inl fun _ => s_mv (v := .bool (decide (x2 < 0))) rfl) (Trc.know 11 rfl (dec_false h3) (Trc.pure rfl rfl rfl (.inl fun _ => s_fieldAddr Tryz.underlying114 rfl ty3 rfl) (Trc.read rfl rfl rfl (s_load Tryz.underlying3 rfl rfl (ldI_eq hx4)) (Trc.pure rfl rfl rfl (.inl fun _ => s_mv (v := .int .i64 (a1.len : Int)) rfl) (Trc.pure rfl rfl rfl (.inl fun _ => s_geq rfl rfl) (Trc.pure rfl rfl rfl (.inl fun _ => s_pickF (v := .bool (decide ((a1.len : Int) ≤ x4))) rfl rfl) (Trc.pure rfl rfl rfl (.inl fun _ => s_mv (v := .bool (decide ((a1.len : Int) ≤ x4))) rfl) (Trc.know 17 rfl (dec_false h5) (Trc.pure rfl rfl rfl (.inl fun _ => s_fieldAddr Tryz.underlying114 rfl ty3 rfl) (Trc.read rfl rfl rfl (s_load Tryz.underlying3 rfl rfl (ldI_eq hx6)) (Trc.pure rfl rfl rfl (.inl fun _ => s_lss rfl rfl) (Trc.pure rfl rfl rfl (.inl fun _ => s_pickF (v := .bool (decide (x6 < 0))) rfl rfl) (Trc.pure rfl rfl rfl (.inl fun _ => s_mv (v := .bool (decide (x6 < 0))) rfl) (Trc.know 22 rfl (dec_true h7) (Trc.no rfl rfl rfl (Trc.no rfl rfl rfl (Trc.no rfl rfl rfl (Trc.no rfl rfl rfl (Trc.pure rfl rfl rfl (.inl fun _ => s_pickT (v := .bool true) rfl rfl) (Trc.pure rfl rfl rfl (.inl fun _ => s_mv (v := .bool true) rfl) (Trc.no rfl rfl rfl (Trc.no rfl rfl rfl (Trc.no rfl rfl rfl (Trc.no rfl rfl rfl (Trc.no rfl rfl rfl (Trc.pure rfl rfl rfl (.inl fun _ => s_pickT (v := .bool true) rfl rfl) (Trc.pure rfl rfl rfl (.inl fun _ => s_mv (v := .bool true) rfl) (Trc.no rfl rfl rfl (Trc.no rfl rfl rfl (Trc.no rfl rfl rfl (Trc.pure rfl rfl rfl (.inl fun _ => s_pickT (v := .bool true) rfl rfl) (Trc.pure rfl rfl rfl (.inl fun _ => s_mv (v := .bool true) rfl) (Trc.no rfl rfl rfl (Trc.no rfl rfl rfl (Trc.no rfl rfl rfl (Trc.pure rfl rfl rfl (.inl fun _ => s_pickT (v := .bool true) rfl rfl) (Trc.pure rfl rfl rfl (.inl fun _ => s_mv (v := .bool true) rfl) (Trc.no rfl rfl rfl (Trc.no rfl rfl rfl (Trc.no rfl rfl rfl (Trc.no rfl rfl rfl (Trc.no rfl rfl rfl (Trc.no rfl rfl rfl (Trc.no rfl rfl rfl (Trc.no rfl rfl rfl (Trc.no rfl rfl rfl (Trc.no rfl rfl rfl (Trc.no rfl rfl rfl (Trc.no rfl rfl rfl (Trc.no rfl rfl rfl (Trc.no rfl rfl rfl (Trc.no rfl rfl rfl (Trc.pure rfl rfl rfl (.inl fun _ => s_pickT (v := .bool true) rfl rfl) (Trc.nil (fun _ => trivial))))))))))))))))))))))))))))))))))))))))))))))))))))))))))) rfl (by decide +kernel) mixed ?_
        refine f_keep [1, 2, 61] ?_
        exact s104_j0 a1 H.n true H1
      · skip
        refine f_bind ?_; intro x8 hx8
        refine f_if (fun h9 => ?_) (fun h9 => ?_)
        · skip
          refine f_draw (Φ := fun _ => True) (lim := 1000000) [0, 1, 0, 0, 0, 1, 0, 0, 0, 0, 0, 1, 0, 0, 0, 0, 1, 0, 0, 0, 0, 0, 0, 0, 0, 0, 0, 0, 0, 0, 0, 0, 0, 0, 0, 0, 0, 0, 0, 0, 0, 0, 0, 0, 0, 0, 0, 0, 0, 0, 0, 0, 0, 0] (Trc.pure rfl rfl rfl (.inl fun _ => s_fieldAddr Tryz.underlying114 rfl ty3 rfl) (Trc.read rfl rfl rfl (s_load Tryz.underlying3 rfl rfl (ldI_eq hx2)) (Trc.pure rfl rfl rfl (.inl fun _ => s_lss rfl rfl) (Trc.pure rfl rfl rfl (.inl fun _ => s_mv (v := .bool (decide (x2 < 0))) rfl) (Trc.know 11 rfl (dec_false h3) (Trc.pure rfl rfl rfl (.inl fun _ => s_fieldAddr Tryz.underlying114 rfl ty3 rfl) (Trc.read rfl rfl rfl (s_load Tryz.underlying3 rfl rfl (ldI_eq hx4)) (Trc.pure rfl rfl rfl (.inl fun _ => s_mv (v := .int .i64 (a1.len : Int)) rfl) (Trc.pure rfl rfl rfl (.inl fun _ => s_geq rfl rfl) (Trc.pure rfl rfl rfl (.inl fun _ => s_pickF (v := .bool (decide ((a1.len : Int) ≤ x4))) rfl rfl) (Trc.pure rfl rfl rfl (.inl fun _ => s_mv (v := .bool (decide ((a1.len : Int) ≤ x4))) rfl) (Trc.know 17 rfl (dec_false h5) (Trc.pure rfl rfl rfl (.inl fun _ => s_fieldAddr Tryz.underlying114 rfl ty3 rfl) (Trc.read rfl rfl rfl (s_load Tryz.underlying3 rfl rfl (ldI_eq hx6)) (Trc.pure rfl rfl rfl (.inl fun _ => s_lss rfl rfl) (Trc.pure rfl rfl rfl (.inl fun _ => s_pickF (v := .bool (decide (x6 < 0))) rfl rfl) (Trc.pure rfl rfl rfl (.inl fun _ => s_mv (v := .bool (decide (x6 < 0))) rfl) (Trc.know 22 rfl (dec_false h7) (Trc.pure rfl rfl rfl (.inl fun _ => s_fieldAddr Tryz.underlying114 rfl ty3 rfl) (Trc.read rfl rfl rfl (s_load Tryz.underlying3 rfl rfl (ldI_eq hx8)) (Trc.pure rfl rfl rfl (.inl fun _ => s_mv (v := .int .i64 (a1.len : Int)) rfl) (Trc.pure rfl rfl rfl (.inl fun _ => s_geq rfl rfl) (Trc.pure rfl rfl rfl (.inl fun _ => s_pickF (v := .bool (decide ((a1.len : Int) ≤ x8))) rfl rfl) (Trc.pure rfl rfl rfl (.inl fun _ => s_mv (v := .bool (decide ((a1.len : Int) ≤ x8))) rfl) (Trc.know 28 rfl (dec_true h9) (Trc.no rfl rfl rfl (Trc.no rfl rfl rfl (Trc.no rfl rfl rfl (Trc.no rfl rfl rfl (Trc.no rfl rfl rfl (Trc.pure rfl rfl rfl (.inl fun _ => s_pickT (v := .bool true) rfl rfl) (Trc.pure rfl rfl rfl (.inl fun _ => s_mv (v := .bool true) rfl) (Trc.no rfl rfl rfl (Trc.no rfl rfl rfl (Trc.no rfl rfl rfl (Trc.pure rfl rfl rfl (.inl fun _ => s_pickT (v := .bool true) rfl rfl) (Trc.pure rfl rfl rfl (.inl fun _ => s_mv (v := .bool true) rfl) (Trc.no rfl rfl rfl (Trc.no rfl rfl rfl (Trc.no rfl rfl rfl (Trc.pure rfl rfl rfl (.inl fun _ => s_pickT (v := .bool true) rfl rfl) (Trc.pure rfl rfl rfl (.inl fun _ => s_mv (v := .bool true) rfl) (Trc.no rfl rfl rfl (Trc.no rfl rfl rfl (Trc.no rfl rfl rfl (Trc.no rfl rfl rfl (Trc.no rfl rfl rfl (Trc.no rfl rfl rfl (Trc.no rfl rfl rfl (Trc.no rfl rfl rfl (Trc.no rfl rfl rfl (Trc.no rfl rfl rfl (Trc.no rfl rfl rfl (Trc.no rfl rfl rfl (Trc.no rfl rfl rfl (Trc.no rfl rfl rfl (Trc.no rfl rfl rfl (Trc.pure rfl rfl rfl (.inl fun _ => s_pickT (v := .bool true) rfl rfl) (Trc.nil (fun _ => trivial)))))))))))))))))))))))))))))))))))))))))))))))))))))))))))) rfl (by decide +kernel) mixed ?_
          refine f_keep [1, 2, 61] ?_
          exact s104_j0 a1 H.n true H1
        · skip
          refine f_bind ?_; intro x10 hx10
          refine f_bind ?_; intro x11 hx11
          refine f_if (fun h12 => ?_) (fun h12 => ?_)
          · skip
            refine f_draw (Φ := fun _ => True) (lim := 1000000) [0, 1, 0, 0, 0, 1, 0, 0, 0, 0, 0, 1, 0, 0, 0, 0, 1, 0, 0, 0, 0, 0, 1, 0, 1, 0, 0, 0, 0, 0, 0, 0, 0, 0, 0, 0, 0, 0, 0, 0, 0, 0, 0, 0, 0, 0, 0, 0, 0, 0, 0, 0, 0, 0] (Trc.pure rfl rfl rfl (.inl fun _ => s_fieldAddr Tryz.underlying114 rfl ty3 rfl) (Trc.read rfl rfl rfl (s_load Tryz.underlying3 rfl rfl (ldI_eq hx2)) (Trc.pure rfl rfl rfl (.inl fun _ => s_lss rfl rfl) (Trc.pure rfl rfl rfl (.inl fun _ => s_mv (v := .bool (decide (x2 < 0))) rfl) (Trc.know 11 rfl (dec_false h3) (Trc.pure rfl rfl rfl (.inl fun _ => s_fieldAddr Tryz.underlying114 rfl ty3 rfl) (Trc.read rfl rfl rfl (s_load Tryz.underlying3 rfl rfl (ldI_eq hx4)) (Trc.pure rfl rfl rfl (.inl fun _ => s_mv (v := .int .i64 (a1.len : Int)) rfl) (Trc.pure rfl rfl rfl (.inl fun _ => s_geq rfl rfl) (Trc.pure rfl rfl rfl (.inl fun _ => s_pickF (v := .bool (decide ((a1.len : Int) ≤ x4))) rfl rfl) (Trc.pure rfl rfl rfl (.inl fun _ => s_mv (v := .bool (decide ((a1.len : Int) ≤ x4))) rfl) (Trc.know 17 rfl (dec_false h5) (Trc.pure rfl rfl rfl (.inl fun _ => s_fieldAddr Tryz.underlying114 rfl ty3 rfl) (Trc.read rfl rfl rfl (s_load Tryz.underlying3 rfl rfl (ldI_eq hx6)) (Trc.pure rfl rfl rfl (.inl fun _ => s_lss rfl rfl) (Trc.pure rfl rfl rfl (.inl fun _ => s_pickF (v := .bool (decide (x6 < 0))) rfl rfl) (Trc.pure rfl rfl rfl (.inl fun _ => s_mv (v := .bool (decide (x6 < 0))) rfl) (Trc.know 22 rfl (dec_false h7) (Trc.pure rfl rfl rfl (.inl fun _ => s_fieldAddr Tryz.underlying114 rfl ty3 rfl) (Trc.read rfl rfl rfl (s_load Tryz.underlying3 rfl rfl (ldI_eq hx8)) (Trc.pure rfl rfl rfl (.inl fun _ => s_mv (v := .int .i64 (a1.len : Int)) rfl) (Trc.pure rfl rfl rfl (.inl fun _ => s_geq rfl rfl) (Trc.pure rfl rfl rfl (.inl fun _ => s_pickF (v := .bool (decide ((a1.len : Int) ≤ x8))) rfl rfl) (Trc.pure rfl rfl rfl (.inl fun _ => s_mv (v := .bool (decide ((a1.len : Int) ≤ x8))) rfl) (Trc.know 28 rfl (dec_false h9) (Trc.pure rfl rfl rfl (.inl fun _ => s_fieldAddr Tryz.underlying114 rfl ty3 rfl) (Trc.read rfl rfl rfl (s_load Tryz.underlying3 rfl rfl (ldI_eq hx10)) (Trc.pure rfl rfl rfl (.inl fun _ => s_fieldAddr Tryz.underlying114 rfl ty3 rfl) (Trc.read rfl rfl rfl (s_load Tryz.underlying3 rfl rfl (ldI_eq hx11)) (Trc.pure rfl rfl rfl (.inl fun _ => s_eql rfl rfl) (Trc.pure rfl rfl rfl (.inl fun _ => s_pickF (v := .bool (decide (x10 = x11))) rfl rfl) (Trc.pure rfl rfl rfl (.inl fun _ => s_mv (v := .bool (decide (x10 = x11))) rfl) (Trc.know 35 rfl (dec_true h12) (Trc.no rfl rfl rfl (Trc.no rfl rfl rfl (Trc.no rfl rfl rfl (Trc.pure rfl rfl rfl (.inl fun _ => s_pickT (v := .bool true) rfl rfl) (Trc.pure rfl rfl rfl (.inl fun _ => s_mv (v := .bool true) rfl) (Trc.no rfl rfl rfl (Trc.no rfl rfl rfl (Trc.no rfl rfl rfl (Trc.pure rfl rfl rfl (.inl fun _ => s_pickT (v := .bool true) rfl rfl) (Trc.pure rfl rfl rfl (.inl fun _ => s_mv (v := .bool true) rfl) (Trc.no rfl rfl rfl (Trc.no rfl rfl rfl (Trc.no rfl rfl rfl (Trc.no rfl rfl rfl (Trc.no rfl rfl rfl (Trc.no rfl rfl rfl (Trc.no rfl rfl rfl (Trc.no rfl rfl rfl (Trc.no rfl rfl rfl (Trc.no rfl rfl rfl (Trc.no rfl rfl rfl (Trc.no rfl rfl rfl (Trc.no rfl rfl rfl (Trc.no rfl rfl rfl (Trc.no rfl rfl rfl (Trc.pure rfl rfl rfl (.inl fun _ => s_pickT (v := .bool true) rfl rfl) (Trc.nil (fun _ => trivial))))))))))))))))))))))))))))))))))))))))))))))))))))))))))))) rfl (by decide +kernel) mixed ?_
            refine f_keep [1, 2, 61] ?_
            exact s104_j0 a1 H.n true H1
          · skip
            refine f_bind ?_; intro x13 hx13
            refine f_if (fun h14 => ?_) (fun h14 => ?_)
            · skip
              refine f_draw (Φ := fun _ => True) (lim := 1000000) [0, 1, 0, 0, 0, 1, 0, 0, 0, 0, 0, 1, 0, 0, 0, 0, 1, 0, 0, 0, 0, 0, 1, 0, 1, 0, 0, 0, 0, 1, 0, 0, 0, 0, 0, 0, 0, 0, 0, 0, 0, 0, 0, 0, 0, 0, 0, 0, 0, 0, 0, 0, 0, 0] (Trc.pure rfl rfl rfl (.inl fun _ => s_fieldAddr Tryz.underlying114 rfl ty3 rfl) (Trc.read rfl rfl rfl (s_load Tryz.underlying3 rfl rfl (ldI_eq hx2)) (Trc.pure rfl rfl rfl (.inl fun _ => s_lss rfl rfl) (Trc.pure rfl rfl rfl (.inl fun _ => s_mv (v := .bool (decide (x2 < 0))) rfl) (Trc.know 11 rfl (dec_false h3) (Trc.pure rfl rfl rfl (.inl fun _ => s_fieldAddr Tryz.underlying114 rfl ty3 rfl) (Trc.read rfl rfl rfl (s_load Tryz.underlying3 rfl rfl (ldI_eq hx4)) (Trc.pure rfl rfl rfl (.inl fun _ => s_mv (v := .int .i64 (a1.len : Int)) rfl) (Trc.pure rfl rfl rfl (.inl fun _ => s_geq rfl rfl) (Trc.pure rfl rfl rfl (.inl fun _ => s_pickF (v := .bool (decide ((a1.len : Int) ≤ x4))) rfl rfl) (Trc.pure rfl rfl rfl (.inl fun _ => s_mv (v := .bool (decide ((a1.len : Int) ≤ x4))) rfl) (Trc.know 17 rfl (dec_false h5) (Trc.pure rfl rfl rfl (.inl fun _ => s_fieldAddr Tryz.underlying114 rfl ty3 rfl) (Trc.read rfl rfl rfl (s_load Tryz.underlying3 rfl rfl (ldI_eq hx6)) (Trc.pure rfl rfl rfl (.inl fun _ => s_lss rfl rfl) (Trc.pure rfl rfl rfl (.inl fun _ => s_pickF (v := .bool (decide (x6 < 0))) rfl rfl) (Trc.pure rfl rfl rfl (.inl fun _ => s_mv (v := .bool (decide (x6 < 0))) rfl) (Trc.know 22 rfl (dec_false h7) (Trc.pure rfl rfl rfl (.inl fun _ => s_fieldAddr Tryz.underlying114 rfl ty3 rfl) (Trc.read rfl rfl rfl (s_load Tryz.underlying3 rfl rfl (ldI_eq hx8)) (Trc.pure rfl rfl rfl (.inl fun _ => s_mv (v := .int .i64 (a1.len : Int)) rfl) (Trc.pure rfl rfl rfl (.inl fun _ => s_geq rfl rfl) (Trc.pure rfl rfl rfl (.inl fun _ => s_pickF (v := .bool (decide ((a1.len : Int) ≤ x8))) rfl rfl) (Trc.pure rfl rfl rfl (.inl fun _ => s_mv (v := .bool (decide ((a1.len : Int) ≤ x8))) rfl) (Trc.know 28 rfl (dec_false h9) (Trc.pure rfl rfl rfl (.inl fun _ => s_fieldAddr Tryz.underlying114 rfl ty3 rfl) (Trc.read rfl rfl rfl (s_load Tryz.underlying3 rfl rfl (ldI_eq hx10)) (Trc.pure rfl rfl rfl (.inl fun _ => s_fieldAddr Tryz.underlying114 rfl ty3 rfl) (Trc.read rfl rfl rfl (s_load Tryz.underlying3 rfl rfl (ldI_eq hx11)) (Trc.pure rfl rfl rfl (.inl fun _ => s_eql rfl rfl) (Trc.pure rfl rfl rfl (.inl fun _ => s_pickF (v := .bool (decide (x10 = x11))) rfl rfl) (Trc.pure rfl rfl rfl (.inl fun _ => s_mv (v := .bool (decide (x10 = x11))) rfl) (Trc.know 35 rfl (dec_false h12) (Trc.pure rfl rfl rfl (.inl fun _ => s_fieldAddr Tryz.underlying114 rfl ty3 rfl) (Trc.read rfl rfl rfl (s_load Tryz.underlying3 rfl rfl (ldI_eq hx13)) (Trc.pure rfl rfl rfl (.inl fun _ => s_lss rfl rfl) (Trc.pure rfl rfl rfl (.inl fun _ => s_pickF (v := .bool (decide (x13 < 1))) rfl rfl) (Trc.pure rfl rfl rfl (.inl fun _ => s_mv (v := .bool (decide (x13 < 1))) rfl) (Trc.know 40 rfl (dec_true h14) (Trc.no rfl rfl rfl (Trc.no rfl rfl rfl (Trc.no rfl rfl rfl (Trc.pure rfl rfl rfl (.inl fun _ => s_pickT (v := .bool true) rfl rfl) (Trc.pure rfl rfl rfl (.inl fun _ => s_mv (v := .bool true) rfl) (Trc.no rfl rfl rfl (Trc.no rfl rfl rfl (Trc.no rfl rfl rfl (Trc.no rfl rfl rfl (Trc.no rfl rfl rfl (Trc.no rfl rfl rfl (Trc.no rfl rfl rfl (Trc.no rfl rfl rfl (Trc.no rfl rfl rfl (Trc.no rfl rfl rfl (Trc.no rfl rfl rfl (Trc.no rfl rfl rfl (Trc.no rfl rfl rfl (Trc.no rfl rfl rfl (Trc.no rfl rfl rfl (Trc.pure rfl rfl rfl (.inl fun _ => s_pickT (v := .bool true) rfl rfl) (Trc.nil (fun _ => trivial)))))))))))))))))))))))))))))))))))))))))))))))))))))))))))))) rfl (by decide +kernel) mixed ?_
              refine f_keep [1, 2, 61] ?_
              exact s104_j0 a1 H.n true H1
            · skip
              refine f_bind ?_; intro x15 hx15
              refine f_if (fun h16 => ?_) (fun h16 => ?_)
              · skip
                refine f_draw (Φ := fun _ => True) (lim := 1000000) [0, 1, 0, 0, 0, 1, 0, 0, 0, 0, 0, 1, 0, 0, 0, 0, 1, 0, 0, 0, 0, 0, 1, 0, 1, 0, 0, 0, 0, 1, 0, 0, 0, 0, 1, 0, 0, 0, 0, 0, 0, 0, 0, 0, 0, 0, 0, 0, 0, 0, 0, 0, 0, 0] (Trc.pure rfl rfl rfl (.inl fun _ => s_fieldAddr Tryz.underlying114 rfl ty3 rfl) (Trc.read rfl rfl rfl (s_load Tryz.underlying3 rfl rfl (ldI_eq hx2)) (Trc.pure rfl rfl rfl (.inl fun _ => s_lss rfl rfl) (Trc.pure rfl rfl rfl (.inl fun _ => s_mv (v := .bool (decide (x2 < 0))) rfl) (Trc.know 11 rfl (dec_false h3) (Trc.pure rfl rfl rfl (.inl fun _ => s_fieldAddr Tryz.underlying114 rfl ty3 rfl) (Trc.read rfl rfl rfl (s_load Tryz.underlying3 rfl rfl (ldI_eq hx4)) (Trc.pure rfl rfl rfl (.inl fun _ => s_mv (v := .int .i64 (a1.len : Int)) rfl) (Trc.pure rfl rfl rfl (.inl fun _ => s_geq rfl rfl) (Trc.pure rfl rfl rfl (.inl fun _ => s_pickF (v := .bool (decide ((a1.len : Int) ≤ x4))) rfl rfl) (Trc.pure rfl rfl rfl (.inl fun _ => s_mv (v := .bool (decide ((a1.len : Int) ≤ x4))) rfl) (Trc.know 17 rfl (dec_false h5) (Trc.pure rfl rfl rfl (.inl fun _ => s_fieldAddr Tryz.underlying114 rfl ty3 rfl) (Trc.read rfl rfl rfl (s_load Tryz.underlying3 rfl rfl (ldI_eq hx6)) (Trc.pure rfl rfl rfl (.inl fun _ => s_lss rfl rfl) (Trc.pure rfl rfl rfl (.inl fun _ => s_pickF (v := .bool (decide (x6 < 0))) rfl rfl) (Trc.pure rfl rfl rfl (.inl fun _ => s_mv (v := .bool (decide (x6 < 0))) rfl) (Trc.know 22 rfl (dec_false h7) (Trc.pure rfl rfl rfl (.inl fun _ => s_fieldAddr Tryz.underlying114 rfl ty3 rfl) (Trc.read rfl rfl rfl (s_load Tryz.underlying3 rfl rfl (ldI_eq hx8)) (Trc.pure rfl rfl rfl (.inl fun _ => s_mv (v := .int .i64 (a1.len : Int)) rfl) (Trc.pure rfl rfl rfl (.inl fun _ => s_geq rfl rfl) (Trc.pure rfl rfl rfl (.inl fun _ => s_pickF (v := .bool (decide ((a1.len : Int) ≤ x8))) rfl rfl) (Trc.pure rfl rfl rfl (.inl fun _ => s_mv (v := .bool (decide ((a1.len : Int) ≤ x8))) rfl) (Trc.know 28 rfl (dec_false h9) (Trc.pure rfl rfl rfl (.inl fun _ => s_fieldAddr Tryz.underlying114 rfl ty3 rfl) (Trc.read rfl rfl rfl (s_load Tryz.underlying3 rfl rfl (ldI_eq hx10)) (Trc.pure rfl rfl rfl (.inl fun _ => s_fieldAddr Tryz.underlying114 rfl ty3 rfl) (Trc.read rfl rfl rfl (s_load Tryz.underlying3 rfl rfl (ldI_eq hx11)) (Trc.pure rfl rfl rfl (.inl fun _ => s_eql rfl rfl) (Trc.pure rfl rfl rfl (.inl fun _ => s_pickF (v := .bool (decide (x10 = x11))) rfl rfl) (Trc.pure rfl rfl rfl (.inl fun _ => s_mv (v := .bool (decide (x10 = x11))) rfl) (Trc.know 35 rfl (dec_false h12) (Trc.pure rfl rfl rfl (.inl fun _ => s_fieldAddr Tryz.underlying114 rfl ty3 rfl) (Trc.read rfl rfl rfl (s_load Tryz.underlying3 rfl rfl (ldI_eq hx13)) (Trc.pure rfl rfl rfl (.inl fun _ => s_lss rfl rfl) (Trc.pure rfl rfl rfl (.inl fun _ => s_pickF (v := .bool (decide (x13 < 1))) rfl rfl) (Trc.pure rfl rfl rfl (.inl fun _ => s_mv (v := .bool (decide (x13 < 1))) rfl) (Trc.know 40 rfl (dec_false h14) (Trc.pure rfl rfl rfl (.inl fun _ => s_fieldAddr Tryz.underlying114 rfl ty3 rfl) (Trc.read rfl rfl rfl (s_load Tryz.underlying3 rfl rfl (ldI_eq hx15)) (Trc.pure rfl rfl rfl (.inl fun _ => s_gtr rfl rfl) (Trc.pure rfl rfl rfl (.inl fun _ => s_pickF (v := .bool (decide (20 < x15))) rfl rfl) (Trc.pure rfl rfl rfl (.inl fun _ => s_mv (v := .bool (decide (20 < x15))) rfl) (Trc.know 45 rfl (dec_true h16) (Trc.no rfl rfl rfl (Trc.no rfl rfl rfl (Trc.no rfl rfl rfl (Trc.no rfl rfl rfl (Trc.no rfl rfl rfl (Trc.no rfl rfl rfl (Trc.no rfl rfl rfl (Trc.no rfl rfl rfl (Trc.no rfl rfl rfl (Trc.no rfl rfl rfl (Trc.no rfl rfl rfl (Trc.no rfl rfl rfl (Trc.no rfl rfl rfl (Trc.no rfl rfl rfl (Trc.no rfl rfl rfl (Trc.pure rfl rfl rfl (.inl fun _ => s_pickT (v := .bool true) rfl rfl) (Trc.nil (fun _ => trivial))))))))))))))))))))))))))))))))))))))))))))))))))))))))))))))) rfl (by decide +kernel) mixed ?_
                refine f_keep [1, 2, 61] ?_
                exact s104_j0 a1 H.n true H1
              · skip
                refine f_bind ?_; intro x17 hx17
                refine f_ck fun g18 => ?_
                refine f_bind ?_; intro x19 hx19
                refine f_bind ?_; intro x20 hx20
                refine f_ck fun g21 => ?_
                refine f_bind ?_; intro x22 hx22
                refine f_bind ?_; intro x23 hx23
                refine f_draw (Φ := fun _ => True) (lim := 1000000) [0, 1, 0, 0, 0, 1, 0, 0, 0, 0, 0, 1, 0, 0, 0, 0, 1, 0, 0, 0, 0, 0, 1, 0, 1, 0, 0, 0, 0, 1, 0, 0, 0, 0, 1, 0, 0, 0, 0, 0, 1, 0, 1, 0, 0, 1, 0, 1, 0, 0, 1, 0, 0, 0] (Trc.pure rfl rfl rfl (.inl fun _ => s_fieldAddr Tryz.underlying114 rfl ty3 rfl) (Trc.read rfl rfl rfl (s_load Tryz.underlying3 rfl rfl (ldI_eq hx2)) (Trc.pure rfl rfl rfl (.inl fun _ => s_lss rfl rfl) (Trc.pure rfl rfl rfl (.inl fun _ => s_mv (v := .bool (decide (x2 < 0))) rfl) (Trc.know 11 rfl (dec_false h3) (Trc.pure rfl rfl rfl (.inl fun _ => s_fieldAddr Tryz.underlying114 rfl ty3 rfl) (Trc.read rfl rfl rfl (s_load Tryz.underlying3 rfl rfl (ldI_eq hx4)) (Trc.pure rfl rfl rfl (.inl fun _ => s_mv (v := .int .i64 (a1.len : Int)) rfl) (Trc.pure rfl rfl rfl (.inl fun _ => s_geq rfl rfl) (Trc.pure rfl rfl rfl (.inl fun _ => s_pickF (v := .bool (decide ((a1.len : Int) ≤ x4))) rfl rfl) (Trc.pure rfl rfl rfl (.inl fun _ => s_mv (v := .bool (decide ((a1.len : Int) ≤ x4))) rfl) (Trc.know 17 rfl (dec_false h5) (Trc.pure rfl rfl rfl (.inl fun _ => s_fieldAddr Tryz.underlying114 rfl ty3 rfl) (Trc.read rfl rfl rfl (s_load Tryz.underlying3 rfl rfl (ldI_eq hx6)) (Trc.pure rfl rfl rfl (.inl fun _ => s_lss rfl rfl) (Trc.pure rfl rfl rfl (.inl fun _ => s_pickF (v := .bool (decide (x6 < 0))) rfl rfl) (Trc.pure rfl rfl rfl (.inl fun _ => s_mv (v := .bool (decide (x6 < 0))) rfl) (Trc.know 22 rfl (dec_false h7) (Trc.pure rfl rfl rfl (.inl fun _ => s_fieldAddr Tryz.underlying114 rfl ty3 rfl) (Trc.read rfl rfl rfl (s_load Tryz.underlying3 rfl rfl (ldI_eq hx8)) (Trc.pure rfl rfl rfl (.inl fun _ => s_mv (v := .int .i64 (a1.len : Int)) rfl) (Trc.pure rfl rfl rfl (.inl fun _ => s_geq rfl rfl) (Trc.pure rfl rfl rfl (.inl fun _ => s_pickF (v := .bool (decide ((a1.len : Int) ≤ x8))) rfl rfl) (Trc.pure rfl rfl rfl (.inl fun _ => s_mv (v := .bool (decide ((a1.len : Int) ≤ x8))) rfl) (Trc.know 28 rfl (dec_false h9) (Trc.pure rfl rfl rfl (.inl fun _ => s_fieldAddr Tryz.underlying114 rfl ty3 rfl) (Trc.read rfl rfl rfl (s_load Tryz.underlying3 rfl rfl (ldI_eq hx10)) (Trc.pure rfl rfl rfl (.inl fun _ => s_fieldAddr Tryz.underlying114 rfl ty3 rfl) (Trc.read rfl rfl rfl (s_load Tryz.underlying3 rfl rfl (ldI_eq hx11)) (Trc.pure rfl rfl rfl (.inl fun _ => s_eql rfl rfl) (Trc.pure rfl rfl rfl (.inl fun _ => s_pickF (v := .bool (decide (x10 = x11))) rfl rfl) (Trc.pure rfl rfl rfl (.inl fun _ => s_mv (v := .bool (decide (x10 = x11))) rfl) (Trc.know 35 rfl (dec_false h12) (Trc.pure rfl rfl rfl (.inl fun _ => s_fieldAddr Tryz.underlying114 rfl ty3 rfl) (Trc.read rfl rfl rfl (s_load Tryz.underlying3 rfl rfl (ldI_eq hx13)) (Trc.pure rfl rfl rfl (.inl fun _ => s_lss rfl rfl) (Trc.pure rfl rfl rfl (.inl fun _ => s_pickF (v := .bool (decide (x13 < 1))) rfl rfl) (Trc.pure rfl rfl rfl (.inl fun _ => s_mv (v := .bool (decide (x13 < 1))) rfl) (Trc.know 40 rfl (dec_false h14) (Trc.pure rfl rfl rfl (.inl fun _ => s_fieldAddr Tryz.underlying114 rfl ty3 rfl) (Trc.read rfl rfl rfl (s_load Tryz.underlying3 rfl rfl (ldI_eq hx15)) (Trc.pure rfl rfl rfl (.inl fun _ => s_gtr rfl rfl) (Trc.pure rfl rfl rfl (.inl fun _ => s_pickF (v := .bool (decide (20 < x15))) rfl rfl) (Trc.pure rfl rfl rfl (.inl fun _ => s_mv (v := .bool (decide (20 < x15))) rfl) (Trc.know 45 rfl (dec_false h16) (Trc.pure rfl rfl rfl (.inl fun _ => s_mv (v := .sl a1) rfl) (Trc.pure rfl rfl rfl (.inl fun _ => s_fieldAddr Tryz.underlying114 rfl ty3 rfl) (Trc.read rfl rfl rfl (s_load Tryz.underlying3 rfl rfl (ldI_eq hx17)) (Trc.pure rfl rfl rfl (.inl fun _ => s_idx Tryz.underlying30 ty3 rfl rfl g18) (Trc.read rfl rfl rfl (s_load Tryz.underlying3 rfl rfl (ldI_eq hx19)) (Trc.pure rfl rfl rfl (.inl fun _ => s_mv (v := .sl a1) rfl) (Trc.pure rfl rfl rfl (.inl fun _ => s_fieldAddr Tryz.underlying114 rfl ty3 rfl) (Trc.read rfl rfl rfl (s_load Tryz.underlying3 rfl rfl (ldI_eq hx20)) (Trc.pure rfl rfl rfl (.inl fun _ => s_idx Tryz.underlying30 ty3 rfl rfl g21) (Trc.read rfl rfl rfl (s_load Tryz.underlying3 rfl rfl (ldI_eq hx22)) (Trc.pure rfl rfl rfl (.inl fun _ => s_sub rfl rfl) (Trc.pure rfl rfl rfl (.inl fun _ => s_fieldAddr Tryz.underlying114 rfl ty3 rfl) (Trc.read rfl rfl rfl (s_load Tryz.underlying3 rfl rfl (ldI_eq hx23)) (Trc.pure rfl rfl rfl (.inl fun _ => s_mul rfl rfl) (Trc.pure rfl rfl rfl (.inl fun _ => s_lss rfl rfl) (Trc.pure rfl rfl rfl (.inl fun _ => s_pickF (v := .bool (decide ((w64 (x19 - x22)) < (w64 (2 * x23))))) rfl rfl) (Trc.nil (fun _ => trivial))))))))))))))))))))))))))))))))))))))))))))))))))))))))))))))) rfl (by decide +kernel) mixed ?_
                refine f_keep [1, 2, 61] ?_
                exact s104_j0 a1 H.n (decide ((w64 (x19 - x22)) < (w64 (2 * x23)))) H1

end Go.Lt.P10
