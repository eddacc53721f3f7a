/- PRINTED BY A PROGRAM OF OURS: what each function that 'ChestBack' reaches computes on the abstract heap, and that the translated code does just that. Nothing is asked of the input. -/
import Derived.Test.YtnigfapfghgmnaaGreatDoorG7P5
set_option linter.unusedVariables false
set_option linter.unusedSimpArgs false
set_option maxRecDepth 100000
set_option maxHeartbeats 4000000
namespace Go.Lt.P10
open Go Go.Lt Go.Proofs
/- 46 (*congou/chest.state).order -/
theorem ok46 : FnOk Tryz.prog 46 := ⟨⟨Tryz.f46, Tryz.func46, by kernel_rfl, rfl⟩⟩
theorem sim46 {app : App} (happ : AppSim Tryz.prog app) {a0b : Nat} {a0o : Nat} {a1_0 : Sl} {a1_1 : Sl} {H : Hp} {p : Int × Hp} (h : r46 app a0b a0o a1_0 a1_1 H = some p) : CallSim Tryz.prog 46 [.ptr a0b a0o, .agg [.sl a1_0, .sl a1_1]] H (.int .i64 p.1) p.2 := by
  refine callSim (fn := Tryz.f46) (ret := ret46) Tryz.func46 rfl Tryz.ntmps46 rfl ?_ h
  unfold r46
  refine f_seq ?_
  refine f_region ?_
  refine f_op rfl rfl (s_box (v := .agg [.sl a1_0, .sl a1_1]) rfl rfl) ?_
  refine f_op rfl rfl (s_as (v := .int .i64 0) rfl) ?_
  refine o_hp ?_; intro H1 hH1
  refine f_nil ?_
  refine f_seq ?_
  refine f_seq ?_
  refine f_region ?_
  refine f_op rfl rfl (s_mv (v := .ptr a0b a0o) rfl) ?_
  refine f_op rfl rfl (s_fieldAddr Tryz.underlying84 rfl ty38 rfl) ?_
  refine o_bind ?_; intro x2 hx2
  refine f_op rfl rfl (s_load Tryz.underlying38 rfl rfl (ldSl_eq hx2)) ?_
  refine o_ck fun g3 => ?_
  refine f_op rfl rfl (s_idx Tryz.underlying38 ty9 rfl rfl g3) ?_
  refine o_bind ?_; intro x4 hx4
  refine f_op rfl rfl (s_load Tryz.underlying9 rfl rfl (ldStr_eq hx4)) ?_
  refine o_bind ?_; intro p5 hp5
  refine f_op rfl rfl (s_callF rfl ok75 (sim75 happ hp5)) ?_
  refine f_op rfl rfl (s_as (v := .int .i64 p5.1) rfl) ?_
  refine f_nil ?_
  refine f_block ?_
  refine f_seq ?_
  refine f_region ?_
  refine f_op rfl rfl (s_mv (v := .int .i64 p5.1) rfl) ?_
  refine f_op rfl rfl (s_lss rfl rfl) ?_
  refine f_op rfl rfl (s_as (v := .bool (decide (p5.1 < 0))) rfl) ?_
  refine f_nil ?_
  refine f_if (fun h6 => ?_) (fun h6 => ?_)
  · skip
    refine f_know 33 rfl (dec_true h6) ?_
    refine f_condT rfl ?_
    refine f_seq ?_
    refine f_region ?_
    refine f_op rfl rfl (s_as (v := .int .i64 4) rfl) ?_
    refine f_nil ?_
    exact f_ret (.tmp rfl (.nil)) rfl
  · skip
    refine f_know 33 rfl (dec_false h6) ?_
    refine f_condF rfl ?_
    refine f_seq ?_
    refine f_region ?_
    refine f_op rfl rfl (s_mv (v := .ptr a0b a0o) rfl) ?_
    refine f_op rfl rfl (s_nilCheck rfl) ?_
    refine f_op rfl rfl (s_fieldAddr Tryz.underlying69 rfl ty64 rfl) ?_
    refine o_bind ?_; intro x7 hx7
    refine f_op rfl rfl (s_load Tryz.underlying64 rfl rfl (ldSl_eq hx7)) ?_
    refine f_op rfl rfl (s_mv (v := .int .i64 p5.1) rfl) ?_
    refine o_ck fun g8 => ?_
    refine f_op rfl rfl (s_idx Tryz.underlying64 ty93 rfl rfl g8) ?_
    refine f_op rfl rfl (s_fieldAddr Tryz.underlying93 rfl ty3 rfl) ?_
    refine o_bind ?_; intro x9 hx9
    refine f_op rfl rfl (s_load Tryz.underlying3 rfl rfl (ldI_eq hx9)) ?_
    refine f_op rfl rfl (s_eql rfl rfl) ?_
    refine f_op rfl rfl (s_as (v := .bool (decide (x9 = 0))) rfl) ?_
    refine f_nil ?_
    refine f_if (fun h10 => ?_) (fun h10 => ?_)
    · skip
      refine f_know 36 rfl (dec_true h10) ?_
      refine f_condT rfl ?_
      refine f_seq ?_
      refine f_region ?_
      refine f_op rfl rfl (s_as (v := .int .i64 5) rfl) ?_
      refine f_nil ?_
      exact f_ret (.tmp rfl (.nil)) rfl
    · skip
      refine f_know 36 rfl (dec_false h10) ?_
      refine f_condF rfl ?_
      refine f_seq ?_
      refine f_region ?_
      refine f_op rfl rfl (s_mv (v := .ptr a0b a0o) rfl) ?_
      refine f_op rfl rfl (s_nilCheck rfl) ?_
      refine f_op rfl rfl (s_fieldAddr Tryz.underlying69 rfl ty30 rfl) ?_
      refine o_bind ?_; intro x11 hx11
      refine f_op rfl rfl (s_load Tryz.underlying30 rfl rfl (ldSl_eq hx11)) ?_
      refine f_op rfl rfl (s_lenS rfl Tryz.underlying30 rfl) ?_
      refine f_op rfl rfl (s_eql rfl rfl) ?_
      refine f_op rfl rfl (s_as (v := .bool (decide ((x11.len : Int) = 40))) rfl) ?_
      refine f_nil ?_
      refine f_if (fun h12 => ?_) (fun h12 => ?_)
      · skip
        refine f_know 46 rfl (dec_true h12) ?_
        refine f_condT rfl ?_
        refine f_seq ?_
        refine f_region ?_
        refine f_op rfl rfl (s_as (v := .int .i64 7) rfl) ?_
        refine f_nil ?_
        exact f_ret (.tmp rfl (.nil)) rfl
      · skip
        refine f_know 46 rfl (dec_false h12) ?_
        refine f_condF rfl ?_
        refine f_seq ?_
        refine f_region ?_
        refine f_op rfl rfl (s_mv (v := .ptr a0b a0o) rfl) ?_
        refine f_op rfl rfl (s_nilCheck rfl) ?_
        refine f_op rfl rfl (s_fieldAddr Tryz.underlying69 rfl ty64 rfl) ?_
        refine o_bind ?_; intro x13 hx13
        refine f_op rfl rfl (s_load Tryz.underlying64 rfl rfl (ldSl_eq hx13)) ?_
        refine f_op rfl rfl (s_mv (v := .int .i64 p5.1) rfl) ?_
        refine o_ck fun g14 => ?_
        refine f_op rfl rfl (s_idx Tryz.underlying64 ty93 rfl rfl g14) ?_
        refine f_op rfl rfl (s_fieldAddr Tryz.underlying93 rfl ty3 rfl) ?_
        refine o_bind ?_; intro x15 hx15
        refine f_op rfl rfl (s_load Tryz.underlying3 rfl rfl (ldI_eq hx15)) ?_
        refine f_op rfl rfl (s_sub rfl rfl) ?_
        refine o_ck fun g16 => ?_
        refine f_op rfl rfl (s_idx Tryz.underlying64 ty93 rfl rfl g16) ?_
        refine f_op rfl rfl (s_fieldAddr Tryz.underlying93 rfl ty3 rfl) ?_
        refine o_bind ?_; intro H17 hH17
        refine f_op rfl rfl (s_store (s := 1) ty3 rfl rfl rfl hH17) ?_
        refine f_nil ?_
        refine f_region ?_
        refine f_op rfl rfl (s_mv (v := .ptr a0b a0o) rfl) ?_
        refine f_op rfl rfl (s_mv (v := .ptr a0b a0o) rfl) ?_
        refine f_op rfl rfl (s_nilCheck rfl) ?_
        refine f_op rfl rfl (s_fieldAddr Tryz.underlying69 rfl ty30 rfl) ?_
        refine o_bind ?_; intro x18 hx18
        refine f_op rfl rfl (s_load Tryz.underlying30 rfl rfl (ldSl_eq hx18)) ?_
        refine f_op rfl rfl (s_mv (v := .int .i64 p5.1) rfl) ?_
        refine f_op rfl rfl (s_buildSlice (cs := [.int .i64 p5.1]) Tryz.underlying30 ty3 (by decide) (by decide) rfl (by decide) rfl) ?_
        refine o_bind ?_; intro x19 hx19
        refine f_op rfl rfl (s_ap rfl rfl Tryz.underlying30 Tryz.underlying30 ty3 rfl rfl rfl rfl rfl rfl rfl hx19) ?_
        refine f_op rfl rfl (s_nilCheck rfl) ?_
        refine f_op rfl rfl (s_fieldAddr Tryz.underlying69 rfl ty30 rfl) ?_
        refine o_bind ?_; intro H20 hH20
        refine f_op rfl rfl (s_store (s := 1) ty30 rfl rfl rfl hH20) ?_
        refine f_nil ?_
        refine f_inBlock ?_
        refine f_seq ?_
        refine f_region ?_
        refine f_op rfl rfl (s_as (v := .int .i64 0) rfl) ?_
        refine f_nil ?_
        exact f_ret (.tmp rfl (.nil)) rfl

/- 47 (*congou/chest.state).taste -/
theorem ok47 : FnOk Tryz.prog 47 := ⟨⟨Tryz.f47, Tryz.func47, by kernel_rfl, rfl⟩⟩
theorem s47_j1 (v1 : Nat) (v2 : Nat) (v3 : Int) (v4 : Int) (v5 : Int) (v6 : Bool) (H : Hp) : Fin Tryz.prog Tryz.f47 ret47 56 (todoAt (bodyOf Tryz.f47) [1, 1, 1, 1, 0, 0, 1] []) [(0, .ptr v1 v2), (5, .int .i64 v3), (6, .int .i64 v4), (7, .int .i64 v5), (33, .bool v6)] H (r47_j1 v1 v2 v3 v4 v5 v6 H) := by
  unfold r47_j1
  refine f_if (fun h1 => ?_) (fun h1 => ?_)
  · skip
    refine f_know 33 rfl (bool_T h1) ?_
    refine f_condT rfl ?_
    refine f_seq ?_
    refine f_region ?_
    refine f_op rfl rfl (s_as (v := .int .i64 2) rfl) ?_
    refine f_nil ?_
    exact f_ret (.tmp rfl (.nil)) rfl
  · skip
    refine f_know 33 rfl (bool_F h1) ?_
    refine f_condF rfl ?_
    refine f_seq ?_
    refine f_region ?_
    refine f_op rfl rfl (s_mv (v := .int .i64 v5) rfl) ?_
    refine f_op rfl rfl (s_eql rfl rfl) ?_
    refine f_op rfl rfl (s_as (v := .bool (decide (v5 = 16))) rfl) ?_
    refine f_nil ?_
    refine f_if (fun h2 => ?_) (fun h2 => ?_)
    · skip
      refine f_know 40 rfl (dec_true h2) ?_
      refine f_condT rfl ?_
      refine f_seq ?_
      refine f_region ?_
      refine f_op rfl rfl (s_as (v := .int .i64 7) rfl) ?_
      refine f_nil ?_
      exact f_ret (.tmp rfl (.nil)) rfl
    · skip
      refine f_know 40 rfl (dec_false h2) ?_
      refine f_condF rfl ?_
      refine f_skip ?_
      refine f_inBlock ?_
      refine f_seq ?_
      refine f_ck fun g3 => ?_
      refine f_ck fun g4 => ?_
      refine f_bind ?_; intro x5 hx5
      refine f_ck fun g6 => ?_
      refine f_ck fun g7 => ?_
      refine f_bind ?_; intro H8 hH8
      refine f_draw (Φ := fun _ => True) (lim := 1000000) [0, 0, 0, 0, 0, 0, 0, 1, 0, 0, 0, 0, 0, 2] (Trc.pure rfl rfl rfl (.inl fun _ => s_mv (v := .ptr v1 v2) rfl) (Trc.pure rfl rfl rfl (.inl fun _ => s_mv (v := .int .i64 v3) rfl) (Trc.pure rfl rfl rfl (.inl fun _ => s_mv (v := .int .i64 v4) rfl) (Trc.pure rfl rfl rfl (.inl fun _ => s_nilCheck rfl) (Trc.pure rfl rfl rfl (.inl fun _ => s_fieldAddr Tryz.underlying69 rfl ty66 rfl) (Trc.pure rfl rfl rfl (.inl fun _ => s_idxA Tryz.underlying66 ty65 rfl rfl g3) (Trc.pure rfl rfl rfl (.inl fun _ => s_idxA Tryz.underlying65 ty3 rfl rfl g4) (Trc.read rfl rfl rfl (s_load Tryz.underlying3 rfl rfl (ldI_eq hx5)) (Trc.pure rfl rfl rfl (.inl fun _ => s_add rfl rfl) (Trc.pure rfl rfl rfl (.inl fun _ => s_nilCheck rfl) (Trc.pure rfl rfl rfl (.inl fun _ => s_fieldAddr Tryz.underlying69 rfl ty66 rfl) (Trc.pure rfl rfl rfl (.inl fun _ => s_idxA Tryz.underlying66 ty65 rfl rfl g6) (Trc.pure rfl rfl rfl (.inl fun _ => s_idxA Tryz.underlying65 ty3 rfl rfl g7) (Trc.eff rfl rfl rfl (fun _ => trivial) (s_store (s := 1) ty3 rfl rfl rfl hH8) (Trc.nil (fun _ => trivial)))))))))))))))) rfl (by decide +kernel) mixed ?_
      refine f_seq ?_
      refine f_region ?_
      refine f_op rfl rfl (s_as (v := .int .i64 0) rfl) ?_
      refine f_nil ?_
      exact f_ret (.tmp rfl (.nil)) rfl

theorem s47_l0 : ∀ (k_ : Nat) (v1 : Nat) (v2 : Nat) (v3 : Int) (v4 : Int) (v5 : Int) (v6 : Int) (v7 : Int) (v8 : Int) (v9 : Int) (v10 : Int) (H : Hp), Fin Tryz.prog Tryz.f47 ret47 56 (todoAt (bodyOf Tryz.f47) [1, 1, 1, 0, 1, 0, 0] []) [(0, .ptr v1 v2), (5, .int .i64 v3), (6, .int .i64 v4), (7, .int .i64 v5), (21, .agg [.int .i64 v6, .int .i64 v7, .int .i64 v8, .int .i64 v9]), (22, .int .i64 v10)] H (r47_l0 k_ v1 v2 v3 v4 v5 v6 v7 v8 v9 v10 H) := by
  intro k_
  induction k_ with
  | zero => intro _ _ _ _ _ _ _ _ _ _ _; exact f_none
  | succ k_ ih =>
    intro v1 v2 v3 v4 v5 v6 v7 v8 v9 v10 H
    rw [r47_l0]
    refine f_seq ?_
    refine f_region ?_
    refine f_op rfl rfl (s_lss rfl rfl) ?_
    refine f_nil ?_
    refine f_seq ?_
    refine f_if (fun h1 => ?_) (fun h1 => ?_)
    · skip
      refine f_know 23 rfl (dec_true h1) ?_
      refine f_condT rfl ?_
      refine f_skip ?_
      refine f_seq ?_
      refine f_block ?_
      refine f_seq ?_
      refine f_region ?_
      refine o_ck fun g2 => ?_
      refine o_bind ?_; intro x3 hx3
      refine o_bind ?_; intro x4 hx4
      refine o_ck fun g5 => ?_
      refine o_bind ?_; intro x6 hx6
      refine o_bind ?_; intro x7 hx7
      refine o_bind ?_; intro x8 hx8
      refine o_bind ?_; intro x9 hx9
      refine f_op rfl rfl (s_index Tryz.underlying66 Tryz.underlying65 ty65 rfl rfl g2 hx3) ?_
      refine o_know 24 rfl (aggOf2 hx4 g5 (gete hx6 (asI_eq hx7)) (gete hx8 (asI_eq hx9))) ?_
      refine f_op rfl rfl (s_alloc (zs := [.int .i64 0, .int .i64 0]) ty65 rfl rfl) ?_
      refine o_bind ?_; intro H10 hH10
      refine f_op rfl rfl (s_stores ty65 rfl rfl rfl rfl hH10 (Nat.le_of_eq (sts_mono hH10).symm)) ?_
      refine f_nil ?_
      refine f_region ?_
      refine f_op rfl rfl (s_mv (v := .int .i64 v5) rfl) ?_
      refine f_op rfl rfl (s_idxA Tryz.underlying65 ty3 rfl rfl (by decide)) ?_
      refine o_bind ?_; intro x11 hx11
      refine f_op rfl rfl (s_load Tryz.underlying3 rfl rfl (ldI_eq hx11)) ?_
      refine f_op rfl rfl (s_idxA Tryz.underlying65 ty3 rfl rfl (by decide)) ?_
      refine o_bind ?_; intro x12 hx12
      refine f_op rfl rfl (s_load Tryz.underlying3 rfl rfl (ldI_eq hx12)) ?_
      refine f_op rfl rfl (s_add rfl rfl) ?_
      refine f_op rfl rfl (s_add rfl rfl) ?_
      refine f_op rfl rfl (s_as (v := .int .i64 (w64 (v5 + (w64 (x11 + x12))))) rfl) ?_
      refine f_nil ?_
      refine f_inBlock ?_
      refine f_region ?_
      refine f_op rfl rfl (s_add rfl rfl) ?_
      refine f_op rfl rfl (s_mv (v := .int .i64 (w64 (v10 + 1))) rfl) ?_
      refine f_nil ?_
      refine f_inLoop ?_
      refine f_keep [0, 5, 6, 7, 21, 22] ?_
      exact ih v1 v2 v3 v4 (w64 (v5 + (w64 (x11 + x12)))) v6 v7 v8 v9 (w64 (v10 + 1)) H10
    · skip
      refine f_know 23 rfl (dec_false h1) ?_
      refine f_condF rfl ?_
      refine f_exit rfl ?_
      refine f_seq ?_
      refine f_block ?_
      refine f_seq ?_
      refine f_region ?_
      refine f_op rfl rfl (s_mv (v := .int .i64 v3) rfl) ?_
      refine f_op rfl rfl (s_gtr rfl rfl) ?_
      refine f_op rfl rfl (s_mv (v := .bool (decide (1 < v3))) rfl) ?_
      refine o_if (fun h13 => ?_) (fun h13 => ?_)
      · skip
        refine o_know 36 rfl (dec_true h13) ?_
        refine f_no rfl rfl ?_
        refine f_no rfl rfl ?_
        refine f_op rfl rfl (s_pickT (v := .bool true) rfl rfl) ?_
        refine f_op rfl rfl (s_as (v := .bool true) rfl) ?_
        refine f_nil ?_
        refine f_keep [0, 5, 6, 7, 33] ?_
        exact s47_j1 v1 v2 v3 v4 v5 true H
      · skip
        refine o_know 36 rfl (dec_false h13) ?_
        refine f_op rfl rfl (s_mv (v := .int .i64 v4) rfl) ?_
        refine f_op rfl rfl (s_gtr rfl rfl) ?_
        refine f_op rfl rfl (s_pickF (v := .bool (decide (1 < v4))) rfl rfl) ?_
        refine f_op rfl rfl (s_as (v := .bool (decide (1 < v4))) rfl) ?_
        refine f_nil ?_
        refine f_keep [0, 5, 6, 7, 33] ?_
        exact s47_j1 v1 v2 v3 v4 v5 (decide (1 < v4)) H

theorem sim47 {a0b : Nat} {a0o : Nat} {a1_0 : Sl} {a1_1 : Sl} {H : Hp} {p : Int × Hp} (h : r47 a0b a0o a1_0 a1_1 H = some p) : CallSim Tryz.prog 47 [.ptr a0b a0o, .agg [.sl a1_0, .sl a1_1]] H (.int .i64 p.1) p.2 := by
  refine callSim (fn := Tryz.f47) (ret := ret47) Tryz.func47 rfl Tryz.ntmps47 rfl ?_ h
  unfold r47
  refine f_seq ?_
  refine f_region ?_
  refine f_op rfl rfl (s_box (v := .agg [.sl a1_0, .sl a1_1]) rfl rfl) ?_
  refine f_op rfl rfl (s_as (v := .int .i64 0) rfl) ?_
  refine o_hp ?_; intro H1 hH1
  refine f_nil ?_
  refine f_seq ?_
  refine f_bind ?_; intro x2 hx2
  refine f_ck fun g3 => ?_
  refine f_bind ?_; intro x4 hx4
  refine f_bind ?_; intro x5 hx5
  refine f_ck fun g6 => ?_
  refine f_bind ?_; intro x7 hx7
  refine f_draw (Φ := fun _ => True) (lim := 1000000) [0, 1, 0, 1, 0, 1, 0, 1, 0, 0] (Trc.pure rfl rfl rfl (.inl fun _ => s_fieldAddr Tryz.underlying84 rfl ty30 rfl) (Trc.read rfl rfl rfl (s_load Tryz.underlying30 rfl rfl (ldSl_eq hx2)) (Trc.pure rfl rfl rfl (.inl fun _ => s_idx Tryz.underlying30 ty3 rfl rfl g3) (Trc.read rfl rfl rfl (s_load Tryz.underlying3 rfl rfl (ldI_eq hx4)) (Trc.pure rfl rfl rfl (.inl fun _ => s_fieldAddr Tryz.underlying84 rfl ty30 rfl) (Trc.read rfl rfl rfl (s_load Tryz.underlying30 rfl rfl (ldSl_eq hx5)) (Trc.pure rfl rfl rfl (.inl fun _ => s_idx Tryz.underlying30 ty3 rfl rfl g6) (Trc.read rfl rfl rfl (s_load Tryz.underlying3 rfl rfl (ldI_eq hx7)) (Trc.pure rfl rfl rfl (.inl fun _ => s_as (v := .int .i64 x4) rfl) (Trc.pure rfl rfl rfl (.inl fun _ => s_as (v := .int .i64 x7) rfl) (Trc.nil (fun _ => trivial)))))))))))) rfl (by decide +kernel) mixed ?_
  refine f_seq ?_
  refine f_region ?_
  refine f_op rfl rfl (s_as (v := .int .i64 0) rfl) ?_
  refine f_nil ?_
  refine f_seq ?_
  refine f_seq ?_
  refine f_region ?_
  refine f_op rfl rfl (s_mv (v := .ptr a0b a0o) rfl) ?_
  refine f_op rfl rfl (s_nilCheck rfl) ?_
  refine f_op rfl rfl (s_fieldAddr Tryz.underlying69 rfl ty66 rfl) ?_
  refine o_bind ?_; intro x8 hx8
  refine o_bind ?_; intro x9 hx9
  refine o_bind ?_; intro x10 hx10
  refine o_bind ?_; intro x11 hx11
  refine f_op rfl rfl (s_loads Tryz.underlying66 rfl ty66 rfl (lds_cons (ldI_eq hx8) (lds_cons (ldI_eq hx9) (lds_cons (ldI_eq hx10) (lds_cons (ldI_eq hx11) (lds_nil)))))) ?_
  refine f_op rfl rfl (s_mv (v := .int .i64 0) rfl) ?_
  refine f_nil ?_
  refine f_block ?_
  refine f_loop ?_
  refine f_keep [0, 5, 6, 7, 21, 22] ?_
  exact s47_l0 FUEL a0b a0o x4 x7 0 x8 x9 x10 x11 0 H1

/- 106 slices.Index[[][2]int,[2]int] -/
theorem ok106 : FnOk Tryz.prog 106 := ⟨⟨Tryz.f106, Tryz.func106, by kernel_rfl, rfl⟩⟩
theorem s106_l0 : ∀ (k_ : Nat) (v1 : Sl) (v2 : Nat) (v3 : Int) (v4 : Int) (H : Hp), Fin Tryz.prog Tryz.f106 ret106 19 (todoAt (bodyOf Tryz.f106) [1, 0, 1, 0, 0] []) [(0, .sl v1), (3, .ptr v2 0), (7, .int .i64 v3), (8, .int .i64 v4)] H (r106_l0 k_ v1 v2 v3 v4 H) := by
  intro k_
  induction k_ with
  | zero => intro _ _ _ _ _; exact f_none
  | succ k_ ih =>
    intro v1 v2 v3 v4 H
    rw [r106_l0]
    refine f_seq ?_
    refine f_region ?_
    refine f_op rfl rfl (s_lss rfl rfl) ?_
    refine f_nil ?_
    refine f_seq ?_
    refine f_if (fun h1 => ?_) (fun h1 => ?_)
    · skip
      refine f_know 9 rfl (dec_true h1) ?_
      refine f_condT rfl ?_
      refine f_skip ?_
      refine f_seq ?_
      refine f_block ?_
      refine f_seq ?_
      refine f_region ?_
      refine f_op rfl rfl (s_mv (v := .int .i64 v4) rfl) ?_
      refine f_op rfl rfl (s_as (v := .int .i64 v4) rfl) ?_
      refine f_nil ?_
      refine f_seq ?_
      refine f_bind ?_; intro x2 hx2
      refine f_bind ?_; intro x3 hx3
      refine f_ck fun g4 => ?_
      refine f_bind ?_; intro x5 hx5
      refine f_bind ?_; intro x6 hx6
      refine f_draw (Φ := fun _ => True) (lim := 1000000) [1, 0, 0, 0, 1, 0] (Trc.read rfl rfl rfl (s_loads Tryz.underlying65 rfl ty65 rfl (lds_cons (ldI_eq hx2) (lds_cons (ldI_eq hx3) (lds_nil)))) (Trc.pure rfl rfl rfl (.inl fun _ => s_mv (v := .sl v1) rfl) (Trc.pure rfl rfl rfl (.inl fun _ => s_mv (v := .int .i64 v4) rfl) (Trc.pure rfl rfl rfl (.inl fun _ => s_idx Tryz.underlying67 ty65 rfl rfl g4) (Trc.read rfl rfl rfl (s_loads Tryz.underlying65 rfl ty65 rfl (lds_cons (ldI_eq hx5) (lds_cons (ldI_eq hx6) (lds_nil)))) (Trc.pure rfl rfl rfl (.inl fun _ => s_eqArr eg65 Tryz.underlying65 Tryz.underlying3 ty3 rfl rfl rfl rfl rfl rfl) (Trc.nil (fun _ => trivial)))))))) rfl (by decide +kernel) mixed ?_
      refine f_if (fun h7 => ?_) (fun h7 => ?_)
      · skip
        refine f_know 16 rfl (bool_T h7) ?_
        refine f_condT rfl ?_
        refine f_seq ?_
        refine f_region ?_
        refine f_op rfl rfl (s_mv (v := .int .i64 v4) rfl) ?_
        refine f_op rfl rfl (s_as (v := .int .i64 v4) rfl) ?_
        refine f_nil ?_
        exact f_ret (.tmp rfl (.nil)) rfl
      · skip
        refine f_know 16 rfl (bool_F h7) ?_
        refine f_condF rfl ?_
        refine f_skip ?_
        refine f_inBlock ?_
        refine f_region ?_
        refine f_op rfl rfl (s_add rfl rfl) ?_
        refine f_op rfl rfl (s_mv (v := .int .i64 (w64 (v4 + 1))) rfl) ?_
        refine f_nil ?_
        refine f_inLoop ?_
        refine f_keep [0, 3, 7, 8] ?_
        exact ih v1 v2 v3 (w64 (v4 + 1)) H
    · skip
      refine f_know 9 rfl (dec_false h1) ?_
      refine f_condF rfl ?_
      refine f_exit rfl ?_
      refine f_seq ?_
      refine f_region ?_
      refine f_op rfl rfl (s_as (v := .int .i64 (-1)) rfl) ?_
      refine f_nil ?_
      exact f_ret (.tmp rfl (.nil)) rfl

theorem sim106 {a0 : Sl} {a1_0 : Int} {a1_1 : Int} {H : Hp} {p : Int × Hp} (h : r106 a0 a1_0 a1_1 H = some p) : CallSim Tryz.prog 106 [.sl a0, .agg [.int .i64 a1_0, .int .i64 a1_1]] H (.int .i64 p.1) p.2 := by
  refine callSim (fn := Tryz.f106) (ret := ret106) Tryz.func106 rfl Tryz.ntmps106 rfl ?_ h
  unfold r106
  refine f_seq ?_
  refine f_region ?_
  refine f_op rfl rfl (s_box (v := .agg [.int .i64 a1_0, .int .i64 a1_1]) rfl rfl) ?_
  refine f_op rfl rfl (s_as (v := .int .i64 0) rfl) ?_
  refine o_hp ?_; intro H1 hH1
  refine f_nil ?_
  refine f_seq ?_
  refine f_seq ?_
  refine f_region ?_
  refine f_op rfl rfl (s_mv (v := .sl a0) rfl) ?_
  refine f_op rfl rfl (s_lenS rfl Tryz.underlying67 rfl) ?_
  refine f_op rfl rfl (s_mv (v := .int .i64 0) rfl) ?_
  refine f_nil ?_
  refine f_block ?_
  refine f_loop ?_
  refine f_keep [0, 3, 7, 8] ?_
  exact s106_l0 FUEL a0 H.n (a0.len : Int) 0 H1

/- 78 slices.Contains[[][2]int,[2]int] -/
theorem ok78 : FnOk Tryz.prog 78 := ⟨⟨Tryz.f78, Tryz.func78, by kernel_rfl, rfl⟩⟩
theorem sim78 {a0 : Sl} {a1_0 : Int} {a1_1 : Int} {H : Hp} {p : Bool × Hp} (h : r78 a0 a1_0 a1_1 H = some p) : CallSim Tryz.prog 78 [.sl a0, .agg [.int .i64 a1_0, .int .i64 a1_1]] H (.bool p.1) p.2 := by
  refine callSim (fn := Tryz.f78) (ret := ret78) Tryz.func78 rfl Tryz.ntmps78 rfl ?_ h
  unfold r78
  refine f_seq ?_
  refine f_region ?_
  refine f_op rfl rfl (s_box (v := .agg [.int .i64 a1_0, .int .i64 a1_1]) rfl rfl) ?_
  refine f_op rfl rfl (s_as (v := .bool false) rfl) ?_
  refine o_hp ?_; intro H1 hH1
  refine f_nil ?_
  refine f_seq ?_
  refine f_region ?_
  refine f_op rfl rfl (s_mv (v := .sl a0) rfl) ?_
  refine o_bind ?_; intro x2 hx2
  refine o_bind ?_; intro x3 hx3
  refine f_op rfl rfl (s_loads Tryz.underlying65 rfl ty65 rfl (lds_cons (ldI_eq hx2) (lds_cons (ldI_eq hx3) (lds_nil)))) ?_
  refine o_bind ?_; intro p4 hp4
  refine f_op rfl rfl (s_callF rfl ok106 (sim106 hp4)) ?_
  refine f_op rfl rfl (s_geq rfl rfl) ?_
  refine f_op rfl rfl (s_as (v := .bool (decide (0 ≤ p4.1))) rfl) ?_
  refine f_nil ?_
  exact f_ret (.tmp rfl (.nil)) rfl

/- 48 (*congou/chest.state).offer -/
theorem ok48 : FnOk Tryz.prog 48 := ⟨⟨Tryz.f48, Tryz.func48, by kernel_rfl, rfl⟩⟩
theorem sim48 {a0b : Nat} {a0o : Nat} {a1_0 : Sl} {a1_1 : Sl} {H : Hp} {p : Int × Hp} (h : r48 a0b a0o a1_0 a1_1 H = some p) : CallSim Tryz.prog 48 [.ptr a0b a0o, .agg [.sl a1_0, .sl a1_1]] H (.int .i64 p.1) p.2 := by
  refine callSim (fn := Tryz.f48) (ret := ret48) Tryz.func48 rfl Tryz.ntmps48 rfl ?_ h
  unfold r48
  refine f_seq ?_
  refine f_region ?_
  refine f_op rfl rfl (s_box (v := .agg [.sl a1_0, .sl a1_1]) rfl rfl) ?_
  refine f_op rfl rfl (s_as (v := .int .i64 0) rfl) ?_
  refine o_hp ?_; intro H1 hH1
  refine f_nil ?_
  refine f_seq ?_
  refine f_bind ?_; intro x2 hx2
  refine f_ck fun g3 => ?_
  refine f_bind ?_; intro x4 hx4
  refine f_bind ?_; intro x5 hx5
  refine f_ck fun g6 => ?_
  refine f_bind ?_; intro x7 hx7
  refine f_bind ?_; intro H8 hH8
  refine f_drawF (Φ := fun _ => True) (lim := 1000000) [0, 1, 0, 1, 0, 1, 0, 1, 0, 2, 2] [false, false, false, false, false, false, false, false, false, true, false] 9 10 (Trc.pure rfl rfl rfl (.inl fun _ => s_fieldAddr Tryz.underlying84 rfl ty30 rfl) (Trc.read rfl rfl rfl (s_load Tryz.underlying30 rfl rfl (ldSl_eq hx2)) (Trc.pure rfl rfl rfl (.inl fun _ => s_idx Tryz.underlying30 ty3 rfl rfl g3) (Trc.read rfl rfl rfl (s_load Tryz.underlying3 rfl rfl (ldI_eq hx4)) (Trc.pure rfl rfl rfl (.inl fun _ => s_fieldAddr Tryz.underlying84 rfl ty30 rfl) (Trc.read rfl rfl rfl (s_load Tryz.underlying30 rfl rfl (ldSl_eq hx5)) (Trc.pure rfl rfl rfl (.inl fun _ => s_idx Tryz.underlying30 ty3 rfl rfl g6) (Trc.read rfl rfl rfl (s_load Tryz.underlying3 rfl rfl (ldI_eq hx7)) (Trc.pure rfl rfl rfl (.inl fun _ => s_buildA (cs := [.int .i64 x4, .int .i64 x7]) Tryz.underlying65 ty65 ty3 rfl rfl) (Trc.fl .p rfl rfl rfl (fun _ => trivial) rfl (by rfl) (fun _ => s_alloc (zs := [.int .i64 0, .int .i64 0]) ty65 rfl rfl) (Trc.eff rfl rfl rfl (fun _ => trivial) (s_stores ty65 rfl rfl rfl rfl hH8 (Nat.le_of_eq (sts_mono hH8).symm)) (Trc.nil (fun _ => trivial))))))))))))) rfl rfl (by decide +kernel) mixed ?_
  refine f_seq ?_
  refine f_block ?_
  refine f_seq ?_
  refine f_bind ?_; intro x9 hx9
  refine f_bind ?_; intro x10 hx10
  refine f_bind ?_; intro x11 hx11
  refine f_bind ?_; intro p12 hp12
  refine f_draw (Φ := fun _ => True) (lim := 1000000) [0, 0, 0, 1, 1, 2, 0] (Trc.pure rfl rfl rfl (.inl fun _ => s_mv (v := .ptr a0b a0o) rfl) (Trc.pure rfl rfl rfl (.inl fun _ => s_nilCheck rfl) (Trc.pure rfl rfl rfl (.inl fun _ => s_fieldAddr Tryz.underlying69 rfl ty67 rfl) (Trc.read rfl rfl rfl (s_load Tryz.underlying67 rfl rfl (ldSl_eq hx9)) (Trc.read rfl rfl rfl (s_loads Tryz.underlying65 rfl ty65 rfl (lds_cons (ldI_eq hx10) (lds_cons (ldI_eq hx11) (lds_nil)))) (Trc.eff rfl rfl rfl (fun _ => trivial) (s_callF rfl ok78 (sim78 hp12)) (Trc.pure rfl rfl rfl (.inl fun _ => s_as (v := .bool p12.1) rfl) (Trc.nil (fun _ => trivial))))))))) rfl (by decide +kernel) mixed ?_
  refine f_if (fun h13 => ?_) (fun h13 => ?_)
  · skip
    refine f_know 15 rfl (bool_T h13) ?_
    refine f_condT rfl ?_
    refine f_seq ?_
    refine f_region ?_
    refine f_op rfl rfl (s_as (v := .int .i64 5) rfl) ?_
    refine f_nil ?_
    exact f_ret (.tmp rfl (.nil)) rfl
  · skip
    refine f_know 15 rfl (bool_F h13) ?_
    refine f_condF rfl ?_
    refine f_seq ?_
    refine f_region ?_
    refine f_op rfl rfl (s_idxA Tryz.underlying65 ty3 rfl rfl (by decide)) ?_
    refine o_bind ?_; intro x14 hx14
    refine f_op rfl rfl (s_load Tryz.underlying3 rfl rfl (ldI_eq hx14)) ?_
    refine f_op rfl rfl (s_idxA Tryz.underlying65 ty3 rfl rfl (by decide)) ?_
    refine o_bind ?_; intro x15 hx15
    refine f_op rfl rfl (s_load Tryz.underlying3 rfl rfl (ldI_eq hx15)) ?_
    refine f_op rfl rfl (s_max2 rfl rfl) ?_
    refine f_op rfl rfl (s_gtr rfl rfl) ?_
    refine f_op rfl rfl (s_as (v := .bool (decide (30 < (if x14 < x15 then x15 else x14)))) rfl) ?_
    refine f_nil ?_
    refine f_if (fun h16 => ?_) (fun h16 => ?_)
    · skip
      refine f_know 22 rfl (dec_true h16) ?_
      refine f_condT rfl ?_
      refine f_seq ?_
      refine f_region ?_
      refine f_op rfl rfl (s_as (v := .int .i64 2) rfl) ?_
      refine f_nil ?_
      exact f_ret (.tmp rfl (.nil)) rfl
    · skip
      refine f_know 22 rfl (dec_false h16) ?_
      refine f_condF rfl ?_
      refine f_seq ?_
      refine f_region ?_
      refine f_op rfl rfl (s_mv (v := .ptr a0b a0o) rfl) ?_
      refine f_op rfl rfl (s_nilCheck rfl) ?_
      refine f_op rfl rfl (s_fieldAddr Tryz.underlying69 rfl ty67 rfl) ?_
      refine o_bind ?_; intro x17 hx17
      refine f_op rfl rfl (s_load Tryz.underlying67 rfl rfl (ldSl_eq hx17)) ?_
      refine f_op rfl rfl (s_lenS rfl Tryz.underlying67 rfl) ?_
      refine f_op rfl rfl (s_eql rfl rfl) ?_
      refine f_op rfl rfl (s_as (v := .bool (decide ((x17.len : Int) = 8))) rfl) ?_
      refine f_nil ?_
      refine f_if (fun h18 => ?_) (fun h18 => ?_)
      · skip
        refine f_know 29 rfl (dec_true h18) ?_
        refine f_condT rfl ?_
        refine f_seq ?_
        refine f_region ?_
        refine f_op rfl rfl (s_as (v := .int .i64 7) rfl) ?_
        refine f_nil ?_
        exact f_ret (.tmp rfl (.nil)) rfl
      · skip
        refine f_know 29 rfl (dec_false h18) ?_
        refine f_condF rfl ?_
        refine f_skip ?_
        refine f_inBlock ?_
        refine f_seq ?_
        refine f_bind ?_; intro x19 hx19
        refine f_bind ?_; intro x20 hx20
        refine f_bind ?_; intro x21 hx21
        refine f_bind ?_; intro x22 hx22
        refine f_bind ?_; intro H23 hH23
        refine f_drawF (Φ := fun _ => True) (lim := 1000000) [0, 0, 0, 0, 1, 1, 2, 2, 0, 0, 2] [false, false, false, false, false, false, true, false, false, false, false] 6 7 (Trc.pure rfl rfl rfl (.inl fun _ => s_mv (v := .ptr a0b a0o) rfl) (Trc.pure rfl rfl rfl (.inl fun _ => s_mv (v := .ptr a0b a0o) rfl) (Trc.pure rfl rfl rfl (.inl fun _ => s_nilCheck rfl) (Trc.pure rfl rfl rfl (.inl fun _ => s_fieldAddr Tryz.underlying69 rfl ty67 rfl) (Trc.read rfl rfl rfl (s_load Tryz.underlying67 rfl rfl (ldSl_eq hx19)) (Trc.read rfl rfl rfl (s_loads Tryz.underlying65 rfl ty65 rfl (lds_cons (ldI_eq hx20) (lds_cons (ldI_eq hx21) (lds_nil)))) (Trc.fl (.s 1) rfl rfl rfl (fun _ => trivial) rfl (by rfl) (fun _ => s_buildSlice (cs := [.int .i64 x20, .int .i64 x21]) Tryz.underlying67 ty65 (by decide) (by decide) rfl (by decide) rfl) (Trc.eff rfl rfl rfl (fun _ => trivial) (s_ap rfl rfl Tryz.underlying67 Tryz.underlying67 ty65 rfl rfl rfl rfl rfl rfl rfl hx22) (Trc.pure rfl rfl rfl (.inl fun _ => s_nilCheck rfl) (Trc.pure rfl rfl rfl (.inl fun _ => s_fieldAddr Tryz.underlying69 rfl ty67 rfl) (Trc.eff rfl rfl rfl (fun _ => trivial) (s_store (s := 1) ty67 rfl rfl rfl hH23) (Trc.nil (fun _ => trivial))))))))))))) rfl rfl (by decide +kernel) mixed ?_
        refine f_seq ?_
        refine f_region ?_
        refine f_op rfl rfl (s_as (v := .int .i64 0) rfl) ?_
        refine f_nil ?_
        exact f_ret (.tmp rfl (.nil)) rfl

/- 51 (*congou/chest.Chest).child$1 -/
theorem ok51 : FnOk Tryz.prog 51 := ⟨⟨Tryz.f51, Tryz.func51, by kernel_rfl, rfl⟩⟩
theorem sim51 {a0_0 : ByteArray} {a0_1 : Int} {a0_2b : Nat} {a0_2o : Nat} {c0 : Nat} {c1 : Nat} {H : Hp} {p : Bool × Hp} (h : r51 a0_0 a0_1 a0_2b a0_2o c0 c1 H = some p) : CallSim Tryz.prog 51 [.agg [.str a0_0, .int .i64 a0_1, .ptr a0_2b a0_2o], .ptr c0 0, .ptr c1 0] H (.bool p.1) p.2 := by
  refine callSim (fn := Tryz.f51) (ret := ret51) Tryz.func51 rfl Tryz.ntmps51 rfl ?_ h
  unfold r51
  refine f_seq ?_
  refine f_region ?_
  refine f_op rfl rfl (s_box (v := .agg [.str a0_0, .int .i64 a0_1, .ptr a0_2b a0_2o]) rfl rfl) ?_
  refine f_op rfl rfl (s_as (v := .bool false) rfl) ?_
  refine o_hp ?_; intro H1 hH1
  refine f_nil ?_
  refine f_seq ?_
  refine f_region ?_
  refine f_op rfl rfl (s_fieldAddr Tryz.underlying71 rfl ty9 rfl) ?_
  refine o_bind ?_; intro x2 hx2
  refine f_op rfl rfl (s_load Tryz.underlying9 rfl rfl (ldStr_eq hx2)) ?_
  refine o_bind ?_; intro x3 hx3
  refine f_op rfl rfl (s_load Tryz.underlying9 rfl rfl (ldStr_eq hx3)) ?_
  refine f_op rfl rfl (s_eqStr rfl rfl) ?_
  refine f_op rfl rfl (s_mv (v := .bool (strEq x2 x3)) rfl) ?_
  refine o_if (fun h4 => ?_) (fun h4 => ?_)
  · skip
    refine o_know 9 rfl (bool_T h4) ?_
    refine f_op rfl rfl (s_fieldAddr Tryz.underlying71 rfl ty3 rfl) ?_
    refine o_bind ?_; intro x5 hx5
    refine f_op rfl rfl (s_load Tryz.underlying3 rfl rfl (ldI_eq hx5)) ?_
    refine o_bind ?_; intro x6 hx6
    refine f_op rfl rfl (s_load Tryz.underlying3 rfl rfl (ldI_eq hx6)) ?_
    refine f_op rfl rfl (s_eql rfl rfl) ?_
    refine f_op rfl rfl (s_pickT (v := .bool (decide (x5 = x6))) rfl rfl) ?_
    refine f_op rfl rfl (s_mv (v := .bool (decide (x5 = x6))) rfl) ?_
    refine o_if (fun h7 => ?_) (fun h7 => ?_)
    · skip
      refine o_know 15 rfl (dec_true h7) ?_
      refine f_op rfl rfl (s_fieldAddr Tryz.underlying71 rfl ty9 rfl) ?_
      refine o_bind ?_; intro x8 hx8
      refine f_op rfl rfl (s_load Tryz.underlying9 rfl rfl (ldStr_eq hx8)) ?_
      refine f_op rfl rfl (s_neStr rfl rfl) ?_
      refine f_op rfl rfl (s_pickT (v := .bool (!(strEq x8 (ByteArray.mk #[])))) rfl rfl) ?_
      refine f_op rfl rfl (s_as (v := .bool (!(strEq x8 (ByteArray.mk #[])))) rfl) ?_
      refine f_nil ?_
      exact f_ret (.tmp rfl (.nil)) rfl
    · skip
      refine o_know 15 rfl (dec_false h7) ?_
      refine f_no rfl rfl ?_
      refine f_no rfl rfl ?_
      refine f_no rfl rfl ?_
      refine f_op rfl rfl (s_pickF (v := .bool false) rfl rfl) ?_
      refine f_op rfl rfl (s_as (v := .bool false) rfl) ?_
      refine f_nil ?_
      exact f_ret (.tmp rfl (.nil)) rfl
  · skip
    refine o_know 9 rfl (bool_F h4) ?_
    refine f_no rfl rfl ?_
    refine f_no rfl rfl ?_
    refine f_no rfl rfl ?_
    refine f_no rfl rfl ?_
    refine f_op rfl rfl (s_pickF (v := .bool false) rfl rfl) ?_
    refine f_op rfl rfl (s_mv (v := .bool false) rfl) ?_
    refine f_no rfl rfl ?_
    refine f_no rfl rfl ?_
    refine f_no rfl rfl ?_
    refine f_op rfl rfl (s_pickF (v := .bool false) rfl rfl) ?_
    refine f_op rfl rfl (s_as (v := .bool false) rfl) ?_
    refine f_nil ?_
    exact f_ret (.tmp rfl (.nil)) rfl

/- 54 (*congou/chest.state).text$1 -/
theorem ok54 : FnOk Tryz.prog 54 := ⟨⟨Tryz.f54, Tryz.func54, by kernel_rfl, rfl⟩⟩
theorem sim54 {app : App} (happ : AppSim Tryz.prog app) {a0 : ByteArray} {a1 : Sl} {c0 : Nat} {H : Hp} {p : Unit × Hp} (h : r54 app a0 a1 c0 H = some p) : CallSim Tryz.prog 54 [.str a0, .sl a1, .ptr c0 0] H (.tup []) p.2 := by
  refine callSim (fn := Tryz.f54) (ret := ret54) Tryz.func54 rfl Tryz.ntmps54 rfl ?_ h
  unfold r54
  refine f_region ?_
  refine f_op rfl rfl (s_mv (v := .str a0) rfl) ?_
  refine f_op rfl rfl (s_buildSlice (cs := [.str a0]) Tryz.underlying38 ty9 (by decide) (by decide) rfl (by decide) rfl) ?_
  refine f_op rfl rfl (s_mv (v := .sl a1) rfl) ?_
  refine o_bind ?_; intro x1 hx1
  refine o_ck fun g2 => ?_
  refine o_bind ?_; intro x3 hx3
  refine f_op rfl rfl (s_append rfl rfl Tryz.underlying38 Tryz.underlying38 ty9 (by decide) rfl (by decide) rfl rfl hx1 g2 hx3) ?_
  refine o_bind ?_; intro p4 hp4
  refine o_bind ?_; intro x5 hx5
  refine f_op rfl rfl (s_callA happ rfl hp4) ?_
  refine o_know 9 rfl (asStr_eq hx5) ?_
  refine o_ck fun g6 => ?_
  refine f_op rfl rfl (s_addStr rfl rfl g6) ?_
  refine o_bind ?_; intro p7 hp7
  refine o_bind ?_; intro x8 hx8
  refine o_ck fun g9 => ?_
  refine o_bind ?_; intro x10 hx10
  refine o_bind ?_; intro x11 hx11
  refine o_bind ?_; intro x12 hx12
  refine f_op rfl rfl (s_callA happ rfl hp7) ?_
  refine o_know 11 rfl (tupOf2 hx8 g9 (gete hx10 (asI_eq hx11)) (gete hx12 (rfl))) ?_
  refine f_nil ?_
  exact f_end (.nil) rfl

/- 87 congou/shares.Gap -/
theorem ok87 : FnOk Tryz.prog 87 := ⟨⟨Tryz.f87, Tryz.func87, by kernel_rfl, rfl⟩⟩
theorem s87_l1 (kt0 : Sl → Int → Sl → Int → Int → Hp → Option ((Int × Int) × Hp)) (hkt0 : ∀ (v1 : Sl) (v2 : Int) (v3 : Sl) (v4 : Int) (v5 : Int) (H : Hp), Fin Tryz.prog Tryz.f87 ret87 40 (todoAt (bodyOf Tryz.f87) [1, 1, 1, 0, 1, 0, 0] []) [(0, .sl v1), (4, .int .i64 v2), (13, .sl v3), (14, .int .i64 v4), (15, .int .i64 v5)] H (kt0 v1 v2 v3 v4 v5 H)) : ∀ (k_ : Nat) (v1 : Sl) (v2 : Int) (v3 : Int) (v4 : Sl) (v5 : Int) (v6 : Int) (v7 : Sl) (v8 : Int) (v9 : Int) (H : Hp), Fin Tryz.prog Tryz.f87 ret87 40 (todoAt (bodyOf Tryz.f87) [1, 1, 1, 0, 1, 0, 0, 1, 1, 0, 0, 1, 1, 0, 0] []) [(0, .sl v1), (4, .int .i64 v2), (6, .int .i64 v3), (13, .sl v4), (14, .int .i64 v5), (15, .int .i64 v6), (22, .sl v7), (23, .int .i64 v8), (24, .int .i64 v9)] H (r87_l1 kt0 k_ v1 v2 v3 v4 v5 v6 v7 v8 v9 H) := by
  intro k_
  induction k_ with
  | zero => intro _ _ _ _ _ _ _ _ _ _; exact f_none
  | succ k_ ih =>
    intro v1 v2 v3 v4 v5 v6 v7 v8 v9 H
    rw [r87_l1]
    refine f_seq ?_
    refine f_region ?_
    refine f_op rfl rfl (s_lss rfl rfl) ?_
    refine f_nil ?_
    refine f_seq ?_
    refine f_if (fun h1 => ?_) (fun h1 => ?_)
    · skip
      refine f_know 25 rfl (dec_true h1) ?_
      refine f_condT rfl ?_
      refine f_skip ?_
      refine f_seq ?_
      refine f_block ?_
      refine f_seq ?_
      refine f_region ?_
      refine o_ck fun g2 => ?_
      refine f_op rfl rfl (s_idx Tryz.underlying30 ty3 rfl rfl g2) ?_
      refine o_bind ?_; intro x3 hx3
      refine f_op rfl rfl (s_load Tryz.underlying3 rfl rfl (ldI_eq hx3)) ?_
      refine f_op rfl rfl (s_as (v := .int .i64 x3) rfl) ?_
      refine f_nil ?_
      refine f_region ?_
      refine f_op rfl rfl (s_mv (v := .int .i64 v2) rfl) ?_
      refine f_op rfl rfl (s_mv (v := .int .i64 v3) rfl) ?_
      refine f_op rfl rfl (s_mv (v := .int .i64 x3) rfl) ?_
      refine f_op rfl rfl (s_sub rfl rfl) ?_
      refine f_op rfl rfl (s_mv (v := .int .i64 x3) rfl) ?_
      refine f_op rfl rfl (s_mv (v := .int .i64 v3) rfl) ?_
      refine f_op rfl rfl (s_sub rfl rfl) ?_
      refine f_op rfl rfl (s_max2 rfl rfl) ?_
      refine f_op rfl rfl (s_add rfl rfl) ?_
      refine f_op rfl rfl (s_as (v := .int .i64 (w64 (v2 + (if (w64 (v3 - x3)) < (w64 (x3 - v3)) then (w64 (x3 - v3)) else (w64 (v3 - x3)))))) rfl) ?_
      refine f_nil ?_
      refine f_inBlock ?_
      refine f_region ?_
      refine f_op rfl rfl (s_add rfl rfl) ?_
      refine f_op rfl rfl (s_mv (v := .int .i64 (w64 (v9 + 1))) rfl) ?_
      refine f_nil ?_
      refine f_inLoop ?_
      refine f_keep [0, 4, 6, 13, 14, 15, 22, 23, 24] ?_
      exact ih v1 (w64 (v2 + (if (w64 (v3 - x3)) < (w64 (x3 - v3)) then (w64 (x3 - v3)) else (w64 (v3 - x3))))) v3 v4 v5 v6 v7 v8 (w64 (v9 + 1)) H
    · skip
      refine f_know 25 rfl (dec_false h1) ?_
      refine f_condF rfl ?_
      refine f_exit rfl ?_
      refine f_inBlock ?_
      refine f_region ?_
      refine f_op rfl rfl (s_add rfl rfl) ?_
      refine f_op rfl rfl (s_mv (v := .int .i64 (w64 (v6 + 1))) rfl) ?_
      refine f_nil ?_
      refine f_inLoop ?_
      refine f_keep [0, 4, 13, 14, 15] ?_
      exact hkt0 v1 v2 v4 v5 (w64 (v6 + 1)) H

theorem s87_l0 : ∀ (k_ : Nat) (v1 : Sl) (v2 : Int) (v3 : Sl) (v4 : Int) (v5 : Int) (H : Hp), Fin Tryz.prog Tryz.f87 ret87 40 (todoAt (bodyOf Tryz.f87) [1, 1, 1, 0, 1, 0, 0] []) [(0, .sl v1), (4, .int .i64 v2), (13, .sl v3), (14, .int .i64 v4), (15, .int .i64 v5)] H (r87_l0 k_ v1 v2 v3 v4 v5 H) := by
  intro k_
  induction k_ with
  | zero => intro _ _ _ _ _ _; exact f_none
  | succ k_ ih =>
    intro v1 v2 v3 v4 v5 H
    rw [r87_l0]
    refine f_seq ?_
    refine f_region ?_
    refine f_op rfl rfl (s_lss rfl rfl) ?_
    refine f_nil ?_
    refine f_seq ?_
    refine f_if (fun h1 => ?_) (fun h1 => ?_)
    · skip
      refine f_know 16 rfl (dec_true h1) ?_
      refine f_condT rfl ?_
      refine f_skip ?_
      refine f_seq ?_
      refine f_block ?_
      refine f_seq ?_
      refine f_region ?_
      refine f_op rfl rfl (s_mv (v := .int .i64 v5) rfl) ?_
      refine o_ck fun g2 => ?_
      refine f_op rfl rfl (s_idx Tryz.underlying30 ty3 rfl rfl g2) ?_
      refine o_bind ?_; intro x3 hx3
      refine f_op rfl rfl (s_load Tryz.underlying3 rfl rfl (ldI_eq hx3)) ?_
      refine f_op rfl rfl (s_as (v := .int .i64 v5) rfl) ?_
      refine f_op rfl rfl (s_as (v := .int .i64 x3) rfl) ?_
      refine f_nil ?_
      refine f_seq ?_
      refine f_region ?_
      refine f_op rfl rfl (s_mv (v := .sl v1) rfl) ?_
      refine f_op rfl rfl (s_mv (v := .int .i64 v5) rfl) ?_
      refine o_ck fun g4 => ?_
      refine f_op rfl rfl (s_slice Tryz.underlying30 ty3 rfl rfl rfl g4.1 g4.2) ?_
      refine f_op rfl rfl (s_lenS rfl Tryz.underlying30 rfl) ?_
      refine f_op rfl rfl (s_mv (v := .int .i64 0) rfl) ?_
      refine f_nil ?_
      refine f_block ?_
      refine f_loop ?_
      refine f_keep [0, 4, 6, 13, 14, 15, 22, 23, 24] ?_
      exact s87_l1 _ (fun v1_ v2_ v3_ v4_ v5_ H_ => ih v1_ v2_ v3_ v4_ v5_ H_) FUEL v1 v2 x3 v3 v4 v5 (v1.cut 1 (0 : Int).toNat (v5 : Int).toNat) ((v1.cut 1 (0 : Int).toNat (v5 : Int).toNat).len : Int) 0 H
    · skip
      refine f_know 16 rfl (dec_false h1) ?_
      refine f_condF rfl ?_
      refine f_exit rfl ?_
      refine f_seq ?_
      refine f_region ?_
      refine f_op rfl rfl (s_mv (v := .int .i64 v2) rfl) ?_
      refine f_op rfl rfl (s_as (v := .int .i64 v2) rfl) ?_
      refine f_op rfl rfl (s_as (v := .int .i64 0) rfl) ?_
      refine f_nil ?_
      exact f_ret (.tmp rfl (.tmp rfl (.nil))) rfl

theorem sim87 {a0 : Sl} {H : Hp} {p : (Int × Int) × Hp} (h : r87 a0 H = some p) : CallSim Tryz.prog 87 [.sl a0] H (.tup [.int .i64 p.1.1, .int .i64 p.1.2]) p.2 := by
  refine callSim (fn := Tryz.f87) (ret := ret87) Tryz.func87 rfl Tryz.ntmps87 rfl ?_ h
  unfold r87
  refine f_seq ?_
  refine f_region ?_
  refine f_op rfl rfl (s_as (v := .int .i64 0) rfl) ?_
  refine f_op rfl rfl (s_as (v := .int .i64 0) rfl) ?_
  refine f_nil ?_
  refine f_seq ?_
  refine f_seq ?_
  refine f_region ?_
  refine f_op rfl rfl (s_mv (v := .sl a0) rfl) ?_
  refine f_op rfl rfl (s_buildSlice (cs := [.sl a0]) Tryz.underlying122 ty30 (by decide) (by decide) rfl (by decide) rfl) ?_
  refine o_bind ?_; intro p1 hp1
  refine f_op rfl rfl (s_callF rfl ok103 (sim103 hp1)) ?_
  refine f_op rfl rfl (s_not rfl) ?_
  refine f_nil ?_
  refine f_if (fun h2 => ?_) (fun h2 => ?_)
  · skip
    refine f_know 12 rfl (bool_notT h2) ?_
    refine f_condF rfl ?_
    refine f_skip ?_
    refine f_seq ?_
    refine f_region ?_
    refine f_op rfl rfl (s_as (v := .int .i64 0) rfl) ?_
    refine f_nil ?_
    refine f_seq ?_
    refine f_seq ?_
    refine f_region ?_
    refine f_op rfl rfl (s_mv (v := .sl a0) rfl) ?_
    refine f_op rfl rfl (s_lenS rfl Tryz.underlying30 rfl) ?_
    refine f_op rfl rfl (s_mv (v := .int .i64 0) rfl) ?_
    refine f_nil ?_
    refine f_block ?_
    refine f_loop ?_
    refine f_keep [0, 4, 13, 14, 15] ?_
    exact s87_l0 FUEL a0 0 a0 (a0.len : Int) 0 p1.2
  · skip
    refine f_know 12 rfl (bool_notF h2) ?_
    refine f_condT rfl ?_
    refine f_seq ?_
    refine f_region ?_
    refine f_op rfl rfl (s_as (v := .int .i64 0) rfl) ?_
    refine f_op rfl rfl (s_as (v := .int .i64 2) rfl) ?_
    refine f_nil ?_
    exact f_ret (.tmp rfl (.tmp rfl (.nil))) rfl

/- 60 (*congou/chest.state).gap -/
theorem ok60 : FnOk Tryz.prog 60 := ⟨⟨Tryz.f60, Tryz.func60, by kernel_rfl, rfl⟩⟩
theorem sim60 {app : App} (happ : AppSim Tryz.prog app) {a0b : Nat} {a0o : Nat} {a1_0 : Sl} {a1_1 : Sl} {H : Hp} {p : (Sl × Int) × Hp} (h : r60 app a0b a0o a1_0 a1_1 H = some p) : CallSim Tryz.prog 60 [.ptr a0b a0o, .agg [.sl a1_0, .sl a1_1]] H (.tup [.sl p.1.1, .int .i64 p.1.2]) p.2 := by
  refine callSim (fn := Tryz.f60) (ret := ret60) Tryz.func60 rfl Tryz.ntmps60 rfl ?_ h
  unfold r60
  refine f_seq ?_
  refine f_region ?_
  refine f_op rfl rfl (s_box (v := .agg [.sl a1_0, .sl a1_1]) rfl rfl) ?_
  refine f_op rfl rfl (s_as (v := .sl ⟨true, 0, 0, 0, 0, 0⟩) rfl) ?_
  refine f_op rfl rfl (s_as (v := .int .i64 0) rfl) ?_
  refine o_hp ?_; intro H1 hH1
  refine f_nil ?_
  refine f_seq ?_
  refine f_seq ?_
  refine f_region ?_
  refine f_op rfl rfl (s_mv (v := .ptr a0b a0o) rfl) ?_
  refine f_op rfl rfl (s_nilCheck rfl) ?_
  refine f_op rfl rfl (s_fieldAddr Tryz.underlying69 rfl ty64 rfl) ?_
  refine o_bind ?_; intro x2 hx2
  refine f_op rfl rfl (s_load Tryz.underlying64 rfl rfl (ldSl_eq hx2)) ?_
  refine f_op rfl rfl (s_lenS rfl Tryz.underlying64 rfl) ?_
  refine f_op rfl rfl (s_eql rfl rfl) ?_
  refine f_nil ?_
  refine f_if (fun h3 => ?_) (fun h3 => ?_)
  · skip
    refine f_know 13 rfl (dec_true h3) ?_
    refine f_condT rfl ?_
    refine f_seq ?_
    refine f_region ?_
    refine f_op rfl rfl (s_as (v := .sl ⟨true, 0, 0, 0, 0, 0⟩) rfl) ?_
    refine f_op rfl rfl (s_as (v := .int .i64 4) rfl) ?_
    refine f_nil ?_
    exact f_ret (.tmp rfl (.tmp rfl (.nil))) rfl
  · skip
    refine f_know 13 rfl (dec_false h3) ?_
    refine f_condF rfl ?_
    refine f_skip ?_
    refine f_seq ?_
    refine f_region ?_
    refine f_op rfl rfl (s_mv (v := .ptr a0b a0o) rfl) ?_
    refine o_bind ?_; intro p4 hp4
    refine f_op rfl rfl (s_callF rfl ok76 (sim76 hp4)) ?_
    refine o_bind ?_; intro p5 hp5
    refine f_op rfl rfl (s_callF rfl ok87 (sim87 hp5)) ?_
    refine f_op rfl rfl (s_mv (v := .tup [.int .i64 p5.1.1, .int .i64 p5.1.2]) rfl) ?_
    refine f_op rfl rfl (s_extract (r := .int .i64 p5.1.1) rfl rfl) ?_
    refine f_op rfl rfl (s_extract (r := .int .i64 p5.1.2) rfl rfl) ?_
    refine f_op rfl rfl (s_as (v := .int .i64 p5.1.1) rfl) ?_
    refine f_op rfl rfl (s_as (v := .int .i64 p5.1.2) rfl) ?_
    refine f_nil ?_
    refine f_seq ?_
    refine f_region ?_
    refine f_op rfl rfl (s_mv (v := .int .i64 p5.1.1) rfl) ?_
    refine f_op rfl rfl (s_buildSlice (cs := [.int .i64 p5.1.1]) Tryz.underlying30 ty3 (by decide) (by decide) rfl (by decide) rfl) ?_
    refine o_bind ?_; intro p6 hp6
    refine f_op rfl rfl (s_callF rfl ok57 (sim57 happ hp6)) ?_
    refine f_op rfl rfl (s_mv (v := .int .i64 p5.1.2) rfl) ?_
    refine f_op rfl rfl (s_as (v := .sl p6.1) rfl) ?_
    refine f_op rfl rfl (s_as (v := .int .i64 p5.1.2) rfl) ?_
    refine f_nil ?_
    exact f_ret (.tmp rfl (.tmp rfl (.nil))) rfl

/- 102 (*congou/chest.state).find$1 -/
theorem ok102 : FnOk Tryz.prog 102 := ⟨⟨Tryz.f102, Tryz.func102, by kernel_rfl, rfl⟩⟩
theorem sim102 {a0_0 : ByteArray} {a0_1 : Int} {c0 : Nat} {H : Hp} {p : Bool × Hp} (h : r102 a0_0 a0_1 c0 H = some p) : CallSim Tryz.prog 102 [.agg [.str a0_0, .int .i64 a0_1], .ptr c0 0] H (.bool p.1) p.2 := by
  refine callSim (fn := Tryz.f102) (ret := ret102) Tryz.func102 rfl Tryz.ntmps102 rfl ?_ h
  unfold r102
  refine f_seq ?_
  refine f_region ?_
  refine f_op rfl rfl (s_box (v := .agg [.str a0_0, .int .i64 a0_1]) rfl rfl) ?_
  refine f_op rfl rfl (s_as (v := .bool false) rfl) ?_
  refine o_hp ?_; intro H1 hH1
  refine f_nil ?_
  refine f_seq ?_
  refine f_region ?_
  refine f_op rfl rfl (s_fieldAddr Tryz.underlying93 rfl ty9 rfl) ?_
  refine o_bind ?_; intro x2 hx2
  refine f_op rfl rfl (s_load Tryz.underlying9 rfl rfl (ldStr_eq hx2)) ?_
  refine o_bind ?_; intro x3 hx3
  refine f_op rfl rfl (s_load Tryz.underlying9 rfl rfl (ldStr_eq hx3)) ?_
  refine f_op rfl rfl (s_eqStr rfl rfl) ?_
  refine f_op rfl rfl (s_as (v := .bool (strEq x2 x3)) rfl) ?_
  refine f_nil ?_
  exact f_ret (.tmp rfl (.nil)) rfl

end Go.Lt.P10
