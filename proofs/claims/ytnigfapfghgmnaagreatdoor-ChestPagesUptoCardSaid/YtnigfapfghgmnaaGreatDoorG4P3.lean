/- PRINTED BY A PROGRAM OF OURS: what each function that 'ChestPages' reaches computes on the abstract heap, and that the translated code does just that. Nothing is asked of the input. -/
import Derived.Test.YtnigfapfghgmnaaGreatDoorG4P2
set_option linter.unusedVariables false
set_option linter.unusedSimpArgs false
set_option maxRecDepth 100000
set_option maxHeartbeats 4000000
namespace Go.Lt.P10
open Go Go.Lt Go.Proofs
/- 22 (*congou/chest.Chest).Children -/
theorem ok22 : FnOk Tryz.prog 22 := ⟨⟨Tryz.f22, Tryz.func22, by kernel_rfl, rfl⟩⟩
theorem s22_j1 (kt0 : Nat → Nat → Sl → Sl → Int → Int → Hp → Option (Sl × Hp)) (hkt0 : ∀ (v1 : Nat) (v2 : Nat) (v3 : Sl) (v4 : Sl) (v5 : Int) (v6 : Int) (H : Hp), Fin Tryz.prog Tryz.f22 ret22 35 (todoAt (bodyOf Tryz.f22) [1, 1, 1, 0, 1, 0, 0] []) [(0, .ptr v1 v2), (3, .sl v3), (11, .sl v4), (12, .int .i64 v5), (13, .int .i64 v6)] H (kt0 v1 v2 v3 v4 v5 v6 H)) (v1 : Nat) (v2 : Nat) (v3 : Sl) (v4 : Int) (v5 : Sl) (v6 : Int) (v7 : Int) (v8 : Bool) (H : Hp) : Fin Tryz.prog Tryz.f22 ret22 35 (todoAt (bodyOf Tryz.f22) [1, 1, 1, 0, 1, 0, 0, 1, 1, 0, 0, 1, 1] []) [(0, .ptr v1 v2), (3, .sl v3), (4, .int .i64 v4), (11, .sl v5), (12, .int .i64 v6), (13, .int .i64 v7), (28, .bool v8)] H (r22_j1 kt0 v1 v2 v3 v4 v5 v6 v7 v8 H) := by
  unfold r22_j1
  refine f_if (fun h1 => ?_) (fun h1 => ?_)
  · skip
    refine f_know 28 rfl (bool_T h1) ?_
    refine f_condT rfl ?_
    refine f_region ?_
    refine f_op rfl rfl (s_mv (v := .sl v3) rfl) ?_
    refine f_op rfl rfl (s_mv (v := .int .i64 v4) rfl) ?_
    refine f_op rfl rfl (s_buildSlice (cs := [.int .i64 v4]) Tryz.underlying30 ty3 (by decide) (by decide) rfl (by decide) rfl) ?_
    refine o_bind ?_; intro x2 hx2
    refine f_op rfl rfl (s_ap rfl rfl Tryz.underlying30 Tryz.underlying30 ty3 rfl rfl rfl rfl rfl rfl rfl hx2) ?_
    refine f_op rfl rfl (s_as (v := .sl x2.1) rfl) ?_
    refine f_nil ?_
    refine f_inBlock ?_
    refine f_region ?_
    refine f_op rfl rfl (s_add rfl rfl) ?_
    refine f_op rfl rfl (s_mv (v := .int .i64 (w64 (v7 + 1))) rfl) ?_
    refine f_nil ?_
    refine f_inLoop ?_
    refine f_keep [0, 3, 11, 12, 13] ?_
    exact hkt0 v1 v2 x2.1 v5 v6 (w64 (v7 + 1)) x2.2
  · skip
    refine f_know 28 rfl (bool_F h1) ?_
    refine f_condF rfl ?_
    refine f_skip ?_
    refine f_inBlock ?_
    refine f_region ?_
    refine f_op rfl rfl (s_add rfl rfl) ?_
    refine f_op rfl rfl (s_mv (v := .int .i64 (w64 (v7 + 1))) rfl) ?_
    refine f_nil ?_
    refine f_inLoop ?_
    refine f_keep [0, 3, 11, 12, 13] ?_
    exact hkt0 v1 v2 v3 v5 v6 (w64 (v7 + 1)) H

theorem s22_l0 : ∀ (k_ : Nat) (v1 : Nat) (v2 : Nat) (v3 : Sl) (v4 : Sl) (v5 : Int) (v6 : Int) (H : Hp), Fin Tryz.prog Tryz.f22 ret22 35 (todoAt (bodyOf Tryz.f22) [1, 1, 1, 0, 1, 0, 0] []) [(0, .ptr v1 v2), (3, .sl v3), (11, .sl v4), (12, .int .i64 v5), (13, .int .i64 v6)] H (r22_l0 k_ v1 v2 v3 v4 v5 v6 H) := by
  intro k_
  induction k_ with
  | zero => intro _ _ _ _ _ _ _; exact f_none
  | succ k_ ih =>
    intro v1 v2 v3 v4 v5 v6 H
    rw [r22_l0]
    refine f_seq ?_
    refine f_region ?_
    refine f_op rfl rfl (s_lss rfl rfl) ?_
    refine f_nil ?_
    refine f_seq ?_
    refine f_if (fun h1 => ?_) (fun h1 => ?_)
    · skip
      refine f_know 14 rfl (dec_true h1) ?_
      refine f_condT rfl ?_
      refine f_skip ?_
      refine f_seq ?_
      refine f_block ?_
      refine f_seq ?_
      refine f_region ?_
      refine f_op rfl rfl (s_mv (v := .int .i64 v6) rfl) ?_
      refine o_ck fun g2 => ?_
      refine f_op rfl rfl (s_idx Tryz.underlying54 ty71 rfl rfl g2) ?_
      refine o_bind ?_; intro x3 hx3
      refine o_bind ?_; intro x4 hx4
      refine o_bind ?_; intro x5 hx5
      refine f_op rfl rfl (s_loads Tryz.underlying71 rfl ty71 rfl (lds_cons (ldStr_eq hx3) (lds_cons (ldI_eq hx4) (lds_cons (ldP_eq hx5) (lds_nil))))) ?_
      refine f_op rfl rfl (s_alloc (zs := [.str (ByteArray.mk #[]), .int .i64 0, .nilptr]) ty71 rfl rfl) ?_
      refine f_op rfl rfl (s_as (v := .int .i64 v6) rfl) ?_
      refine o_bind ?_; intro H6 hH6
      refine f_op rfl rfl (s_stores ty71 rfl rfl rfl rfl hH6 (Nat.le_of_eq (sts_mono hH6).symm)) ?_
      refine f_nil ?_
      refine f_seq ?_
      refine f_if (fun h7 => ?_) (fun h7 => ?_)
      · skip
        refine f_bind ?_; intro x8 hx8
        refine f_bind ?_; intro x9 hx9
        refine f_draw (Φ := fun _ => True) (lim := 1000000) [0, 0, 0, 0, 1, 0, 0, 0, 1, 0, 0] (Trc.pure rfl rfl rfl (.inl fun _ => s_mv (v := .int .i64 v6) rfl) (Trc.pure rfl rfl rfl (.inl fun _ => s_gtr rfl rfl) (Trc.pure rfl rfl rfl (.inl fun _ => s_mv (v := .bool (decide (0 < v6))) rfl) (Trc.know 20 rfl (dec_true h7) (Trc.pure rfl rfl rfl (.inl fun _ => s_fieldAddr Tryz.underlying71 rfl ty3 rfl) (Trc.read rfl rfl rfl (s_load Tryz.underlying3 rfl rfl (ldI_eq hx8)) (Trc.pure rfl rfl rfl (.inl fun _ => s_mv (v := .ptr v1 v2) rfl) (Trc.pure rfl rfl rfl (.inl fun _ => s_nilCheck rfl) (Trc.pure rfl rfl rfl (.inl fun _ => s_fieldAddr Tryz.underlying56 rfl ty3 rfl) (Trc.read rfl rfl rfl (s_load Tryz.underlying3 rfl rfl (ldI_eq hx9)) (Trc.pure rfl rfl rfl (.inl fun _ => s_eql rfl rfl) (Trc.pure rfl rfl rfl (.inl fun _ => s_pickT (v := .bool (decide (x8 = x9))) rfl rfl) (Trc.nil (fun _ => trivial)))))))))))))) rfl (by decide +kernel) mixed ?_
        refine f_keep [0, 3, 4, 11, 12, 13, 28] ?_
        exact s22_j1 _ (fun v1_ v2_ v3_ v4_ v5_ v6_ H_ => ih v1_ v2_ v3_ v4_ v5_ v6_ H_) v1 v2 v3 v6 v4 v5 v6 (decide (x8 = x9)) H6
      · skip
        refine f_draw (Φ := fun _ => True) (lim := 1000000) [0, 0, 0, 0, 0, 0, 0, 0, 0, 0, 0] (Trc.pure rfl rfl rfl (.inl fun _ => s_mv (v := .int .i64 v6) rfl) (Trc.pure rfl rfl rfl (.inl fun _ => s_gtr rfl rfl) (Trc.pure rfl rfl rfl (.inl fun _ => s_mv (v := .bool (decide (0 < v6))) rfl) (Trc.know 20 rfl (dec_false h7) (Trc.no rfl rfl rfl (Trc.no rfl rfl rfl (Trc.no rfl rfl rfl (Trc.no rfl rfl rfl (Trc.no rfl rfl rfl (Trc.no rfl rfl rfl (Trc.no rfl rfl rfl (Trc.pure rfl rfl rfl (.inl fun _ => s_pickF (v := .bool false) rfl rfl) (Trc.nil (fun _ => trivial)))))))))))))) rfl (by decide +kernel) mixed ?_
        refine f_keep [0, 3, 4, 11, 12, 13, 28] ?_
        exact s22_j1 _ (fun v1_ v2_ v3_ v4_ v5_ v6_ H_ => ih v1_ v2_ v3_ v4_ v5_ v6_ H_) v1 v2 v3 v6 v4 v5 v6 false H6
    · skip
      refine f_know 14 rfl (dec_false h1) ?_
      refine f_condF rfl ?_
      refine f_exit rfl ?_
      refine f_seq ?_
      refine f_region ?_
      refine f_op rfl rfl (s_mv (v := .sl v3) rfl) ?_
      refine f_op rfl rfl (s_as (v := .sl v3) rfl) ?_
      refine f_nil ?_
      exact f_ret (.tmp rfl (.nil)) rfl

theorem sim22 {a0b : Nat} {a0o : Nat} {H : Hp} {p : Sl × Hp} (h : r22 a0b a0o H = some p) : CallSim Tryz.prog 22 [.ptr a0b a0o] H (.sl p.1) p.2 := by
  refine callSim (fn := Tryz.f22) (ret := ret22) Tryz.func22 rfl Tryz.ntmps22 rfl ?_ h
  unfold r22
  refine f_seq ?_
  refine f_region ?_
  refine f_op rfl rfl (s_as (v := .sl ⟨true, 0, 0, 0, 0, 0⟩) rfl) ?_
  refine f_nil ?_
  refine f_seq ?_
  refine f_seq ?_
  refine f_region ?_
  refine f_op rfl rfl (s_mv (v := .ptr a0b a0o) rfl) ?_
  refine o_bind ?_; intro p1 hp1
  refine f_op rfl rfl (s_callF rfl ok28 (sim28 hp1)) ?_
  refine f_nil ?_
  refine f_if (fun h2 => ?_) (fun h2 => ?_)
  · skip
    refine f_know 7 rfl (bool_T h2) ?_
    refine f_condT rfl ?_
    refine f_seq ?_
    refine f_region ?_
    refine f_op rfl rfl (s_as (v := .sl ⟨true, 0, 0, 0, 0, 0⟩) rfl) ?_
    refine f_nil ?_
    exact f_ret (.tmp rfl (.nil)) rfl
  · skip
    refine f_know 7 rfl (bool_F h2) ?_
    refine f_condF rfl ?_
    refine f_skip ?_
    refine f_seq ?_
    refine f_region ?_
    refine f_op rfl rfl (s_as (v := .sl ⟨true, 0, 0, 0, 0, 0⟩) rfl) ?_
    refine f_nil ?_
    refine f_seq ?_
    refine f_seq ?_
    refine f_region ?_
    refine f_op rfl rfl (s_mv (v := .ptr a0b a0o) rfl) ?_
    refine f_op rfl rfl (s_nilCheck rfl) ?_
    refine f_op rfl rfl (s_fieldAddr Tryz.underlying56 rfl ty54 rfl) ?_
    refine o_bind ?_; intro x3 hx3
    refine f_op rfl rfl (s_load Tryz.underlying54 rfl rfl (ldSl_eq hx3)) ?_
    refine f_op rfl rfl (s_lenS rfl Tryz.underlying54 rfl) ?_
    refine f_op rfl rfl (s_mv (v := .int .i64 0) rfl) ?_
    refine f_nil ?_
    refine f_block ?_
    refine f_loop ?_
    refine f_keep [0, 3, 11, 12, 13] ?_
    exact s22_l0 FUEL a0b a0o ⟨true, 0, 0, 0, 0, 0⟩ x3 (x3.len : Int) 0 p1.2

/- 37 slices.Index[[]int,int] -/
theorem ok37 : FnOk Tryz.prog 37 := ⟨⟨Tryz.f37, Tryz.func37, by kernel_rfl, rfl⟩⟩
theorem s37_l0 : ∀ (k_ : Nat) (v1 : Sl) (v2 : Int) (v3 : Int) (v4 : Int) (H : Hp), Fin Tryz.prog Tryz.f37 ret37 19 (todoAt (bodyOf Tryz.f37) [1, 0, 1, 0, 0] []) [(0, .sl v1), (1, .int .i64 v2), (7, .int .i64 v3), (8, .int .i64 v4)] H (r37_l0 k_ v1 v2 v3 v4 H) := by
  intro k_
  induction k_ with
  | zero => intro _ _ _ _ _; exact f_none
  | succ k_ ih =>
    intro v1 v2 v3 v4 H
    rw [r37_l0]
    refine f_seq ?_
    refine f_region ?_
    refine f_op rfl rfl (s_lss rfl rfl) ?_
    refine f_nil ?_
    refine f_seq ?_
    refine f_if (fun h1 => ?_) (fun h1 => ?_)
    · skip
      refine f_know 9 rfl (dec_true h1) ?_
      refine f_condT rfl ?_
      refine f_skip ?_
      refine f_seq ?_
      refine f_block ?_
      refine f_seq ?_
      refine f_region ?_
      refine f_op rfl rfl (s_mv (v := .int .i64 v4) rfl) ?_
      refine f_op rfl rfl (s_as (v := .int .i64 v4) rfl) ?_
      refine f_nil ?_
      refine f_seq ?_
      refine f_region ?_
      refine f_op rfl rfl (s_mv (v := .int .i64 v2) rfl) ?_
      refine f_op rfl rfl (s_mv (v := .sl v1) rfl) ?_
      refine f_op rfl rfl (s_mv (v := .int .i64 v4) rfl) ?_
      refine o_ck fun g2 => ?_
      refine f_op rfl rfl (s_idx Tryz.underlying30 ty3 rfl rfl g2) ?_
      refine o_bind ?_; intro x3 hx3
      refine f_op rfl rfl (s_load Tryz.underlying3 rfl rfl (ldI_eq hx3)) ?_
      refine f_op rfl rfl (s_eql rfl rfl) ?_
      refine f_nil ?_
      refine f_if (fun h4 => ?_) (fun h4 => ?_)
      · skip
        refine f_know 16 rfl (dec_true h4) ?_
        refine f_condT rfl ?_
        refine f_seq ?_
        refine f_region ?_
        refine f_op rfl rfl (s_mv (v := .int .i64 v4) rfl) ?_
        refine f_op rfl rfl (s_as (v := .int .i64 v4) rfl) ?_
        refine f_nil ?_
        exact f_ret (.tmp rfl (.nil)) rfl
      · skip
        refine f_know 16 rfl (dec_false h4) ?_
        refine f_condF rfl ?_
        refine f_skip ?_
        refine f_inBlock ?_
        refine f_region ?_
        refine f_op rfl rfl (s_add rfl rfl) ?_
        refine f_op rfl rfl (s_mv (v := .int .i64 (w64 (v4 + 1))) rfl) ?_
        refine f_nil ?_
        refine f_inLoop ?_
        refine f_keep [0, 1, 7, 8] ?_
        exact ih v1 v2 v3 (w64 (v4 + 1)) H
    · skip
      refine f_know 9 rfl (dec_false h1) ?_
      refine f_condF rfl ?_
      refine f_exit rfl ?_
      refine f_seq ?_
      refine f_region ?_
      refine f_op rfl rfl (s_as (v := .int .i64 (-1)) rfl) ?_
      refine f_nil ?_
      exact f_ret (.tmp rfl (.nil)) rfl

theorem sim37 {a0 : Sl} {a1 : Int} {H : Hp} {p : Int × Hp} (h : r37 a0 a1 H = some p) : CallSim Tryz.prog 37 [.sl a0, .int .i64 a1] H (.int .i64 p.1) p.2 := by
  refine callSim (fn := Tryz.f37) (ret := ret37) Tryz.func37 rfl Tryz.ntmps37 rfl ?_ h
  unfold r37
  refine f_seq ?_
  refine f_region ?_
  refine f_op rfl rfl (s_as (v := .int .i64 0) rfl) ?_
  refine f_nil ?_
  refine f_seq ?_
  refine f_seq ?_
  refine f_region ?_
  refine f_op rfl rfl (s_mv (v := .sl a0) rfl) ?_
  refine f_op rfl rfl (s_lenS rfl Tryz.underlying30 rfl) ?_
  refine f_op rfl rfl (s_mv (v := .int .i64 0) rfl) ?_
  refine f_nil ?_
  refine f_block ?_
  refine f_loop ?_
  refine f_keep [0, 1, 7, 8] ?_
  exact s37_l0 FUEL a0 a1 (a0.len : Int) 0 H

/- 23 slices.Contains[[]int,int] -/
theorem ok23 : FnOk Tryz.prog 23 := ⟨⟨Tryz.f23, Tryz.func23, by kernel_rfl, rfl⟩⟩
theorem sim23 {a0 : Sl} {a1 : Int} {H : Hp} {p : Bool × Hp} (h : r23 a0 a1 H = some p) : CallSim Tryz.prog 23 [.sl a0, .int .i64 a1] H (.bool p.1) p.2 := by
  refine callSim (fn := Tryz.f23) (ret := ret23) Tryz.func23 rfl Tryz.ntmps23 rfl ?_ h
  unfold r23
  refine f_seq ?_
  refine f_region ?_
  refine f_op rfl rfl (s_as (v := .bool false) rfl) ?_
  refine f_nil ?_
  refine f_seq ?_
  refine f_region ?_
  refine f_op rfl rfl (s_mv (v := .sl a0) rfl) ?_
  refine f_op rfl rfl (s_mv (v := .int .i64 a1) rfl) ?_
  refine o_bind ?_; intro p1 hp1
  refine f_op rfl rfl (s_callF rfl ok37 (sim37 hp1)) ?_
  refine f_op rfl rfl (s_geq rfl rfl) ?_
  refine f_op rfl rfl (s_as (v := .bool (decide (0 ≤ p1.1))) rfl) ?_
  refine f_nil ?_
  exact f_ret (.tmp rfl (.nil)) rfl

end Go.Lt.P10
