/- PRINTED BY A PROGRAM OF OURS: what each function that 'ChestBack' reaches computes on the abstract heap, and that the translated code does just that. Nothing is asked of the input. -/
import Derived.Test.YtnigfapfghgmnaaGreatDoorG7P2
set_option linter.unusedVariables false
set_option linter.unusedSimpArgs false
set_option maxRecDepth 100000
set_option maxHeartbeats 4000000
namespace Go.Lt.P10
open Go Go.Lt Go.Proofs
/- 16 (*congou/chest.Chest).Path -/
theorem ok16 : FnOk Tryz.prog 16 := ⟨⟨Tryz.f16, Tryz.func16, by kernel_rfl, rfl⟩⟩
theorem s16_l0 : ∀ (k_ : Nat) (v1 : Nat) (v2 : Nat) (v3 : Sl) (v4 : Sl) (v5 : Int) (v6 : Int) (H : Hp), Fin Tryz.prog Tryz.f16 ret16 32 (todoAt (bodyOf Tryz.f16) [1, 1, 1, 0, 1, 0, 0] []) [(0, .ptr v1 v2), (3, .sl v3), (13, .sl v4), (14, .int .i64 v5), (15, .int .i64 v6)] H (r16_l0 k_ v1 v2 v3 v4 v5 v6 H) := by
  intro k_
  induction k_ with
  | zero => intro _ _ _ _ _ _ _; exact f_none
  | succ k_ ih =>
    intro v1 v2 v3 v4 v5 v6 H
    rw [r16_l0]
    refine f_seq ?_
    refine f_region ?_
    refine f_op rfl rfl (s_lss rfl rfl) ?_
    refine f_nil ?_
    refine f_seq ?_
    refine f_if (fun h1 => ?_) (fun h1 => ?_)
    · skip
      refine f_know 16 rfl (dec_true h1) ?_
      refine f_condT rfl ?_
      refine f_skip ?_
      refine f_seq ?_
      refine f_block ?_
      refine f_seq ?_
      refine f_region ?_
      refine o_ck fun g2 => ?_
      refine f_op rfl rfl (s_idx Tryz.underlying30 ty3 rfl rfl g2) ?_
      refine o_bind ?_; intro x3 hx3
      refine f_op rfl rfl (s_load Tryz.underlying3 rfl rfl (ldI_eq hx3)) ?_
      refine f_op rfl rfl (s_as (v := .int .i64 x3) rfl) ?_
      refine f_nil ?_
      refine f_region ?_
      refine f_op rfl rfl (s_mv (v := .sl v3) rfl) ?_
      refine f_op rfl rfl (s_mv (v := .ptr v1 v2) rfl) ?_
      refine f_op rfl rfl (s_nilCheck rfl) ?_
      refine f_op rfl rfl (s_fieldAddr Tryz.underlying56 rfl ty54 rfl) ?_
      refine o_bind ?_; intro x4 hx4
      refine f_op rfl rfl (s_load Tryz.underlying54 rfl rfl (ldSl_eq hx4)) ?_
      refine f_op rfl rfl (s_mv (v := .int .i64 x3) rfl) ?_
      refine o_ck fun g5 => ?_
      refine f_op rfl rfl (s_idx Tryz.underlying54 ty71 rfl rfl g5) ?_
      refine f_op rfl rfl (s_fieldAddr Tryz.underlying71 rfl ty9 rfl) ?_
      refine o_bind ?_; intro x6 hx6
      refine f_op rfl rfl (s_load Tryz.underlying9 rfl rfl (ldStr_eq hx6)) ?_
      refine f_op rfl rfl (s_buildSlice (cs := [.str x6]) Tryz.underlying38 ty9 (by decide) (by decide) rfl (by decide) rfl) ?_
      refine o_bind ?_; intro x7 hx7
      refine f_op rfl rfl (s_ap rfl rfl Tryz.underlying38 Tryz.underlying38 ty9 rfl rfl rfl rfl rfl rfl rfl hx7) ?_
      refine f_op rfl rfl (s_as (v := .sl x7.1) rfl) ?_
      refine f_nil ?_
      refine f_inBlock ?_
      refine f_region ?_
      refine f_op rfl rfl (s_add rfl rfl) ?_
      refine f_op rfl rfl (s_mv (v := .int .i64 (w64 (v6 + 1))) rfl) ?_
      refine f_nil ?_
      refine f_inLoop ?_
      refine f_keep [0, 3, 13, 14, 15] ?_
      exact ih v1 v2 x7.1 v4 v5 (w64 (v6 + 1)) x7.2
    · skip
      refine f_know 16 rfl (dec_false h1) ?_
      refine f_condF rfl ?_
      refine f_exit rfl ?_
      refine f_seq ?_
      refine f_region ?_
      refine f_op rfl rfl (s_mv (v := .sl v3) rfl) ?_
      refine f_op rfl rfl (s_as (v := .sl v3) rfl) ?_
      refine f_nil ?_
      exact f_ret (.tmp rfl (.nil)) rfl

theorem sim16 {a0b : Nat} {a0o : Nat} {H : Hp} {p : Sl × Hp} (h : r16 a0b a0o H = some p) : CallSim Tryz.prog 16 [.ptr a0b a0o] H (.sl p.1) p.2 := by
  refine callSim (fn := Tryz.f16) (ret := ret16) Tryz.func16 rfl Tryz.ntmps16 rfl ?_ h
  unfold r16
  refine f_seq ?_
  refine f_region ?_
  refine f_op rfl rfl (s_as (v := .sl ⟨true, 0, 0, 0, 0, 0⟩) rfl) ?_
  refine f_nil ?_
  refine f_seq ?_
  refine f_seq ?_
  refine f_region ?_
  refine f_op rfl rfl (s_mv (v := .ptr a0b a0o) rfl) ?_
  refine o_bind ?_; intro p1 hp1
  refine f_op rfl rfl (s_callF rfl ok28 (sim28 hp1)) ?_
  refine f_nil ?_
  refine f_if (fun h2 => ?_) (fun h2 => ?_)
  · skip
    refine f_know 7 rfl (bool_T h2) ?_
    refine f_condT rfl ?_
    refine f_seq ?_
    refine f_region ?_
    refine f_op rfl rfl (s_as (v := .sl ⟨true, 0, 0, 0, 0, 0⟩) rfl) ?_
    refine f_nil ?_
    exact f_ret (.tmp rfl (.nil)) rfl
  · skip
    refine f_know 7 rfl (bool_F h2) ?_
    refine f_condF rfl ?_
    refine f_skip ?_
    refine f_seq ?_
    refine f_region ?_
    refine f_op rfl rfl (s_as (v := .sl ⟨true, 0, 0, 0, 0, 0⟩) rfl) ?_
    refine f_nil ?_
    refine f_seq ?_
    refine f_seq ?_
    refine f_region ?_
    refine f_op rfl rfl (s_mv (v := .ptr a0b a0o) rfl) ?_
    refine f_op rfl rfl (s_mv (v := .ptr a0b a0o) rfl) ?_
    refine f_op rfl rfl (s_nilCheck rfl) ?_
    refine f_op rfl rfl (s_fieldAddr Tryz.underlying56 rfl ty3 rfl) ?_
    refine o_bind ?_; intro x3 hx3
    refine f_op rfl rfl (s_load Tryz.underlying3 rfl rfl (ldI_eq hx3)) ?_
    refine o_bind ?_; intro p4 hp4
    refine f_op rfl rfl (s_callF rfl ok32 (sim32 hp4)) ?_
    refine f_op rfl rfl (s_lenS rfl Tryz.underlying30 rfl) ?_
    refine f_op rfl rfl (s_mv (v := .int .i64 0) rfl) ?_
    refine f_nil ?_
    refine f_block ?_
    refine f_loop ?_
    refine f_keep [0, 3, 13, 14, 15] ?_
    exact s16_l0 FUEL a0b a0o ⟨true, 0, 0, 0, 0, 0⟩ p4.1 (p4.1.len : Int) 0 p4.2

/- 21 slices.Equal[[]string,string] -/
theorem ok21 : FnOk Tryz.prog 21 := ⟨⟨Tryz.f21, Tryz.func21, by kernel_rfl, rfl⟩⟩
theorem s21_l0 : ∀ (k_ : Nat) (v1 : Sl) (v2 : Sl) (v3 : Int) (v4 : Int) (H : Hp), Fin Tryz.prog Tryz.f21 ret21 26 (todoAt (bodyOf Tryz.f21) [1, 1, 0, 1, 0, 0] []) [(0, .sl v1), (1, .sl v2), (12, .int .i64 v3), (13, .int .i64 v4)] H (r21_l0 k_ v1 v2 v3 v4 H) := by
  intro k_
  induction k_ with
  | zero => intro _ _ _ _ _; exact f_none
  | succ k_ ih =>
    intro v1 v2 v3 v4 H
    rw [r21_l0]
    refine f_seq ?_
    refine f_region ?_
    refine f_op rfl rfl (s_lss rfl rfl) ?_
    refine f_nil ?_
    refine f_seq ?_
    refine f_if (fun h1 => ?_) (fun h1 => ?_)
    · skip
      refine f_know 14 rfl (dec_true h1) ?_
      refine f_condT rfl ?_
      refine f_skip ?_
      refine f_seq ?_
      refine f_block ?_
      refine f_seq ?_
      refine f_region ?_
      refine f_op rfl rfl (s_mv (v := .int .i64 v4) rfl) ?_
      refine f_op rfl rfl (s_as (v := .int .i64 v4) rfl) ?_
      refine f_nil ?_
      refine f_seq ?_
      refine f_ck fun g2 => ?_
      refine f_bind ?_; intro x3 hx3
      refine f_ck fun g4 => ?_
      refine f_bind ?_; intro x5 hx5
      refine f_draw (Φ := fun _ => True) (lim := 1000000) [0, 0, 0, 1, 0, 0, 0, 1, 0] (Trc.pure rfl rfl rfl (.inl fun _ => s_mv (v := .sl v1) rfl) (Trc.pure rfl rfl rfl (.inl fun _ => s_mv (v := .int .i64 v4) rfl) (Trc.pure rfl rfl rfl (.inl fun _ => s_idx Tryz.underlying38 ty9 rfl rfl g2) (Trc.read rfl rfl rfl (s_load Tryz.underlying9 rfl rfl (ldStr_eq hx3)) (Trc.pure rfl rfl rfl (.inl fun _ => s_mv (v := .sl v2) rfl) (Trc.pure rfl rfl rfl (.inl fun _ => s_mv (v := .int .i64 v4) rfl) (Trc.pure rfl rfl rfl (.inl fun _ => s_idx Tryz.underlying38 ty9 rfl rfl g4) (Trc.read rfl rfl rfl (s_load Tryz.underlying9 rfl rfl (ldStr_eq hx5)) (Trc.pure rfl rfl rfl (.inl fun _ => s_neStr rfl rfl) (Trc.nil (fun _ => trivial))))))))))) rfl (by decide +kernel) mixed ?_
      refine f_if (fun h6 => ?_) (fun h6 => ?_)
      · skip
        refine f_know 24 rfl (bool_notT h6) ?_
        refine f_condF rfl ?_
        refine f_skip ?_
        refine f_inBlock ?_
        refine f_region ?_
        refine f_op rfl rfl (s_add rfl rfl) ?_
        refine f_op rfl rfl (s_mv (v := .int .i64 (w64 (v4 + 1))) rfl) ?_
        refine f_nil ?_
        refine f_inLoop ?_
        refine f_keep [0, 1, 12, 13] ?_
        exact ih v1 v2 v3 (w64 (v4 + 1)) H
      · skip
        refine f_know 24 rfl (bool_notF h6) ?_
        refine f_condT rfl ?_
        refine f_seq ?_
        refine f_region ?_
        refine f_op rfl rfl (s_as (v := .bool false) rfl) ?_
        refine f_nil ?_
        exact f_ret (.tmp rfl (.nil)) rfl
    · skip
      refine f_know 14 rfl (dec_false h1) ?_
      refine f_condF rfl ?_
      refine f_exit rfl ?_
      refine f_seq ?_
      refine f_region ?_
      refine f_op rfl rfl (s_as (v := .bool true) rfl) ?_
      refine f_nil ?_
      exact f_ret (.tmp rfl (.nil)) rfl

theorem sim21 {a0 : Sl} {a1 : Sl} {H : Hp} {p : Bool × Hp} (h : r21 a0 a1 H = some p) : CallSim Tryz.prog 21 [.sl a0, .sl a1] H (.bool p.1) p.2 := by
  refine callSim (fn := Tryz.f21) (ret := ret21) Tryz.func21 rfl Tryz.ntmps21 rfl ?_ h
  unfold r21
  refine f_seq ?_
  refine f_region ?_
  refine f_op rfl rfl (s_as (v := .bool false) rfl) ?_
  refine f_nil ?_
  refine f_seq ?_
  refine f_seq ?_
  refine f_region ?_
  refine f_op rfl rfl (s_mv (v := .sl a0) rfl) ?_
  refine f_op rfl rfl (s_lenS rfl Tryz.underlying38 rfl) ?_
  refine f_op rfl rfl (s_mv (v := .sl a1) rfl) ?_
  refine f_op rfl rfl (s_lenS rfl Tryz.underlying38 rfl) ?_
  refine f_op rfl rfl (s_neq rfl rfl) ?_
  refine f_nil ?_
  refine f_if (fun h1 => ?_) (fun h1 => ?_)
  · skip
    refine f_know 10 rfl (dec_true h1) ?_
    refine f_condT rfl ?_
    refine f_seq ?_
    refine f_region ?_
    refine f_op rfl rfl (s_as (v := .bool false) rfl) ?_
    refine f_nil ?_
    exact f_ret (.tmp rfl (.nil)) rfl
  · skip
    refine f_know 10 rfl (dec_false h1) ?_
    refine f_condF rfl ?_
    refine f_skip ?_
    refine f_seq ?_
    refine f_seq ?_
    refine f_region ?_
    refine f_op rfl rfl (s_mv (v := .sl a0) rfl) ?_
    refine f_op rfl rfl (s_lenS rfl Tryz.underlying38 rfl) ?_
    refine f_op rfl rfl (s_mv (v := .int .i64 0) rfl) ?_
    refine f_nil ?_
    refine f_block ?_
    refine f_loop ?_
    refine f_keep [0, 1, 12, 13] ?_
    exact s21_l0 FUEL a0 a1 (a0.len : Int) 0 H

/- 22 (*congou/chest.Chest).Children -/
theorem ok22 : FnOk Tryz.prog 22 := ⟨⟨Tryz.f22, Tryz.func22, by kernel_rfl, rfl⟩⟩
theorem s22_j1 (kt0 : Nat → Nat → Sl → Sl → Int → Int → Hp → Option (Sl × Hp)) (hkt0 : ∀ (v1 : Nat) (v2 : Nat) (v3 : Sl) (v4 : Sl) (v5 : Int) (v6 : Int) (H : Hp), Fin Tryz.prog Tryz.f22 ret22 35 (todoAt (bodyOf Tryz.f22) [1, 1, 1, 0, 1, 0, 0] []) [(0, .ptr v1 v2), (3, .sl v3), (11, .sl v4), (12, .int .i64 v5), (13, .int .i64 v6)] H (kt0 v1 v2 v3 v4 v5 v6 H)) (v1 : Nat) (v2 : Nat) (v3 : Sl) (v4 : Int) (v5 : Sl) (v6 : Int) (v7 : Int) (v8 : Bool) (H : Hp) : Fin Tryz.prog Tryz.f22 ret22 35 (todoAt (bodyOf Tryz.f22) [1, 1, 1, 0, 1, 0, 0, 1, 1, 0, 0, 1, 1] []) [(0, .ptr v1 v2), (3, .sl v3), (4, .int .i64 v4), (11, .sl v5), (12, .int .i64 v6), (13, .int .i64 v7), (28, .bool v8)] H (r22_j1 kt0 v1 v2 v3 v4 v5 v6 v7 v8 H) := by
  unfold r22_j1
  refine f_if (fun h1 => ?_) (fun h1 => ?_)
  · skip
    refine f_know 28 rfl (bool_T h1) ?_
    refine f_condT rfl ?_
    refine f_region ?_
    refine f_op rfl rfl (s_mv (v := .sl v3) rfl) ?_
    refine f_op rfl rfl (s_mv (v := .int .i64 v4) rfl) ?_
    refine f_op rfl rfl (s_buildSlice (cs := [.int .i64 v4]) Tryz.underlying30 ty3 (by decide) (by decide) rfl (by decide) rfl) ?_
    refine o_bind ?_; intro x2 hx2
    refine f_op rfl rfl (s_ap rfl rfl Tryz.underlying30 Tryz.underlying30 ty3 rfl rfl rfl rfl rfl rfl rfl hx2) ?_
    refine f_op rfl rfl (s_as (v := .sl x2.1) rfl) ?_
    refine f_nil ?_
    refine f_inBlock ?_
    refine f_region ?_
    refine f_op rfl rfl (s_add rfl rfl) ?_
    refine f_op rfl rfl (s_mv (v := .int .i64 (w64 (v7 + 1))) rfl) ?_
    refine f_nil ?_
    refine f_inLoop ?_
    refine f_keep [0, 3, 11, 12, 13] ?_
    exact hkt0 v1 v2 x2.1 v5 v6 (w64 (v7 + 1)) x2.2
  · skip
    refine f_know 28 rfl (bool_F h1) ?_
    refine f_condF rfl ?_
    refine f_skip ?_
    refine f_inBlock ?_
    refine f_region ?_
    refine f_op rfl rfl (s_add rfl rfl) ?_
    refine f_op rfl rfl (s_mv (v := .int .i64 (w64 (v7 + 1))) rfl) ?_
    refine f_nil ?_
    refine f_inLoop ?_
    refine f_keep [0, 3, 11, 12, 13] ?_
    exact hkt0 v1 v2 v3 v5 v6 (w64 (v7 + 1)) H

theorem s22_l0 : ∀ (k_ : Nat) (v1 : Nat) (v2 : Nat) (v3 : Sl) (v4 : Sl) (v5 : Int) (v6 : Int) (H : Hp), Fin Tryz.prog Tryz.f22 ret22 35 (todoAt (bodyOf Tryz.f22) [1, 1, 1, 0, 1, 0, 0] []) [(0, .ptr v1 v2), (3, .sl v3), (11, .sl v4), (12, .int .i64 v5), (13, .int .i64 v6)] H (r22_l0 k_ v1 v2 v3 v4 v5 v6 H) := by
  intro k_
  induction k_ with
  | zero => intro _ _ _ _ _ _ _; exact f_none
  | succ k_ ih =>
    intro v1 v2 v3 v4 v5 v6 H
    rw [r22_l0]
    refine f_seq ?_
    refine f_region ?_
    refine f_op rfl rfl (s_lss rfl rfl) ?_
    refine f_nil ?_
    refine f_seq ?_
    refine f_if (fun h1 => ?_) (fun h1 => ?_)
    · skip
      refine f_know 14 rfl (dec_true h1) ?_
      refine f_condT rfl ?_
      refine f_skip ?_
      refine f_seq ?_
      refine f_block ?_
      refine f_seq ?_
      refine f_region ?_
      refine f_op rfl rfl (s_mv (v := .int .i64 v6) rfl) ?_
      refine o_ck fun g2 => ?_
      refine f_op rfl rfl (s_idx Tryz.underlying54 ty71 rfl rfl g2) ?_
      refine o_bind ?_; intro x3 hx3
      refine o_bind ?_; intro x4 hx4
      refine o_bind ?_; intro x5 hx5
      refine f_op rfl rfl (s_loads Tryz.underlying71 rfl ty71 rfl (lds_cons (ldStr_eq hx3) (lds_cons (ldI_eq hx4) (lds_cons (ldP_eq hx5) (lds_nil))))) ?_
      refine f_op rfl rfl (s_alloc (zs := [.str (ByteArray.mk #[]), .int .i64 0, .nilptr]) ty71 rfl rfl) ?_
      refine f_op rfl rfl (s_as (v := .int .i64 v6) rfl) ?_
      refine o_bind ?_; intro H6 hH6
      refine f_op rfl rfl (s_stores ty71 rfl rfl rfl rfl hH6 (Nat.le_of_eq (sts_mono hH6).symm)) ?_
      refine f_nil ?_
      refine f_seq ?_
      refine f_if (fun h7 => ?_) (fun h7 => ?_)
      · skip
        refine f_bind ?_; intro x8 hx8
        refine f_bind ?_; intro x9 hx9
        refine f_draw (Φ := fun _ => True) (lim := 1000000) [0, 0, 0, 0, 1, 0, 0, 0, 1, 0, 0] (Trc.pure rfl rfl rfl (.inl fun _ => s_mv (v := .int .i64 v6) rfl) (Trc.pure rfl rfl rfl (.inl fun _ => s_gtr rfl rfl) (Trc.pure rfl rfl rfl (.inl fun _ => s_mv (v := .bool (decide (0 < v6))) rfl) (Trc.know 20 rfl (dec_true h7) (Trc.pure rfl rfl rfl (.inl fun _ => s_fieldAddr Tryz.underlying71 rfl ty3 rfl) (Trc.read rfl rfl rfl (s_load Tryz.underlying3 rfl rfl (ldI_eq hx8)) (Trc.pure rfl rfl rfl (.inl fun _ => s_mv (v := .ptr v1 v2) rfl) (Trc.pure rfl rfl rfl (.inl fun _ => s_nilCheck rfl) (Trc.pure rfl rfl rfl (.inl fun _ => s_fieldAddr Tryz.underlying56 rfl ty3 rfl) (Trc.read rfl rfl rfl (s_load Tryz.underlying3 rfl rfl (ldI_eq hx9)) (Trc.pure rfl rfl rfl (.inl fun _ => s_eql rfl rfl) (Trc.pure rfl rfl rfl (.inl fun _ => s_pickT (v := .bool (decide (x8 = x9))) rfl rfl) (Trc.nil (fun _ => trivial)))))))))))))) rfl (by decide +kernel) mixed ?_
        refine f_keep [0, 3, 4, 11, 12, 13, 28] ?_
        exact s22_j1 _ (fun v1_ v2_ v3_ v4_ v5_ v6_ H_ => ih v1_ v2_ v3_ v4_ v5_ v6_ H_) v1 v2 v3 v6 v4 v5 v6 (decide (x8 = x9)) H6
      · skip
        refine f_draw (Φ := fun _ => True) (lim := 1000000) [0, 0, 0, 0, 0, 0, 0, 0, 0, 0, 0] (Trc.pure rfl rfl rfl (.inl fun _ => s_mv (v := .int .i64 v6) rfl) (Trc.pure rfl rfl rfl (.inl fun _ => s_gtr rfl rfl) (Trc.pure rfl rfl rfl (.inl fun _ => s_mv (v := .bool (decide (0 < v6))) rfl) (Trc.know 20 rfl (dec_false h7) (Trc.no rfl rfl rfl (Trc.no rfl rfl rfl (Trc.no rfl rfl rfl (Trc.no rfl rfl rfl (Trc.no rfl rfl rfl (Trc.no rfl rfl rfl (Trc.no rfl rfl rfl (Trc.pure rfl rfl rfl (.inl fun _ => s_pickF (v := .bool false) rfl rfl) (Trc.nil (fun _ => trivial)))))))))))))) rfl (by decide +kernel) mixed ?_
        refine f_keep [0, 3, 4, 11, 12, 13, 28] ?_
        exact s22_j1 _ (fun v1_ v2_ v3_ v4_ v5_ v6_ H_ => ih v1_ v2_ v3_ v4_ v5_ v6_ H_) v1 v2 v3 v6 v4 v5 v6 false H6
    · skip
      refine f_know 14 rfl (dec_false h1) ?_
      refine f_condF rfl ?_
      refine f_exit rfl ?_
      refine f_seq ?_
      refine f_region ?_
      refine f_op rfl rfl (s_mv (v := .sl v3) rfl) ?_
      refine f_op rfl rfl (s_as (v := .sl v3) rfl) ?_
      refine f_nil ?_
      exact f_ret (.tmp rfl (.nil)) rfl

theorem sim22 {a0b : Nat} {a0o : Nat} {H : Hp} {p : Sl × Hp} (h : r22 a0b a0o H = some p) : CallSim Tryz.prog 22 [.ptr a0b a0o] H (.sl p.1) p.2 := by
  refine callSim (fn := Tryz.f22) (ret := ret22) Tryz.func22 rfl Tryz.ntmps22 rfl ?_ h
  unfold r22
  refine f_seq ?_
  refine f_region ?_
  refine f_op rfl rfl (s_as (v := .sl ⟨true, 0, 0, 0, 0, 0⟩) rfl) ?_
  refine f_nil ?_
  refine f_seq ?_
  refine f_seq ?_
  refine f_region ?_
  refine f_op rfl rfl (s_mv (v := .ptr a0b a0o) rfl) ?_
  refine o_bind ?_; intro p1 hp1
  refine f_op rfl rfl (s_callF rfl ok28 (sim28 hp1)) ?_
  refine f_nil ?_
  refine f_if (fun h2 => ?_) (fun h2 => ?_)
  · skip
    refine f_know 7 rfl (bool_T h2) ?_
    refine f_condT rfl ?_
    refine f_seq ?_
    refine f_region ?_
    refine f_op rfl rfl (s_as (v := .sl ⟨true, 0, 0, 0, 0, 0⟩) rfl) ?_
    refine f_nil ?_
    exact f_ret (.tmp rfl (.nil)) rfl
  · skip
    refine f_know 7 rfl (bool_F h2) ?_
    refine f_condF rfl ?_
    refine f_skip ?_
    refine f_seq ?_
    refine f_region ?_
    refine f_op rfl rfl (s_as (v := .sl ⟨true, 0, 0, 0, 0, 0⟩) rfl) ?_
    refine f_nil ?_
    refine f_seq ?_
    refine f_seq ?_
    refine f_region ?_
    refine f_op rfl rfl (s_mv (v := .ptr a0b a0o) rfl) ?_
    refine f_op rfl rfl (s_nilCheck rfl) ?_
    refine f_op rfl rfl (s_fieldAddr Tryz.underlying56 rfl ty54 rfl) ?_
    refine o_bind ?_; intro x3 hx3
    refine f_op rfl rfl (s_load Tryz.underlying54 rfl rfl (ldSl_eq hx3)) ?_
    refine f_op rfl rfl (s_lenS rfl Tryz.underlying54 rfl) ?_
    refine f_op rfl rfl (s_mv (v := .int .i64 0) rfl) ?_
    refine f_nil ?_
    refine f_block ?_
    refine f_loop ?_
    refine f_keep [0, 3, 11, 12, 13] ?_
    exact s22_l0 FUEL a0b a0o ⟨true, 0, 0, 0, 0, 0⟩ x3 (x3.len : Int) 0 p1.2

/- 37 slices.Index[[]int,int] -/
theorem ok37 : FnOk Tryz.prog 37 := ⟨⟨Tryz.f37, Tryz.func37, by kernel_rfl, rfl⟩⟩
theorem s37_l0 : ∀ (k_ : Nat) (v1 : Sl) (v2 : Int) (v3 : Int) (v4 : Int) (H : Hp), Fin Tryz.prog Tryz.f37 ret37 19 (todoAt (bodyOf Tryz.f37) [1, 0, 1, 0, 0] []) [(0, .sl v1), (1, .int .i64 v2), (7, .int .i64 v3), (8, .int .i64 v4)] H (r37_l0 k_ v1 v2 v3 v4 H) := by
  intro k_
  induction k_ with
  | zero => intro _ _ _ _ _; exact f_none
  | succ k_ ih =>
    intro v1 v2 v3 v4 H
    rw [r37_l0]
    refine f_seq ?_
    refine f_region ?_
    refine f_op rfl rfl (s_lss rfl rfl) ?_
    refine f_nil ?_
    refine f_seq ?_
    refine f_if (fun h1 => ?_) (fun h1 => ?_)
    · skip
      refine f_know 9 rfl (dec_true h1) ?_
      refine f_condT rfl ?_
      refine f_skip ?_
      refine f_seq ?_
      refine f_block ?_
      refine f_seq ?_
      refine f_region ?_
      refine f_op rfl rfl (s_mv (v := .int .i64 v4) rfl) ?_
      refine f_op rfl rfl (s_as (v := .int .i64 v4) rfl) ?_
      refine f_nil ?_
      refine f_seq ?_
      refine f_region ?_
      refine f_op rfl rfl (s_mv (v := .int .i64 v2) rfl) ?_
      refine f_op rfl rfl (s_mv (v := .sl v1) rfl) ?_
      refine f_op rfl rfl (s_mv (v := .int .i64 v4) rfl) ?_
      refine o_ck fun g2 => ?_
      refine f_op rfl rfl (s_idx Tryz.underlying30 ty3 rfl rfl g2) ?_
      refine o_bind ?_; intro x3 hx3
      refine f_op rfl rfl (s_load Tryz.underlying3 rfl rfl (ldI_eq hx3)) ?_
      refine f_op rfl rfl (s_eql rfl rfl) ?_
      refine f_nil ?_
      refine f_if (fun h4 => ?_) (fun h4 => ?_)
      · skip
        refine f_know 16 rfl (dec_true h4) ?_
        refine f_condT rfl ?_
        refine f_seq ?_
        refine f_region ?_
        refine f_op rfl rfl (s_mv (v := .int .i64 v4) rfl) ?_
        refine f_op rfl rfl (s_as (v := .int .i64 v4) rfl) ?_
        refine f_nil ?_
        exact f_ret (.tmp rfl (.nil)) rfl
      · skip
        refine f_know 16 rfl (dec_false h4) ?_
        refine f_condF rfl ?_
        refine f_skip ?_
        refine f_inBlock ?_
        refine f_region ?_
        refine f_op rfl rfl (s_add rfl rfl) ?_
        refine f_op rfl rfl (s_mv (v := .int .i64 (w64 (v4 + 1))) rfl) ?_
        refine f_nil ?_
        refine f_inLoop ?_
        refine f_keep [0, 1, 7, 8] ?_
        exact ih v1 v2 v3 (w64 (v4 + 1)) H
    · skip
      refine f_know 9 rfl (dec_false h1) ?_
      refine f_condF rfl ?_
      refine f_exit rfl ?_
      refine f_seq ?_
      refine f_region ?_
      refine f_op rfl rfl (s_as (v := .int .i64 (-1)) rfl) ?_
      refine f_nil ?_
      exact f_ret (.tmp rfl (.nil)) rfl

theorem sim37 {a0 : Sl} {a1 : Int} {H : Hp} {p : Int × Hp} (h : r37 a0 a1 H = some p) : CallSim Tryz.prog 37 [.sl a0, .int .i64 a1] H (.int .i64 p.1) p.2 := by
  refine callSim (fn := Tryz.f37) (ret := ret37) Tryz.func37 rfl Tryz.ntmps37 rfl ?_ h
  unfold r37
  refine f_seq ?_
  refine f_region ?_
  refine f_op rfl rfl (s_as (v := .int .i64 0) rfl) ?_
  refine f_nil ?_
  refine f_seq ?_
  refine f_seq ?_
  refine f_region ?_
  refine f_op rfl rfl (s_mv (v := .sl a0) rfl) ?_
  refine f_op rfl rfl (s_lenS rfl Tryz.underlying30 rfl) ?_
  refine f_op rfl rfl (s_mv (v := .int .i64 0) rfl) ?_
  refine f_nil ?_
  refine f_block ?_
  refine f_loop ?_
  refine f_keep [0, 1, 7, 8] ?_
  exact s37_l0 FUEL a0 a1 (a0.len : Int) 0 H

/- 23 slices.Contains[[]int,int] -/
theorem ok23 : FnOk Tryz.prog 23 := ⟨⟨Tryz.f23, Tryz.func23, by kernel_rfl, rfl⟩⟩
theorem sim23 {a0 : Sl} {a1 : Int} {H : Hp} {p : Bool × Hp} (h : r23 a0 a1 H = some p) : CallSim Tryz.prog 23 [.sl a0, .int .i64 a1] H (.bool p.1) p.2 := by
  refine callSim (fn := Tryz.f23) (ret := ret23) Tryz.func23 rfl Tryz.ntmps23 rfl ?_ h
  unfold r23
  refine f_seq ?_
  refine f_region ?_
  refine f_op rfl rfl (s_as (v := .bool false) rfl) ?_
  refine f_nil ?_
  refine f_seq ?_
  refine f_region ?_
  refine f_op rfl rfl (s_mv (v := .sl a0) rfl) ?_
  refine f_op rfl rfl (s_mv (v := .int .i64 a1) rfl) ?_
  refine o_bind ?_; intro p1 hp1
  refine f_op rfl rfl (s_callF rfl ok37 (sim37 hp1)) ?_
  refine f_op rfl rfl (s_geq rfl rfl) ?_
  refine f_op rfl rfl (s_as (v := .bool (decide (0 ≤ p1.1))) rfl) ?_
  refine f_nil ?_
  exact f_ret (.tmp rfl (.nil)) rfl

/- 56 (*congou/chest.state).names -/
theorem ok56 : FnOk Tryz.prog 56 := ⟨⟨Tryz.f56, Tryz.func56, by kernel_rfl, rfl⟩⟩
theorem s56_l0 : ∀ (k_ : Nat) (v1 : Nat) (v2 : Nat) (v3 : Sl) (v4 : Sl) (v5 : Int) (v6 : Int) (H : Hp), Fin Tryz.prog Tryz.f56 ret56 27 (todoAt (bodyOf Tryz.f56) [1, 1, 0, 1, 0, 0] []) [(0, .ptr v1 v2), (5, .sl v3), (8, .sl v4), (9, .int .i64 v5), (10, .int .i64 v6)] H (r56_l0 k_ v1 v2 v3 v4 v5 v6 H) := by
  intro k_
  induction k_ with
  | zero => intro _ _ _ _ _ _ _; exact f_none
  | succ k_ ih =>
    intro v1 v2 v3 v4 v5 v6 H
    rw [r56_l0]
    refine f_seq ?_
    refine f_region ?_
    refine f_op rfl rfl (s_lss rfl rfl) ?_
    refine f_nil ?_
    refine f_seq ?_
    refine f_if (fun h1 => ?_) (fun h1 => ?_)
    · skip
      refine f_know 11 rfl (dec_true h1) ?_
      refine f_condT rfl ?_
      refine f_skip ?_
      refine f_seq ?_
      refine f_block ?_
      refine f_seq ?_
      refine f_region ?_
      refine o_ck fun g2 => ?_
      refine f_op rfl rfl (s_idx Tryz.underlying30 ty3 rfl rfl g2) ?_
      refine o_bind ?_; intro x3 hx3
      refine f_op rfl rfl (s_load Tryz.underlying3 rfl rfl (ldI_eq hx3)) ?_
      refine f_op rfl rfl (s_as (v := .int .i64 x3) rfl) ?_
      refine f_nil ?_
      refine f_region ?_
      refine f_op rfl rfl (s_mv (v := .sl v3) rfl) ?_
      refine f_op rfl rfl (s_mv (v := .ptr v1 v2) rfl) ?_
      refine f_op rfl rfl (s_nilCheck rfl) ?_
      refine f_op rfl rfl (s_fieldAddr Tryz.underlying69 rfl ty64 rfl) ?_
      refine o_bind ?_; intro x4 hx4
      refine f_op rfl rfl (s_load Tryz.underlying64 rfl rfl (ldSl_eq hx4)) ?_
      refine f_op rfl rfl (s_mv (v := .int .i64 x3) rfl) ?_
      refine o_ck fun g5 => ?_
      refine f_op rfl rfl (s_idx Tryz.underlying64 ty93 rfl rfl g5) ?_
      refine f_op rfl rfl (s_fieldAddr Tryz.underlying93 rfl ty9 rfl) ?_
      refine o_bind ?_; intro x6 hx6
      refine f_op rfl rfl (s_load Tryz.underlying9 rfl rfl (ldStr_eq hx6)) ?_
      refine f_op rfl rfl (s_buildSlice (cs := [.str x6]) Tryz.underlying38 ty9 (by decide) (by decide) rfl (by decide) rfl) ?_
      refine o_bind ?_; intro x7 hx7
      refine f_op rfl rfl (s_ap rfl rfl Tryz.underlying38 Tryz.underlying38 ty9 rfl rfl rfl rfl rfl rfl rfl hx7) ?_
      refine f_op rfl rfl (s_as (v := .sl x7.1) rfl) ?_
      refine f_nil ?_
      refine f_inBlock ?_
      refine f_region ?_
      refine f_op rfl rfl (s_add rfl rfl) ?_
      refine f_op rfl rfl (s_mv (v := .int .i64 (w64 (v6 + 1))) rfl) ?_
      refine f_nil ?_
      refine f_inLoop ?_
      refine f_keep [0, 5, 8, 9, 10] ?_
      exact ih v1 v2 x7.1 v4 v5 (w64 (v6 + 1)) x7.2
    · skip
      refine f_know 11 rfl (dec_false h1) ?_
      refine f_condF rfl ?_
      refine f_exit rfl ?_
      refine f_seq ?_
      refine f_region ?_
      refine f_op rfl rfl (s_mv (v := .sl v3) rfl) ?_
      refine f_op rfl rfl (s_as (v := .sl v3) rfl) ?_
      refine f_nil ?_
      exact f_ret (.tmp rfl (.nil)) rfl

theorem sim56 {a0b : Nat} {a0o : Nat} {a1 : Sl} {H : Hp} {p : Sl × Hp} (h : r56 a0b a0o a1 H = some p) : CallSim Tryz.prog 56 [.ptr a0b a0o, .sl a1] H (.sl p.1) p.2 := by
  refine callSim (fn := Tryz.f56) (ret := ret56) Tryz.func56 rfl Tryz.ntmps56 rfl ?_ h
  unfold r56
  refine f_seq ?_
  refine f_region ?_
  refine f_op rfl rfl (s_as (v := .sl ⟨true, 0, 0, 0, 0, 0⟩) rfl) ?_
  refine f_nil ?_
  refine f_seq ?_
  refine f_region ?_
  refine f_op rfl rfl (s_as (v := .sl ⟨true, 0, 0, 0, 0, 0⟩) rfl) ?_
  refine f_nil ?_
  refine f_seq ?_
  refine f_seq ?_
  refine f_region ?_
  refine f_op rfl rfl (s_mv (v := .sl a1) rfl) ?_
  refine f_op rfl rfl (s_lenS rfl Tryz.underlying30 rfl) ?_
  refine f_op rfl rfl (s_mv (v := .int .i64 0) rfl) ?_
  refine f_nil ?_
  refine f_block ?_
  refine f_loop ?_
  refine f_keep [0, 5, 8, 9, 10] ?_
  exact s56_l0 FUEL a0b a0o ⟨true, 0, 0, 0, 0, 0⟩ a1 (a1.len : Int) 0 H

/- 57 congou/chest.numbers -/
theorem ok57 : FnOk Tryz.prog 57 := ⟨⟨Tryz.f57, Tryz.func57, by kernel_rfl, rfl⟩⟩
theorem s57_l0 {app : App} (happ : AppSim Tryz.prog app) : ∀ (k_ : Nat) (v1 : Sl) (v2 : Sl) (v3 : Int) (v4 : Int) (H : Hp), Fin Tryz.prog Tryz.f57 ret57 19 (todoAt (bodyOf Tryz.f57) [1, 1, 0, 1, 0, 0] []) [(3, .sl v1), (6, .sl v2), (7, .int .i64 v3), (8, .int .i64 v4)] H (r57_l0 app k_ v1 v2 v3 v4 H) := by
  intro k_
  induction k_ with
  | zero => intro _ _ _ _ _; exact f_none
  | succ k_ ih =>
    intro v1 v2 v3 v4 H
    rw [r57_l0]
    refine f_seq ?_
    refine f_region ?_
    refine f_op rfl rfl (s_lss rfl rfl) ?_
    refine f_nil ?_
    refine f_seq ?_
    refine f_if (fun h1 => ?_) (fun h1 => ?_)
    · skip
      refine f_know 9 rfl (dec_true h1) ?_
      refine f_condT rfl ?_
      refine f_skip ?_
      refine f_seq ?_
      refine f_block ?_
      refine f_seq ?_
      refine f_region ?_
      refine o_ck fun g2 => ?_
      refine f_op rfl rfl (s_idx Tryz.underlying30 ty3 rfl rfl g2) ?_
      refine o_bind ?_; intro x3 hx3
      refine f_op rfl rfl (s_load Tryz.underlying3 rfl rfl (ldI_eq hx3)) ?_
      refine f_op rfl rfl (s_as (v := .int .i64 x3) rfl) ?_
      refine f_nil ?_
      refine f_region ?_
      refine f_op rfl rfl (s_mv (v := .sl v1) rfl) ?_
      refine f_op rfl rfl (s_mv (v := .int .i64 x3) rfl) ?_
      refine o_bind ?_; intro p4 hp4
      refine o_bind ?_; intro x5 hx5
      refine f_op rfl rfl (s_callA happ rfl hp4) ?_
      refine o_know 14 rfl (asStr_eq hx5) ?_
      refine f_op rfl rfl (s_buildSlice (cs := [.str x5]) Tryz.underlying38 ty9 (by decide) (by decide) rfl (by decide) rfl) ?_
      refine o_bind ?_; intro x6 hx6
      refine f_op rfl rfl (s_ap rfl rfl Tryz.underlying38 Tryz.underlying38 ty9 rfl rfl rfl rfl rfl rfl rfl hx6) ?_
      refine f_op rfl rfl (s_as (v := .sl x6.1) rfl) ?_
      refine f_nil ?_
      refine f_inBlock ?_
      refine f_region ?_
      refine f_op rfl rfl (s_add rfl rfl) ?_
      refine f_op rfl rfl (s_mv (v := .int .i64 (w64 (v4 + 1))) rfl) ?_
      refine f_nil ?_
      refine f_inLoop ?_
      refine f_keep [3, 6, 7, 8] ?_
      exact ih x6.1 v2 v3 (w64 (v4 + 1)) x6.2
    · skip
      refine f_know 9 rfl (dec_false h1) ?_
      refine f_condF rfl ?_
      refine f_exit rfl ?_
      refine f_seq ?_
      refine f_region ?_
      refine f_op rfl rfl (s_mv (v := .sl v1) rfl) ?_
      refine f_op rfl rfl (s_as (v := .sl v1) rfl) ?_
      refine f_nil ?_
      exact f_ret (.tmp rfl (.nil)) rfl

theorem sim57 {app : App} (happ : AppSim Tryz.prog app) {a0 : Sl} {H : Hp} {p : Sl × Hp} (h : r57 app a0 H = some p) : CallSim Tryz.prog 57 [.sl a0] H (.sl p.1) p.2 := by
  refine callSim (fn := Tryz.f57) (ret := ret57) Tryz.func57 rfl Tryz.ntmps57 rfl ?_ h
  unfold r57
  refine f_seq ?_
  refine f_region ?_
  refine f_op rfl rfl (s_as (v := .sl ⟨true, 0, 0, 0, 0, 0⟩) rfl) ?_
  refine f_nil ?_
  refine f_seq ?_
  refine f_region ?_
  refine f_op rfl rfl (s_as (v := .sl ⟨true, 0, 0, 0, 0, 0⟩) rfl) ?_
  refine f_nil ?_
  refine f_seq ?_
  refine f_seq ?_
  refine f_region ?_
  refine f_op rfl rfl (s_mv (v := .sl a0) rfl) ?_
  refine f_op rfl rfl (s_lenS rfl Tryz.underlying30 rfl) ?_
  refine f_op rfl rfl (s_mv (v := .int .i64 0) rfl) ?_
  refine f_nil ?_
  refine f_block ?_
  refine f_loop ?_
  refine f_keep [3, 6, 7, 8] ?_
  exact s57_l0 happ FUEL ⟨true, 0, 0, 0, 0, 0⟩ a0 (a0.len : Int) 0 H

/- 86 slices.Grow[[]int,int] -/
theorem ok86 : FnOk Tryz.prog 86 := ⟨⟨Tryz.f86, Tryz.func86, by kernel_rfl, rfl⟩⟩
theorem sim86 {a0 : Sl} {a1 : Int} {H : Hp} {p : Sl × Hp} (h : r86 a0 a1 H = some p) : CallSim Tryz.prog 86 [.sl a0, .int .i64 a1] H (.sl p.1) p.2 := by
  refine callSim (fn := Tryz.f86) (ret := ret86) Tryz.func86 rfl Tryz.ntmps86 rfl ?_ h
  unfold r86
  refine f_seq ?_
  refine f_region ?_
  refine f_op rfl rfl (s_as (v := .sl ⟨true, 0, 0, 0, 0, 0⟩) rfl) ?_
  refine f_nil ?_
  refine f_seq ?_
  refine f_seq ?_
  refine f_region ?_
  refine f_op rfl rfl (s_mv (v := .int .i64 a1) rfl) ?_
  refine f_op rfl rfl (s_lss rfl rfl) ?_
  refine f_nil ?_
  refine f_if (fun h1 => ?_) (fun h1 => ?_)
  · skip
    refine f_know 6 rfl (dec_true h1) ?_
    refine f_condT rfl ?_
    refine f_region ?_
    exact o_none
  · skip
    refine f_know 6 rfl (dec_false h1) ?_
    refine f_condF rfl ?_
    refine f_skip ?_
    refine f_seq ?_
    refine f_seq ?_
    refine f_region ?_
    refine f_op rfl rfl (s_mv (v := .int .i64 a1) rfl) ?_
    refine f_op rfl rfl (s_mv (v := .sl a0) rfl) ?_
    refine o_ck fun g2 => ?_
    refine f_op rfl rfl (s_capS rfl Tryz.underlying30 rfl g2) ?_
    refine f_op rfl rfl (s_mv (v := .sl a0) rfl) ?_
    refine f_op rfl rfl (s_lenS rfl Tryz.underlying30 rfl) ?_
    refine f_op rfl rfl (s_sub rfl rfl) ?_
    refine f_op rfl rfl (s_sub rfl rfl) ?_
    refine f_op rfl rfl (s_as (v := .int .i64 (w64 (a1 - (w64 ((a0.cap : Int) - (a0.len : Int)))))) rfl) ?_
    refine f_nil ?_
    refine f_seq ?_
    refine f_region ?_
    refine f_op rfl rfl (s_mv (v := .int .i64 (w64 (a1 - (w64 ((a0.cap : Int) - (a0.len : Int)))))) rfl) ?_
    refine f_op rfl rfl (s_gtr rfl rfl) ?_
    refine f_nil ?_
    refine f_if (fun h3 => ?_) (fun h3 => ?_)
    · skip
      refine f_know 16 rfl (dec_true h3) ?_
      refine f_condT rfl ?_
      refine f_region ?_
      refine f_op rfl rfl (s_mv (v := .sl a0) rfl) ?_
      refine f_op rfl rfl (s_mv (v := .sl a0) rfl) ?_
      refine o_ck fun g4 => ?_
      refine f_op rfl rfl (s_capS rfl Tryz.underlying30 rfl g4) ?_
      refine o_ck fun g5 => ?_
      refine f_op rfl rfl (s_slice Tryz.underlying30 ty3 rfl rfl rfl g5.1 g5.2) ?_
      refine f_op rfl rfl (s_mv (v := .int .i64 (w64 (a1 - (w64 ((a0.cap : Int) - (a0.len : Int)))))) rfl) ?_
      refine o_ck fun g6 => ?_
      refine o_ck fun g7 => ?_
      refine f_op rfl rfl (s_appendMk0 rfl rfl rfl Tryz.underlying30 Tryz.underlying3 ty3 rfl rfl (by decide) (by decide) rfl rfl g6 g7) ?_
      refine f_op rfl rfl (s_mv (v := .sl a0) rfl) ?_
      refine f_op rfl rfl (s_lenS rfl Tryz.underlying30 rfl) ?_
      refine o_ck fun g8 => ?_
      refine f_op rfl rfl (s_slice Tryz.underlying30 ty3 rfl rfl rfl g8.1 g8.2) ?_
      refine f_op rfl rfl (s_as (v := .sl ((⟨false, H.n, 0, (w64 (a1 - (w64 ((a0.cap : Int) - (a0.len : Int)))) : Int).toNat, (w64 (a1 - (w64 ((a0.cap : Int) - (a0.len : Int)))) : Int).toNat, 1⟩ : Sl).cut 1 (0 : Int).toNat ((a0.len : Int) : Int).toNat)) rfl) ?_
      refine o_hp ?_; intro H9 hH9
      refine f_nil ?_
      refine f_seq ?_
      refine f_region ?_
      refine f_op rfl rfl (s_mv (v := .sl ((⟨false, H.n, 0, (w64 (a1 - (w64 ((a0.cap : Int) - (a0.len : Int)))) : Int).toNat, (w64 (a1 - (w64 ((a0.cap : Int) - (a0.len : Int)))) : Int).toNat, 1⟩ : Sl).cut 1 (0 : Int).toNat ((a0.len : Int) : Int).toNat)) rfl) ?_
      refine f_op rfl rfl (s_as (v := .sl ((⟨false, H.n, 0, (w64 (a1 - (w64 ((a0.cap : Int) - (a0.len : Int)))) : Int).toNat, (w64 (a1 - (w64 ((a0.cap : Int) - (a0.len : Int)))) : Int).toNat, 1⟩ : Sl).cut 1 (0 : Int).toNat ((a0.len : Int) : Int).toNat)) rfl) ?_
      refine f_nil ?_
      exact f_ret (.tmp rfl (.nil)) rfl
    · skip
      refine f_know 16 rfl (dec_false h3) ?_
      refine f_condF rfl ?_
      refine f_skip ?_
      refine f_seq ?_
      refine f_region ?_
      refine f_op rfl rfl (s_mv (v := .sl a0) rfl) ?_
      refine f_op rfl rfl (s_as (v := .sl a0) rfl) ?_
      refine f_nil ?_
      exact f_ret (.tmp rfl (.nil)) rfl

/- 58 slices.Concat[[]int,int] -/
theorem ok58 : FnOk Tryz.prog 58 := ⟨⟨Tryz.f58, Tryz.func58, by kernel_rfl, rfl⟩⟩
theorem s58_l1 : ∀ (k_ : Nat) (v1 : Sl) (v2 : Sl) (v3 : Int) (v4 : Int) (H : Hp), Fin Tryz.prog Tryz.f58 ret58 36 (todoAt (bodyOf Tryz.f58) [1, 1, 1, 1, 0, 1, 0, 0] []) [(6, .sl v1), (25, .sl v2), (26, .int .i64 v3), (27, .int .i64 v4)] H (r58_l1 k_ v1 v2 v3 v4 H) := by
  intro k_
  induction k_ with
  | zero => intro _ _ _ _ _; exact f_none
  | succ k_ ih =>
    intro v1 v2 v3 v4 H
    rw [r58_l1]
    refine f_seq ?_
    refine f_region ?_
    refine f_op rfl rfl (s_lss rfl rfl) ?_
    refine f_nil ?_
    refine f_seq ?_
    refine f_if (fun h1 => ?_) (fun h1 => ?_)
    · skip
      refine f_know 28 rfl (dec_true h1) ?_
      refine f_condT rfl ?_
      refine f_skip ?_
      refine f_seq ?_
      refine f_block ?_
      refine f_seq ?_
      refine f_region ?_
      refine o_ck fun g2 => ?_
      refine f_op rfl rfl (s_idx Tryz.underlying122 ty30 rfl rfl g2) ?_
      refine o_bind ?_; intro x3 hx3
      refine f_op rfl rfl (s_load Tryz.underlying30 rfl rfl (ldSl_eq hx3)) ?_
      refine f_op rfl rfl (s_as (v := .sl x3) rfl) ?_
      refine f_nil ?_
      refine f_region ?_
      refine f_op rfl rfl (s_mv (v := .sl v1) rfl) ?_
      refine f_op rfl rfl (s_mv (v := .sl x3) rfl) ?_
      refine o_bind ?_; intro x4 hx4
      refine o_ck fun g5 => ?_
      refine o_bind ?_; intro x6 hx6
      refine f_op rfl rfl (s_append rfl rfl Tryz.underlying30 Tryz.underlying30 ty3 (by decide) rfl (by decide) rfl rfl hx4 g5 hx6) ?_
      refine f_op rfl rfl (s_as (v := .sl x6.1) rfl) ?_
      refine f_nil ?_
      refine f_inBlock ?_
      refine f_region ?_
      refine f_op rfl rfl (s_add rfl rfl) ?_
      refine f_op rfl rfl (s_mv (v := .int .i64 (w64 (v4 + 1))) rfl) ?_
      refine f_nil ?_
      refine f_inLoop ?_
      refine f_keep [6, 25, 26, 27] ?_
      exact ih x6.1 v2 v3 (w64 (v4 + 1)) x6.2
    · skip
      refine f_know 28 rfl (dec_false h1) ?_
      refine f_condF rfl ?_
      refine f_exit rfl ?_
      refine f_seq ?_
      refine f_region ?_
      refine f_op rfl rfl (s_mv (v := .sl v1) rfl) ?_
      refine f_op rfl rfl (s_as (v := .sl v1) rfl) ?_
      refine f_nil ?_
      exact f_ret (.tmp rfl (.nil)) rfl

theorem s58_l0 : ∀ (k_ : Nat) (v1 : Sl) (v2 : Int) (v3 : Sl) (v4 : Int) (v5 : Int) (H : Hp), Fin Tryz.prog Tryz.f58 ret58 36 (todoAt (bodyOf Tryz.f58) [1, 1, 0, 1, 0, 0] []) [(0, .sl v1), (3, .int .i64 v2), (9, .sl v3), (10, .int .i64 v4), (11, .int .i64 v5)] H (r58_l0 k_ v1 v2 v3 v4 v5 H) := by
  intro k_
  induction k_ with
  | zero => intro _ _ _ _ _ _; exact f_none
  | succ k_ ih =>
    intro v1 v2 v3 v4 v5 H
    rw [r58_l0]
    refine f_seq ?_
    refine f_region ?_
    refine f_op rfl rfl (s_lss rfl rfl) ?_
    refine f_nil ?_
    refine f_seq ?_
    refine f_if (fun h1 => ?_) (fun h1 => ?_)
    · skip
      refine f_know 12 rfl (dec_true h1) ?_
      refine f_condT rfl ?_
      refine f_skip ?_
      refine f_seq ?_
      refine f_block ?_
      refine f_seq ?_
      refine f_region ?_
      refine o_ck fun g2 => ?_
      refine f_op rfl rfl (s_idx Tryz.underlying122 ty30 rfl rfl g2) ?_
      refine o_bind ?_; intro x3 hx3
      refine f_op rfl rfl (s_load Tryz.underlying30 rfl rfl (ldSl_eq hx3)) ?_
      refine f_op rfl rfl (s_as (v := .sl x3) rfl) ?_
      refine f_nil ?_
      refine f_seq ?_
      refine f_region ?_
      refine f_op rfl rfl (s_mv (v := .int .i64 v2) rfl) ?_
      refine f_op rfl rfl (s_mv (v := .sl x3) rfl) ?_
      refine f_op rfl rfl (s_lenS rfl Tryz.underlying30 rfl) ?_
      refine f_op rfl rfl (s_add rfl rfl) ?_
      refine f_op rfl rfl (s_as (v := .int .i64 (w64 (v2 + (x3.len : Int)))) rfl) ?_
      refine f_nil ?_
      refine f_seq ?_
      refine f_region ?_
      refine f_op rfl rfl (s_mv (v := .int .i64 (w64 (v2 + (x3.len : Int)))) rfl) ?_
      refine f_op rfl rfl (s_lss rfl rfl) ?_
      refine f_nil ?_
      refine f_if (fun h4 => ?_) (fun h4 => ?_)
      · skip
        refine f_know 20 rfl (dec_true h4) ?_
        refine f_condT rfl ?_
        refine f_region ?_
        exact o_none
      · skip
        refine f_know 20 rfl (dec_false h4) ?_
        refine f_condF rfl ?_
        refine f_skip ?_
        refine f_inBlock ?_
        refine f_region ?_
        refine f_op rfl rfl (s_add rfl rfl) ?_
        refine f_op rfl rfl (s_mv (v := .int .i64 (w64 (v5 + 1))) rfl) ?_
        refine f_nil ?_
        refine f_inLoop ?_
        refine f_keep [0, 3, 9, 10, 11] ?_
        exact ih v1 (w64 (v2 + (x3.len : Int))) v3 v4 (w64 (v5 + 1)) H
    · skip
      refine f_know 12 rfl (dec_false h1) ?_
      refine f_condF rfl ?_
      refine f_exit rfl ?_
      refine f_seq ?_
      refine f_region ?_
      refine f_op rfl rfl (s_mv (v := .int .i64 v2) rfl) ?_
      refine o_bind ?_; intro p5 hp5
      refine f_op rfl rfl (s_callF rfl ok86 (sim86 hp5)) ?_
      refine f_op rfl rfl (s_as (v := .sl p5.1) rfl) ?_
      refine f_nil ?_
      refine f_seq ?_
      refine f_seq ?_
      refine f_region ?_
      refine f_op rfl rfl (s_mv (v := .sl v1) rfl) ?_
      refine f_op rfl rfl (s_lenS rfl Tryz.underlying122 rfl) ?_
      refine f_op rfl rfl (s_mv (v := .int .i64 0) rfl) ?_
      refine f_nil ?_
      refine f_block ?_
      refine f_loop ?_
      refine f_keep [6, 25, 26, 27] ?_
      exact s58_l1 FUEL p5.1 v1 (v1.len : Int) 0 p5.2

theorem sim58 {a0 : Sl} {H : Hp} {p : Sl × Hp} (h : r58 a0 H = some p) : CallSim Tryz.prog 58 [.sl a0] H (.sl p.1) p.2 := by
  refine callSim (fn := Tryz.f58) (ret := ret58) Tryz.func58 rfl Tryz.ntmps58 rfl ?_ h
  unfold r58
  refine f_seq ?_
  refine f_region ?_
  refine f_op rfl rfl (s_as (v := .sl ⟨true, 0, 0, 0, 0, 0⟩) rfl) ?_
  refine f_nil ?_
  refine f_seq ?_
  refine f_region ?_
  refine f_op rfl rfl (s_as (v := .int .i64 0) rfl) ?_
  refine f_nil ?_
  refine f_seq ?_
  refine f_seq ?_
  refine f_region ?_
  refine f_op rfl rfl (s_mv (v := .sl a0) rfl) ?_
  refine f_op rfl rfl (s_lenS rfl Tryz.underlying122 rfl) ?_
  refine f_op rfl rfl (s_mv (v := .int .i64 0) rfl) ?_
  refine f_nil ?_
  refine f_block ?_
  refine f_loop ?_
  refine f_keep [0, 3, 9, 10, 11] ?_
  exact s58_l0 FUEL a0 0 a0 (a0.len : Int) 0 H

/- 38 (*congou/chest.state).text -/
theorem ok38 : FnOk Tryz.prog 38 := ⟨⟨Tryz.f38, Tryz.func38, by kernel_rfl, rfl⟩⟩
theorem s38_l1 {app : App} (happ : AppSim Tryz.prog app) : ∀ (k_ : Nat) (v1 : Nat) (v2 : Nat) (v3 : Sl) (v4 : Sl) (v5 : Int) (v6 : Int) (H : Hp), Fin Tryz.prog Tryz.f38 ret38 79 (todoAt (bodyOf Tryz.f38) [1, 1, 1, 1, 1, 1, 1, 0, 1, 0, 0] []) [(3, .ptr v1 0), (6, .fn 54 [] [.ptr v2 0]), (7, .sl v3), (57, .sl v4), (58, .int .i64 v5), (59, .int .i64 v6)] H (r38_l1 app k_ v1 v2 v3 v4 v5 v6 H) := by
  intro k_
  induction k_ with
  | zero => intro _ _ _ _ _ _ _; exact f_none
  | succ k_ ih =>
    intro v1 v2 v3 v4 v5 v6 H
    rw [r38_l1]
    refine f_seq ?_
    refine f_region ?_
    refine f_op rfl rfl (s_lss rfl rfl) ?_
    refine f_nil ?_
    refine f_seq ?_
    refine f_if (fun h1 => ?_) (fun h1 => ?_)
    · skip
      refine f_know 60 rfl (dec_true h1) ?_
      refine f_condT rfl ?_
      refine f_skip ?_
      refine f_seq ?_
      refine f_block ?_
      refine f_seq ?_
      refine f_region ?_
      refine o_ck fun g2 => ?_
      refine f_op rfl rfl (s_idx Tryz.underlying67 ty65 rfl rfl g2) ?_
      refine o_bind ?_; intro x3 hx3
      refine o_bind ?_; intro x4 hx4
      refine f_op rfl rfl (s_loads Tryz.underlying65 rfl ty65 rfl (lds_cons (ldI_eq hx3) (lds_cons (ldI_eq hx4) (lds_nil)))) ?_
      refine f_op rfl rfl (s_alloc (zs := [.int .i64 0, .int .i64 0]) ty65 rfl rfl) ?_
      refine o_bind ?_; intro H5 hH5
      refine f_op rfl rfl (s_stores ty65 rfl rfl rfl rfl hH5 (Nat.le_of_eq (sts_mono hH5).symm)) ?_
      refine f_nil ?_
      refine f_bind ?_; intro x6 hx6
      refine f_bind ?_; intro p7 hp7
      refine f_bind ?_; intro x8 hx8
      refine f_ck fun g9 => ?_
      refine f_bind ?_; intro x10 hx10
      refine f_bind ?_; intro p11 hp11
      refine f_bind ?_; intro x12 hx12
      refine f_ck fun g13 => ?_
      refine f_bind ?_; intro x14 hx14
      refine f_ck fun g15 => ?_
      refine f_draw (Φ := fun H_ => H_.ld H.n (0 + (1 : Int).toNat * 1) = some (.int .i64 x10)) (lim := 7) [0, 0, 1, 2, 0, 0, 0, 2, 0, 2, 2, 0] (Trc.pure rfl rfl rfl (.inl fun _ => s_mv (v := .sl v3) rfl) (Trc.pure rfl rfl rfl (.inl fun _ => s_idxA Tryz.underlying65 ty3 rfl rfl (by decide)) (Trc.read rfl rfl rfl (s_load Tryz.underlying3 rfl rfl (ldI_eq hx6)) (Trc.eff rfl rfl rfl (fun _ => ldI_eq g15) (s_callA happ rfl hp7) (Trc.know 66 rfl (asStr_eq hx8) (Trc.pure rfl rfl rfl (.inl fun _ => s_addStr rfl rfl g9) (Trc.pure rfl rfl rfl (.inl fun _ => s_idxA Tryz.underlying65 ty3 rfl rfl (by decide)) (Trc.pure rfl rfl rfl (.inr ⟨by decide +kernel, fun _ hp_ => s_load Tryz.underlying3 rfl rfl hp_⟩) (Trc.eff rfl rfl rfl (fun _ => ldI_eq hx10) (s_callA happ rfl hp11) (Trc.know 70 rfl (asStr_eq hx12) (Trc.pure rfl rfl rfl (.inl fun _ => s_addStr rfl rfl g13) (Trc.eff rfl rfl rfl (fun h_ => absurd h_ (by decide +kernel)) (s_buildSlice (cs := [.str ((x8 ++ (ByteArray.mk #[44])) ++ x12)]) Tryz.underlying38 ty9 (by decide) (by decide) rfl (by decide) rfl) (Trc.eff rfl rfl rfl (fun h_ => absurd h_ (by decide +kernel)) (s_ap rfl rfl Tryz.underlying38 Tryz.underlying38 ty9 rfl rfl rfl rfl rfl rfl rfl hx14) (Trc.pure rfl rfl rfl (.inl fun _ => s_as (v := .sl x14.1) rfl) (Trc.nil (fun h_ => absurd h_ (by decide +kernel))))))))))))))))) rfl (by decide +kernel) mixed ?_
      refine f_inBlock ?_
      refine f_region ?_
      refine f_op rfl rfl (s_add rfl rfl) ?_
      refine f_op rfl rfl (s_mv (v := .int .i64 (w64 (v6 + 1))) rfl) ?_
      refine f_nil ?_
      refine f_inLoop ?_
      refine f_keep [3, 6, 7, 57, 58, 59] ?_
      exact ih v1 v2 x14.1 v4 v5 (w64 (v6 + 1)) x14.2
    · skip
      refine f_know 60 rfl (dec_false h1) ?_
      refine f_condF rfl ?_
      refine f_exit rfl ?_
      refine f_seq ?_
      refine f_region ?_
      refine f_op rfl rfl (s_mv (v := .fn 54 [] [.ptr v2 0]) rfl) ?_
      refine f_op rfl rfl (s_mv (v := .sl v3) rfl) ?_
      refine o_bind ?_; intro p16 hp16
      refine f_op rfl rfl (s_callv happ rfl rfl hp16) ?_
      refine f_nil ?_
      refine f_seq ?_
      refine f_region ?_
      refine o_bind ?_; intro p17 hp17
      refine o_bind ?_; intro x18 hx18
      refine f_op rfl rfl (s_callA happ rfl hp17) ?_
      refine o_know 78 rfl (asStr_eq hx18) ?_
      refine f_op rfl rfl (s_as (v := .str x18) rfl) ?_
      refine f_nil ?_
      exact f_ret (.tmp rfl (.nil)) rfl

theorem s38_l0 {app : App} (happ : AppSim Tryz.prog app) : ∀ (k_ : Nat) (v1 : Nat) (v2 : Nat) (v3 : Nat) (v4 : Sl) (v5 : Int) (v6 : Int) (H : Hp), Fin Tryz.prog Tryz.f38 ret38 79 (todoAt (bodyOf Tryz.f38) [1, 1, 0, 1, 0, 0] []) [(0, .ptr v1 v2), (3, .ptr v3 0), (13, .sl v4), (14, .int .i64 v5), (15, .int .i64 v6)] H (r38_l0 app k_ v1 v2 v3 v4 v5 v6 H) := by
  intro k_
  induction k_ with
  | zero => intro _ _ _ _ _ _ _; exact f_none
  | succ k_ ih =>
    intro v1 v2 v3 v4 v5 v6 H
    rw [r38_l0]
    refine f_seq ?_
    refine f_region ?_
    refine f_op rfl rfl (s_lss rfl rfl) ?_
    refine f_nil ?_
    refine f_seq ?_
    refine f_if (fun h1 => ?_) (fun h1 => ?_)
    · skip
      refine f_know 16 rfl (dec_true h1) ?_
      refine f_condT rfl ?_
      refine f_skip ?_
      refine f_seq ?_
      refine f_block ?_
      refine f_seq ?_
      refine f_region ?_
      refine o_ck fun g2 => ?_
      refine f_op rfl rfl (s_idx Tryz.underlying64 ty93 rfl rfl g2) ?_
      refine o_bind ?_; intro x3 hx3
      refine o_bind ?_; intro x4 hx4
      refine f_op rfl rfl (s_loads Tryz.underlying93 rfl ty93 rfl (lds_cons (ldStr_eq hx3) (lds_cons (ldI_eq hx4) (lds_nil)))) ?_
      refine f_op rfl rfl (s_alloc (zs := [.str (ByteArray.mk #[]), .int .i64 0]) ty93 rfl rfl) ?_
      refine o_bind ?_; intro H5 hH5
      refine f_op rfl rfl (s_stores ty93 rfl rfl rfl rfl hH5 (Nat.le_of_eq (sts_mono hH5).symm)) ?_
      refine f_nil ?_
      refine f_bind ?_; intro x6 hx6
      refine f_ck fun g7 => ?_
      refine f_ck fun g8 => ?_
      refine f_bind ?_; intro x9 hx9
      refine f_bind ?_; intro p10 hp10
      refine f_bind ?_; intro x11 hx11
      refine f_ck fun g12 => ?_
      refine f_ck fun g13 => ?_
      refine f_bind ?_; intro p14 hp14
      refine f_bind ?_; intro x15 hx15
      refine f_ck fun g16 => ?_
      refine f_bind ?_; intro x17 hx17
      refine f_bind ?_; intro x18 hx18
      refine f_bind ?_; intro x19 hx19
      refine f_ck fun g20 => ?_
      refine f_draw (Φ := fun H_ => H_.ld H.n (0 + 0) = some (.str x6)) (lim := 9) [0, 0, 0, 0, 0, 1, 2, 0, 0, 2] (Trc.pure rfl rfl rfl (.inl fun _ => s_fieldAddr Tryz.underlying93 rfl ty9 rfl) (Trc.pure rfl rfl rfl (.inr ⟨by decide +kernel, fun _ hp_ => s_load Tryz.underlying9 rfl rfl hp_⟩) (Trc.pure rfl rfl rfl (.inl fun _ => s_addStr rfl rfl g7) (Trc.pure rfl rfl rfl (.inl fun _ => s_addStr rfl rfl g8) (Trc.pure rfl rfl rfl (.inl fun _ => s_fieldAddr Tryz.underlying93 rfl ty3 rfl) (Trc.read rfl rfl rfl (s_load Tryz.underlying3 rfl rfl (ldI_eq hx9)) (Trc.eff rfl rfl rfl (fun _ => ldStr_eq hx6) (s_callA happ rfl hp10) (Trc.know 25 rfl (asStr_eq hx11) (Trc.pure rfl rfl rfl (.inl fun _ => s_addStr rfl rfl g12) (Trc.pure rfl rfl rfl (.inl fun _ => s_addStr rfl rfl g13) (Trc.eff rfl rfl rfl (fun _ => ldStr_eq g20) (s_callA happ rfl hp14) (Trc.know 28 rfl (tupOf2 hx15 g16 (gete hx17 (asI_eq hx18)) (gete hx19 (rfl))) (Trc.nil (fun h_ => absurd h_ (by decide +kernel))))))))))))))) rfl (by decide +kernel) mixed ?_
      refine f_inBlock ?_
      refine f_region ?_
      refine f_op rfl rfl (s_add rfl rfl) ?_
      refine f_op rfl rfl (s_mv (v := .int .i64 (w64 (v6 + 1))) rfl) ?_
      refine f_nil ?_
      refine f_inLoop ?_
      refine f_keep [0, 3, 13, 14, 15] ?_
      exact ih v1 v2 v3 v4 v5 (w64 (v6 + 1)) p14.2
    · skip
      refine f_know 16 rfl (dec_false h1) ?_
      refine f_condF rfl ?_
      refine f_exit rfl ?_
      refine f_seq ?_
      refine f_region ?_
      refine f_op rfl rfl (s_makeFunc rfl rfl) ?_
      refine f_op rfl rfl (s_as (v := .fn 54 [] [.ptr v3 0]) rfl) ?_
      refine f_nil ?_
      refine f_seq ?_
      refine f_region ?_
      refine f_op rfl rfl (s_mv (v := .fn 54 [] [.ptr v3 0]) rfl) ?_
      refine f_op rfl rfl (s_mv (v := .ptr v1 v2) rfl) ?_
      refine f_op rfl rfl (s_mv (v := .ptr v1 v2) rfl) ?_
      refine f_op rfl rfl (s_nilCheck rfl) ?_
      refine f_op rfl rfl (s_fieldAddr Tryz.underlying69 rfl ty30 rfl) ?_
      refine o_bind ?_; intro x21 hx21
      refine f_op rfl rfl (s_load Tryz.underlying30 rfl rfl (ldSl_eq hx21)) ?_
      refine o_bind ?_; intro p22 hp22
      refine f_op rfl rfl (s_callF rfl ok56 (sim56 hp22)) ?_
      refine o_bind ?_; intro p23 hp23
      refine f_op rfl rfl (s_callv happ rfl rfl hp23) ?_
      refine f_nil ?_
      refine f_seq ?_
      refine f_bind ?_; intro p24 hp24
      refine f_bind ?_; intro p25 hp25
      refine f_bind ?_; intro p26 hp26
      refine f_draw (Φ := fun _ => True) (lim := 1000000) [0, 0, 0, 0, 0, 0, 0, 0, 0, 0, 0, 2, 2, 2, 2] (Trc.pure rfl rfl rfl (.inl fun _ => s_mv (v := .fn 54 [] [.ptr v3 0]) rfl) (Trc.pure rfl rfl rfl (.inl fun _ => s_mv (v := .ptr v1 v2) rfl) (Trc.pure rfl rfl rfl (.inl fun _ => s_nilCheck rfl) (Trc.pure rfl rfl rfl (.inl fun _ => s_fieldAddr Tryz.underlying69 rfl ty66 rfl) (Trc.pure rfl rfl rfl (.inl fun _ => s_idxA Tryz.underlying66 ty65 rfl rfl (by decide)) (Trc.pure rfl rfl rfl (.inl fun _ => s_sliceA Tryz.underlying65 ty3 rfl rfl rfl (by decide)) (Trc.pure rfl rfl rfl (.inl fun _ => s_mv (v := .ptr v1 v2) rfl) (Trc.pure rfl rfl rfl (.inl fun _ => s_nilCheck rfl) (Trc.pure rfl rfl rfl (.inl fun _ => s_fieldAddr Tryz.underlying69 rfl ty66 rfl) (Trc.pure rfl rfl rfl (.inl fun _ => s_idxA Tryz.underlying66 ty65 rfl rfl (by decide)) (Trc.pure rfl rfl rfl (.inl fun _ => s_sliceA Tryz.underlying65 ty3 rfl rfl rfl (by decide)) (Trc.eff rfl rfl rfl (fun _ => trivial) (s_buildSlice (cs := [.sl ⟨false, v1, ((v2 + 2) + (0 : Int).toNat * 2) + (0 : Int).toNat * 1, (((2 : Nat) : Int) : Int).toNat - (0 : Int).toNat, 2 - (0 : Int).toNat, 0⟩, .sl ⟨false, v1, ((v2 + 2) + (1 : Int).toNat * 2) + (0 : Int).toNat * 1, (((2 : Nat) : Int) : Int).toNat - (0 : Int).toNat, 2 - (0 : Int).toNat, 0⟩]) Tryz.underlying122 ty30 (by decide) (by decide) rfl (by decide) rfl) (Trc.eff rfl rfl rfl (fun _ => trivial) (s_callF rfl ok58 (sim58 hp24)) (Trc.eff rfl rfl rfl (fun _ => trivial) (s_callF rfl ok57 (sim57 happ hp25)) (Trc.eff rfl rfl rfl (fun _ => trivial) (s_callv happ rfl rfl hp26) (Trc.nil (fun _ => trivial))))))))))))))))) rfl (by decide +kernel) mixed ?_
      refine f_seq ?_
      refine f_region ?_
      refine f_op rfl rfl (s_as (v := .sl ⟨true, 0, 0, 0, 0, 0⟩) rfl) ?_
      refine f_nil ?_
      refine f_seq ?_
      refine f_seq ?_
      refine f_region ?_
      refine f_op rfl rfl (s_mv (v := .ptr v1 v2) rfl) ?_
      refine f_op rfl rfl (s_nilCheck rfl) ?_
      refine f_op rfl rfl (s_fieldAddr Tryz.underlying69 rfl ty67 rfl) ?_
      refine o_bind ?_; intro x27 hx27
      refine f_op rfl rfl (s_load Tryz.underlying67 rfl rfl (ldSl_eq hx27)) ?_
      refine f_op rfl rfl (s_lenS rfl Tryz.underlying67 rfl) ?_
      refine f_op rfl rfl (s_mv (v := .int .i64 0) rfl) ?_
      refine f_nil ?_
      refine f_block ?_
      refine f_loop ?_
      refine f_keep [3, 6, 7, 57, 58, 59] ?_
      exact s38_l1 happ FUEL v3 v3 ⟨true, 0, 0, 0, 0, 0⟩ x27 (x27.len : Int) 0 p26.2

theorem sim38 {app : App} (happ : AppSim Tryz.prog app) {a0b : Nat} {a0o : Nat} {H : Hp} {p : ByteArray × Hp} (h : r38 app a0b a0o H = some p) : CallSim Tryz.prog 38 [.ptr a0b a0o] H (.str p.1) p.2 := by
  refine callSim (fn := Tryz.f38) (ret := ret38) Tryz.func38 rfl Tryz.ntmps38 rfl ?_ h
  unfold r38
  refine f_seq ?_
  refine f_region ?_
  refine f_op rfl rfl (s_as (v := .str (ByteArray.mk #[])) rfl) ?_
  refine f_nil ?_
  refine f_seq ?_
  refine f_region ?_
  refine f_op rfl rfl (s_allocB rfl ty91) ?_
  refine o_hp ?_; intro H1 hH1
  refine f_nil ?_
  refine f_seq ?_
  refine f_seq ?_
  refine f_region ?_
  refine f_op rfl rfl (s_mv (v := .ptr a0b a0o) rfl) ?_
  refine f_op rfl rfl (s_nilCheck rfl) ?_
  refine f_op rfl rfl (s_fieldAddr Tryz.underlying69 rfl ty64 rfl) ?_
  refine o_bind ?_; intro x2 hx2
  refine f_op rfl rfl (s_load Tryz.underlying64 rfl rfl (ldSl_eq hx2)) ?_
  refine f_op rfl rfl (s_lenS rfl Tryz.underlying64 rfl) ?_
  refine f_op rfl rfl (s_mv (v := .int .i64 0) rfl) ?_
  refine f_nil ?_
  refine f_block ?_
  refine f_loop ?_
  refine f_keep [0, 3, 13, 14, 15] ?_
  exact s38_l0 happ FUEL a0b a0o H.n x2 (x2.len : Int) 0 H1

/- 24 (*congou/chest.Chest).State -/
theorem ok24 : FnOk Tryz.prog 24 := ⟨⟨Tryz.f24, Tryz.func24, by kernel_rfl, rfl⟩⟩
theorem sim24 {app : App} (happ : AppSim Tryz.prog app) {a0b : Nat} {a0o : Nat} {H : Hp} {p : ByteArray × Hp} (h : r24 app a0b a0o H = some p) : CallSim Tryz.prog 24 [.ptr a0b a0o] H (.str p.1) p.2 := by
  refine callSim (fn := Tryz.f24) (ret := ret24) Tryz.func24 rfl Tryz.ntmps24 rfl ?_ h
  unfold r24
  refine f_seq ?_
  refine f_region ?_
  refine f_op rfl rfl (s_as (v := .str (ByteArray.mk #[])) rfl) ?_
  refine f_nil ?_
  refine f_seq ?_
  refine f_seq ?_
  refine f_region ?_
  refine f_op rfl rfl (s_mv (v := .ptr a0b a0o) rfl) ?_
  refine o_bind ?_; intro p1 hp1
  refine f_op rfl rfl (s_callF rfl ok28 (sim28 hp1)) ?_
  refine f_nil ?_
  refine f_if (fun h2 => ?_) (fun h2 => ?_)
  · skip
    refine f_know 4 rfl (bool_T h2) ?_
    refine f_condT rfl ?_
    refine f_seq ?_
    refine f_region ?_
    refine f_op rfl rfl (s_as (v := .str (ByteArray.mk #[])) rfl) ?_
    refine f_nil ?_
    exact f_ret (.tmp rfl (.nil)) rfl
  · skip
    refine f_know 4 rfl (bool_F h2) ?_
    refine f_condF rfl ?_
    refine f_skip ?_
    refine f_seq ?_
    refine f_region ?_
    refine f_op rfl rfl (s_mv (v := .ptr a0b a0o) rfl) ?_
    refine o_bind ?_; intro p3 hp3
    refine f_op rfl rfl (s_callF rfl ok33 (sim33 hp3)) ?_
    refine o_bind ?_; intro p4 hp4
    refine f_op rfl rfl (s_callF rfl ok38 (sim38 happ hp4)) ?_
    refine f_op rfl rfl (s_as (v := .str p4.1) rfl) ?_
    refine f_nil ?_
    exact f_ret (.tmp rfl (.nil)) rfl

/- 26 slices.Clone[[]string,string] -/
theorem ok26 : FnOk Tryz.prog 26 := ⟨⟨Tryz.f26, Tryz.func26, by kernel_rfl, rfl⟩⟩
theorem sim26 {a0 : Sl} {H : Hp} {p : Sl × Hp} (h : r26 a0 H = some p) : CallSim Tryz.prog 26 [.sl a0] H (.sl p.1) p.2 := by
  refine callSim (fn := Tryz.f26) (ret := ret26) Tryz.func26 rfl Tryz.ntmps26 rfl ?_ h
  unfold r26
  refine f_seq ?_
  refine f_region ?_
  refine f_op rfl rfl (s_as (v := .sl ⟨true, 0, 0, 0, 0, 0⟩) rfl) ?_
  refine f_nil ?_
  refine f_seq ?_
  refine f_seq ?_
  refine f_region ?_
  refine f_op rfl rfl (s_mv (v := .sl a0) rfl) ?_
  refine f_op rfl rfl (s_eqNil Tryz.underlying38 rfl rfl) ?_
  refine f_nil ?_
  refine f_if (fun h1 => ?_) (fun h1 => ?_)
  · skip
    refine f_know 4 rfl (bool_T h1) ?_
    refine f_condT rfl ?_
    refine f_seq ?_
    refine f_region ?_
    refine f_op rfl rfl (s_as (v := .sl ⟨true, 0, 0, 0, 0, 0⟩) rfl) ?_
    refine f_nil ?_
    exact f_ret (.tmp rfl (.nil)) rfl
  · skip
    refine f_know 4 rfl (bool_F h1) ?_
    refine f_condF rfl ?_
    refine f_skip ?_
    refine f_seq ?_
    refine f_region ?_
    refine f_op rfl rfl (s_buildSlice0 Tryz.underlying38 ty9) ?_
    refine f_op rfl rfl (s_mv (v := .sl a0) rfl) ?_
    refine o_bind ?_; intro x2 hx2
    refine o_ck fun g3 => ?_
    refine o_bind ?_; intro x4 hx4
    refine f_op rfl rfl (s_append rfl rfl Tryz.underlying38 Tryz.underlying38 ty9 (by decide) rfl (by decide) rfl rfl hx2 g3 hx4) ?_
    refine f_op rfl rfl (s_as (v := .sl x4.1) rfl) ?_
    refine f_nil ?_
    exact f_ret (.tmp rfl (.nil)) rfl

end Go.Lt.P10
