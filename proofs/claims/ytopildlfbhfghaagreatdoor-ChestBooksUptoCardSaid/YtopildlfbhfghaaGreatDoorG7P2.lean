/- PRINTED BY A PROGRAM OF OURS: what each function that 'ChestBooks' reaches computes on the abstract heap, and that the translated code does just that. Nothing is asked of the input. -/
import Derived.Test.YtopildlfbhfghaaGreatDoorG7P1
set_option linter.unusedVariables false
set_option linter.unusedSimpArgs false
set_option maxRecDepth 100000
set_option maxHeartbeats 4000000
namespace Go.Lt.P10
open Go Go.Lt Go.Proofs
/- 137 slices.Reverse[[]int,int] -/
theorem ok137 : FnOk Tryz.prog 137 := ⟨⟨Tryz.f137, Tryz.func137, by kernel_rfl, rfl⟩⟩
theorem s137_l0 : ∀ (k_ : Nat) (v1 : Sl) (v2 : Int) (v3 : Int) (H : Hp), Fin Tryz.prog Tryz.f137 ret137 28 (todoAt (bodyOf Tryz.f137) [1, 0, 0] []) [(0, .sl v1), (2, .int .i64 v2), (3, .int .i64 v3)] H (r137_l0 k_ v1 v2 v3 H) := by
  intro k_
  induction k_ with
  | zero => intro _ _ _ _; exact f_none
  | succ k_ ih =>
    intro v1 v2 v3 H
    rw [r137_l0]
    refine f_seq ?_
    refine f_seq ?_
    refine f_region ?_
    refine f_op rfl rfl (s_mv (v := .int .i64 v2) rfl) ?_
    refine f_op rfl rfl (s_mv (v := .int .i64 v3) rfl) ?_
    refine f_op rfl rfl (s_lss rfl rfl) ?_
    refine f_nil ?_
    refine f_if (fun h1 => ?_) (fun h1 => ?_)
    · skip
      refine f_know 9 rfl (dec_true h1) ?_
      refine f_condT rfl ?_
      refine f_skip ?_
      refine f_seq ?_
      refine f_block ?_
      refine f_ck fun g2 => ?_
      refine f_bind ?_; intro x3 hx3
      refine f_ck fun g4 => ?_
      refine f_bind ?_; intro x5 hx5
      refine f_ck fun g6 => ?_
      refine f_bind ?_; intro H7 hH7
      refine f_ck fun g8 => ?_
      refine f_bind ?_; intro H9 hH9
      refine f_draw (Φ := fun _ => True) (lim := 1000000) [0, 0, 0, 0, 0, 0, 0, 1, 0, 0, 0, 1, 0, 2, 0, 2] (Trc.pure rfl rfl rfl (.inl fun _ => s_mv (v := .sl v1) rfl) (Trc.pure rfl rfl rfl (.inl fun _ => s_mv (v := .int .i64 v2) rfl) (Trc.pure rfl rfl rfl (.inl fun _ => s_mv (v := .sl v1) rfl) (Trc.pure rfl rfl rfl (.inl fun _ => s_mv (v := .int .i64 v3) rfl) (Trc.pure rfl rfl rfl (.inl fun _ => s_mv (v := .sl v1) rfl) (Trc.pure rfl rfl rfl (.inl fun _ => s_mv (v := .int .i64 v3) rfl) (Trc.pure rfl rfl rfl (.inl fun _ => s_idx Tryz.underlying25 ty3 rfl rfl g2) (Trc.read rfl rfl rfl (s_load Tryz.underlying3 rfl rfl (ldI_eq hx3)) (Trc.pure rfl rfl rfl (.inl fun _ => s_mv (v := .sl v1) rfl) (Trc.pure rfl rfl rfl (.inl fun _ => s_mv (v := .int .i64 v2) rfl) (Trc.pure rfl rfl rfl (.inl fun _ => s_idx Tryz.underlying25 ty3 rfl rfl g4) (Trc.read rfl rfl rfl (s_load Tryz.underlying3 rfl rfl (ldI_eq hx5)) (Trc.pure rfl rfl rfl (.inl fun _ => s_idx Tryz.underlying25 ty3 rfl rfl g6) (Trc.eff rfl rfl rfl (fun _ => trivial) (s_store (s := 1) ty3 rfl rfl rfl hH7) (Trc.pure rfl rfl rfl (.inl fun _ => s_idx Tryz.underlying25 ty3 rfl rfl g8) (Trc.eff rfl rfl rfl (fun _ => trivial) (s_store (s := 1) ty3 rfl rfl rfl hH9) (Trc.nil (fun _ => trivial)))))))))))))))))) rfl (by decide +kernel) mixed ?_
      refine f_inBlock ?_
      refine f_region ?_
      refine f_op rfl rfl (s_mv (v := .int .i64 v2) rfl) ?_
      refine f_op rfl rfl (s_add rfl rfl) ?_
      refine f_op rfl rfl (s_mv (v := .int .i64 v3) rfl) ?_
      refine f_op rfl rfl (s_sub rfl rfl) ?_
      refine f_op rfl rfl (s_as (v := .int .i64 (w64 (v2 + 1))) rfl) ?_
      refine f_op rfl rfl (s_as (v := .int .i64 (w64 (v3 - 1))) rfl) ?_
      refine f_nil ?_
      refine f_inLoop ?_
      refine f_keep [0, 2, 3] ?_
      exact ih v1 (w64 (v2 + 1)) (w64 (v3 - 1)) H9
    · skip
      refine f_know 9 rfl (dec_false h1) ?_
      refine f_condF rfl ?_
      refine f_exit rfl ?_
      exact f_end (.nil) rfl

theorem sim137 {a0 : Sl} {H : Hp} {p : Unit × Hp} (h : r137 a0 H = some p) : CallSim Tryz.prog 137 [.sl a0] H (.tup []) p.2 := by
  refine callSim (fn := Tryz.f137) (ret := ret137) Tryz.func137 rfl Tryz.ntmps137 rfl ?_ h
  unfold r137
  refine f_seq ?_
  refine f_region ?_
  refine f_op rfl rfl (s_mv (v := .sl a0) rfl) ?_
  refine f_op rfl rfl (s_lenS rfl Tryz.underlying25 rfl) ?_
  refine f_op rfl rfl (s_sub rfl rfl) ?_
  refine f_op rfl rfl (s_as (v := .int .i64 0) rfl) ?_
  refine f_op rfl rfl (s_as (v := .int .i64 (w64 ((a0.len : Int) - 1))) rfl) ?_
  refine f_nil ?_
  refine f_block ?_
  refine f_loop ?_
  refine f_keep [0, 2, 3] ?_
  exact s137_l0 FUEL a0 0 (w64 ((a0.len : Int) - 1)) H

/- 81 (*congou/chest.Chest).way -/
theorem ok81 : FnOk Tryz.prog 81 := ⟨⟨Tryz.f81, Tryz.func81, by kernel_rfl, rfl⟩⟩
theorem s81_l0 : ∀ (k_ : Nat) (v1 : Nat) (v2 : Nat) (v3 : Sl) (v4 : Int) (H : Hp), Fin Tryz.prog Tryz.f81 ret81 25 (todoAt (bodyOf Tryz.f81) [1, 1, 0, 1, 0, 0] []) [(0, .ptr v1 v2), (5, .sl v3), (6, .int .i64 v4)] H (r81_l0 k_ v1 v2 v3 v4 H) := by
  intro k_
  induction k_ with
  | zero => intro _ _ _ _ _; exact f_none
  | succ k_ ih =>
    intro v1 v2 v3 v4 H
    rw [r81_l0]
    refine f_seq ?_
    refine f_seq ?_
    refine f_region ?_
    refine f_op rfl rfl (s_mv (v := .int .i64 v4) rfl) ?_
    refine f_op rfl rfl (s_neq rfl rfl) ?_
    refine f_nil ?_
    refine f_if (fun h1 => ?_) (fun h1 => ?_)
    · skip
      refine f_know 9 rfl (dec_true h1) ?_
      refine f_condT rfl ?_
      refine f_skip ?_
      refine f_seq ?_
      refine f_block ?_
      refine f_region ?_
      refine f_op rfl rfl (s_mv (v := .sl v3) rfl) ?_
      refine f_op rfl rfl (s_mv (v := .int .i64 v4) rfl) ?_
      refine f_op rfl rfl (s_buildSlice (cs := [.int .i64 v4]) Tryz.underlying25 ty3 (by decide) (by decide) rfl (by decide) rfl) ?_
      refine o_bind ?_; intro x2 hx2
      refine f_op rfl rfl (s_ap rfl rfl Tryz.underlying25 Tryz.underlying25 ty3 rfl rfl rfl rfl rfl rfl rfl hx2) ?_
      refine f_op rfl rfl (s_as (v := .sl x2.1) rfl) ?_
      refine f_nil ?_
      refine f_inBlock ?_
      refine f_region ?_
      refine f_op rfl rfl (s_mv (v := .ptr v1 v2) rfl) ?_
      refine f_op rfl rfl (s_nilCheck rfl) ?_
      refine f_op rfl rfl (s_fieldAddr Tryz.underlying118 rfl ty116 rfl) ?_
      refine o_bind ?_; intro x3 hx3
      refine f_op rfl rfl (s_load Tryz.underlying116 rfl rfl (ldSl_eq hx3)) ?_
      refine f_op rfl rfl (s_mv (v := .int .i64 v4) rfl) ?_
      refine o_ck fun g4 => ?_
      refine f_op rfl rfl (s_idx Tryz.underlying116 ty120 rfl rfl g4) ?_
      refine f_op rfl rfl (s_fieldAddr Tryz.underlying120 rfl ty3 rfl) ?_
      refine o_bind ?_; intro x5 hx5
      refine f_op rfl rfl (s_load Tryz.underlying3 rfl rfl (ldI_eq hx5)) ?_
      refine f_op rfl rfl (s_as (v := .int .i64 x5) rfl) ?_
      refine f_nil ?_
      refine f_inLoop ?_
      refine f_keep [0, 5, 6] ?_
      exact ih v1 v2 x2.1 x5 x2.2
    · skip
      refine f_know 9 rfl (dec_false h1) ?_
      refine f_condF rfl ?_
      refine f_exit rfl ?_
      refine f_seq ?_
      refine f_region ?_
      refine f_op rfl rfl (s_mv (v := .sl v3) rfl) ?_
      refine o_bind ?_; intro p6 hp6
      refine f_op rfl rfl (s_callF rfl ok137 (sim137 hp6)) ?_
      refine f_nil ?_
      refine f_seq ?_
      refine f_region ?_
      refine f_op rfl rfl (s_mv (v := .sl v3) rfl) ?_
      refine f_op rfl rfl (s_as (v := .sl v3) rfl) ?_
      refine f_nil ?_
      exact f_ret (.tmp rfl (.nil)) rfl

theorem sim81 {a0b : Nat} {a0o : Nat} {a1 : Int} {H : Hp} {p : Sl × Hp} (h : r81 a0b a0o a1 H = some p) : CallSim Tryz.prog 81 [.ptr a0b a0o, .int .i64 a1] H (.sl p.1) p.2 := by
  refine callSim (fn := Tryz.f81) (ret := ret81) Tryz.func81 rfl Tryz.ntmps81 rfl ?_ h
  unfold r81
  refine f_seq ?_
  refine f_region ?_
  refine f_op rfl rfl (s_as (v := .sl ⟨true, 0, 0, 0, 0, 0⟩) rfl) ?_
  refine f_nil ?_
  refine f_seq ?_
  refine f_region ?_
  refine f_op rfl rfl (s_as (v := .sl ⟨true, 0, 0, 0, 0, 0⟩) rfl) ?_
  refine f_nil ?_
  refine f_seq ?_
  refine f_seq ?_
  refine f_region ?_
  refine f_op rfl rfl (s_mv (v := .int .i64 a1) rfl) ?_
  refine f_op rfl rfl (s_as (v := .int .i64 a1) rfl) ?_
  refine f_nil ?_
  refine f_block ?_
  refine f_loop ?_
  refine f_keep [0, 5, 6] ?_
  exact s81_l0 FUEL a0b a0o ⟨true, 0, 0, 0, 0, 0⟩ a1 H

/- 75 (*congou/chest.Chest).Back -/
theorem ok75 : FnOk Tryz.prog 75 := ⟨⟨Tryz.f75, Tryz.func75, by kernel_rfl, rfl⟩⟩
theorem s75_l0 : ∀ (k_ : Nat) (v1 : Nat) (v2 : Nat) (v3 : Int) (v4 : Int) (H : Hp), Fin Tryz.prog Tryz.f75 ret75 39 (todoAt (bodyOf Tryz.f75) [1, 1, 0, 1, 0, 0] []) [(0, .ptr v1 v2), (21, .int .i64 v3), (22, .int .i64 v4)] H (r75_l0 k_ v1 v2 v3 v4 H) := by
  intro k_
  induction k_ with
  | zero => intro _ _ _ _ _; exact f_none
  | succ k_ ih =>
    intro v1 v2 v3 v4 H
    rw [r75_l0]
    refine f_seq ?_
    refine f_region ?_
    refine f_op rfl rfl (s_lss rfl rfl) ?_
    refine f_nil ?_
    refine f_seq ?_
    refine f_if (fun h1 => ?_) (fun h1 => ?_)
    · skip
      refine f_know 23 rfl (dec_true h1) ?_
      refine f_condT rfl ?_
      refine f_skip ?_
      refine f_seq ?_
      refine f_block ?_
      refine f_bind ?_; intro x2 hx2
      refine f_bind ?_; intro x3 hx3
      refine f_ck fun g4 => ?_
      refine f_bind ?_; intro x5 hx5
      refine f_bind ?_; intro H6 hH6
      refine f_draw (Φ := fun _ => True) (lim := 1000000) [0, 0, 0, 0, 1, 0, 0, 0, 1, 0, 0, 1, 0, 0, 2] (Trc.pure rfl rfl rfl (.inl fun _ => s_mv (v := .ptr v1 v2) rfl) (Trc.pure rfl rfl rfl (.inl fun _ => s_mv (v := .ptr v1 v2) rfl) (Trc.pure rfl rfl rfl (.inl fun _ => s_nilCheck rfl) (Trc.pure rfl rfl rfl (.inl fun _ => s_fieldAddr Tryz.underlying118 rfl ty116 rfl) (Trc.read rfl rfl rfl (s_load Tryz.underlying116 rfl rfl (ldSl_eq hx2)) (Trc.pure rfl rfl rfl (.inl fun _ => s_mv (v := .ptr v1 v2) rfl) (Trc.pure rfl rfl rfl (.inl fun _ => s_nilCheck rfl) (Trc.pure rfl rfl rfl (.inl fun _ => s_fieldAddr Tryz.underlying118 rfl ty3 rfl) (Trc.read rfl rfl rfl (s_load Tryz.underlying3 rfl rfl (ldI_eq hx3)) (Trc.pure rfl rfl rfl (.inl fun _ => s_idx Tryz.underlying116 ty120 rfl rfl g4) (Trc.pure rfl rfl rfl (.inl fun _ => s_fieldAddr Tryz.underlying120 rfl ty3 rfl) (Trc.read rfl rfl rfl (s_load Tryz.underlying3 rfl rfl (ldI_eq hx5)) (Trc.pure rfl rfl rfl (.inl fun _ => s_nilCheck rfl) (Trc.pure rfl rfl rfl (.inl fun _ => s_fieldAddr Tryz.underlying118 rfl ty3 rfl) (Trc.eff rfl rfl rfl (fun _ => trivial) (s_store (s := 1) ty3 rfl rfl rfl hH6) (Trc.nil (fun _ => trivial))))))))))))))))) rfl (by decide +kernel) mixed ?_
      refine f_inBlock ?_
      refine f_region ?_
      refine f_op rfl rfl (s_add rfl rfl) ?_
      refine f_op rfl rfl (s_mv (v := .int .i64 (w64 (v4 + 1))) rfl) ?_
      refine f_nil ?_
      refine f_inLoop ?_
      refine f_keep [0, 21, 22] ?_
      exact ih v1 v2 v3 (w64 (v4 + 1)) H6
    · skip
      refine f_know 23 rfl (dec_false h1) ?_
      refine f_condF rfl ?_
      refine f_exit rfl ?_
      refine f_seq ?_
      refine f_region ?_
      refine f_op rfl rfl (s_as (v := .int .i64 0) rfl) ?_
      refine f_nil ?_
      exact f_ret (.tmp rfl (.nil)) rfl

theorem sim75 {a0b : Nat} {a0o : Nat} {a1 : Int} {H : Hp} {p : Int × Hp} (h : r75 a0b a0o a1 H = some p) : CallSim Tryz.prog 75 [.ptr a0b a0o, .int .i64 a1] H (.int .i64 p.1) p.2 := by
  refine callSim (fn := Tryz.f75) (ret := ret75) Tryz.func75 rfl Tryz.ntmps75 rfl ?_ h
  unfold r75
  refine f_seq ?_
  refine f_region ?_
  refine f_op rfl rfl (s_as (v := .int .i64 0) rfl) ?_
  refine f_nil ?_
  refine f_seq ?_
  refine f_block ?_
  refine f_seq ?_
  refine f_region ?_
  refine f_op rfl rfl (s_mv (v := .ptr a0b a0o) rfl) ?_
  refine o_bind ?_; intro p1 hp1
  refine f_op rfl rfl (s_callF rfl ok60 (sim60 hp1)) ?_
  refine f_op rfl rfl (s_as (v := .bool p1.1) rfl) ?_
  refine f_nil ?_
  refine f_if (fun h2 => ?_) (fun h2 => ?_)
  · skip
    refine f_know 5 rfl (bool_T h2) ?_
    refine f_condT rfl ?_
    refine f_seq ?_
    refine f_region ?_
    refine f_op rfl rfl (s_as (v := .int .i64 1) rfl) ?_
    refine f_nil ?_
    exact f_ret (.tmp rfl (.nil)) rfl
  · skip
    refine f_know 5 rfl (bool_F h2) ?_
    refine f_condF rfl ?_
    refine f_seq ?_
    refine f_region ?_
    refine f_op rfl rfl (s_mv (v := .int .i64 a1) rfl) ?_
    refine f_op rfl rfl (s_lss rfl rfl) ?_
    refine f_op rfl rfl (s_as (v := .bool (decide (a1 < 0))) rfl) ?_
    refine f_nil ?_
    refine f_if (fun h3 => ?_) (fun h3 => ?_)
    · skip
      refine f_know 8 rfl (dec_true h3) ?_
      refine f_condT rfl ?_
      refine f_seq ?_
      refine f_region ?_
      refine f_op rfl rfl (s_as (v := .int .i64 2) rfl) ?_
      refine f_nil ?_
      exact f_ret (.tmp rfl (.nil)) rfl
    · skip
      refine f_know 8 rfl (dec_false h3) ?_
      refine f_condF rfl ?_
      refine f_seq ?_
      refine f_region ?_
      refine f_op rfl rfl (s_mv (v := .int .i64 a1) rfl) ?_
      refine f_op rfl rfl (s_mv (v := .ptr a0b a0o) rfl) ?_
      refine f_op rfl rfl (s_mv (v := .ptr a0b a0o) rfl) ?_
      refine f_op rfl rfl (s_nilCheck rfl) ?_
      refine f_op rfl rfl (s_fieldAddr Tryz.underlying118 rfl ty3 rfl) ?_
      refine o_bind ?_; intro x4 hx4
      refine f_op rfl rfl (s_load Tryz.underlying3 rfl rfl (ldI_eq hx4)) ?_
      refine o_bind ?_; intro p5 hp5
      refine f_op rfl rfl (s_callF rfl ok81 (sim81 hp5)) ?_
      refine f_op rfl rfl (s_lenS rfl Tryz.underlying25 rfl) ?_
      refine f_op rfl rfl (s_gtr rfl rfl) ?_
      refine f_op rfl rfl (s_as (v := .bool (decide ((p5.1.len : Int) < a1))) rfl) ?_
      refine f_nil ?_
      refine f_if (fun h6 => ?_) (fun h6 => ?_)
      · skip
        refine f_know 11 rfl (dec_true h6) ?_
        refine f_condT rfl ?_
        refine f_seq ?_
        refine f_region ?_
        refine f_op rfl rfl (s_as (v := .int .i64 4) rfl) ?_
        refine f_nil ?_
        exact f_ret (.tmp rfl (.nil)) rfl
      · skip
        refine f_know 11 rfl (dec_false h6) ?_
        refine f_condF rfl ?_
        refine f_skip ?_
        refine f_inBlock ?_
        refine f_seq ?_
        refine f_seq ?_
        refine f_region ?_
        refine f_op rfl rfl (s_mv (v := .int .i64 a1) rfl) ?_
        refine f_op rfl rfl (s_mv (v := .int .i64 0) rfl) ?_
        refine f_nil ?_
        refine f_block ?_
        refine f_loop ?_
        refine f_keep [0, 21, 22] ?_
        exact s75_l0 FUEL a0b a0o a1 0 p5.2

/- 127 (*congou/chest.Chest).fork -/
theorem ok127 : FnOk Tryz.prog 127 := ⟨⟨Tryz.f127, Tryz.func127, by kernel_rfl, rfl⟩⟩
theorem s127_j1 (kt0 : Int → Sl → Sl → Hp → Option ((Int × Sl) × Hp)) (hkt0 : ∀ (v1 : Int) (v2 : Sl) (v3 : Sl) (H : Hp), Fin Tryz.prog Tryz.f127 ret127 42 (todoAt (bodyOf Tryz.f127) [1, 1, 0, 0, 0] []) [(6, .int .i64 v1), (8, .sl v2), (9, .sl v3)] H (kt0 v1 v2 v3 H)) (v1 : Int) (v2 : Sl) (v3 : Sl) (v4 : Bool) (H : Hp) : Fin Tryz.prog Tryz.f127 ret127 42 (todoAt (bodyOf Tryz.f127) [1, 1, 0, 0, 0, 0, 1] []) [(6, .int .i64 v1), (8, .sl v2), (9, .sl v3), (32, .bool v4)] H (r127_j1 kt0 v1 v2 v3 v4 H) := by
  unfold r127_j1
  refine f_if (fun h1 => ?_) (fun h1 => ?_)
  · skip
    refine f_know 32 rfl (bool_T h1) ?_
    refine f_condT rfl ?_
    refine f_skip ?_
    refine f_block ?_
    refine f_seq ?_
    refine f_region ?_
    refine f_op rfl rfl (s_mv (v := .sl v2) rfl) ?_
    refine o_ck fun g2 => ?_
    refine f_op rfl rfl (s_idx Tryz.underlying25 ty3 rfl rfl g2) ?_
    refine o_bind ?_; intro x3 hx3
    refine f_op rfl rfl (s_load Tryz.underlying3 rfl rfl (ldI_eq hx3)) ?_
    refine f_op rfl rfl (s_as (v := .int .i64 x3) rfl) ?_
    refine f_nil ?_
    refine f_ck fun g4 => ?_
    refine f_ck fun g5 => ?_
    refine f_draw (Φ := fun _ => True) (lim := 1000000) [0, 0, 0, 0, 0, 0] (Trc.pure rfl rfl rfl (.inl fun _ => s_mv (v := .sl v2) rfl) (Trc.pure rfl rfl rfl (.inl fun _ => s_slice Tryz.underlying25 ty3 rfl rfl rfl g4.1 g4.2) (Trc.pure rfl rfl rfl (.inl fun _ => s_mv (v := .sl v3) rfl) (Trc.pure rfl rfl rfl (.inl fun _ => s_slice Tryz.underlying25 ty3 rfl rfl rfl g5.1 g5.2) (Trc.pure rfl rfl rfl (.inl fun _ => s_as (v := .sl (v2.cut 1 (1 : Int).toNat ((v2.len : Int) : Int).toNat)) rfl) (Trc.pure rfl rfl rfl (.inl fun _ => s_as (v := .sl (v3.cut 1 (1 : Int).toNat ((v3.len : Int) : Int).toNat)) rfl) (Trc.nil (fun _ => trivial)))))))) rfl (by decide +kernel) mixed ?_
    refine f_inBlock ?_
    refine f_inLoop ?_
    refine f_keep [6, 8, 9] ?_
    exact hkt0 x3 (v2.cut 1 (1 : Int).toNat ((v2.len : Int) : Int).toNat) (v3.cut 1 (1 : Int).toNat ((v3.len : Int) : Int).toNat) H
  · skip
    refine f_know 32 rfl (bool_F h1) ?_
    refine f_condF rfl ?_
    refine f_exit rfl ?_
    refine f_seq ?_
    refine f_region ?_
    refine f_op rfl rfl (s_mv (v := .int .i64 v1) rfl) ?_
    refine f_op rfl rfl (s_mv (v := .sl v3) rfl) ?_
    refine f_op rfl rfl (s_as (v := .int .i64 v1) rfl) ?_
    refine f_op rfl rfl (s_as (v := .sl v3) rfl) ?_
    refine f_nil ?_
    exact f_ret (.tmp rfl (.tmp rfl (.nil))) rfl

theorem s127_l0 : ∀ (k_ : Nat) (v1 : Int) (v2 : Sl) (v3 : Sl) (H : Hp), Fin Tryz.prog Tryz.f127 ret127 42 (todoAt (bodyOf Tryz.f127) [1, 1, 0, 0, 0] []) [(6, .int .i64 v1), (8, .sl v2), (9, .sl v3)] H (r127_l0 k_ v1 v2 v3 H) := by
  intro k_
  induction k_ with
  | zero => intro _ _ _ _; exact f_none
  | succ k_ ih =>
    intro v1 v2 v3 H
    rw [r127_l0]
    refine f_seq ?_
    refine f_seq ?_
    refine f_if (fun h1 => ?_) (fun h1 => ?_)
    · skip
      refine f_if (fun h2 => ?_) (fun h2 => ?_)
      · skip
        refine f_ck fun g3 => ?_
        refine f_bind ?_; intro x4 hx4
        refine f_ck fun g5 => ?_
        refine f_bind ?_; intro x6 hx6
        refine f_draw (Φ := fun _ => True) (lim := 1000000) [0, 0, 0, 0, 0, 0, 0, 0, 0, 0, 0, 1, 0, 0, 1, 0, 0] (Trc.pure rfl rfl rfl (.inl fun _ => s_mv (v := .sl v2) rfl) (Trc.pure rfl rfl rfl (.inl fun _ => s_lenS rfl Tryz.underlying25 rfl) (Trc.pure rfl rfl rfl (.inl fun _ => s_gtr rfl rfl) (Trc.pure rfl rfl rfl (.inl fun _ => s_mv (v := .bool (decide (0 < (v2.len : Int)))) rfl) (Trc.know 19 rfl (dec_true h1) (Trc.pure rfl rfl rfl (.inl fun _ => s_mv (v := .sl v3) rfl) (Trc.pure rfl rfl rfl (.inl fun _ => s_lenS rfl Tryz.underlying25 rfl) (Trc.pure rfl rfl rfl (.inl fun _ => s_gtr rfl rfl) (Trc.pure rfl rfl rfl (.inl fun _ => s_pickT (v := .bool (decide (0 < (v3.len : Int)))) rfl rfl) (Trc.pure rfl rfl rfl (.inl fun _ => s_mv (v := .bool (decide (0 < (v3.len : Int)))) rfl) (Trc.know 24 rfl (dec_true h2) (Trc.pure rfl rfl rfl (.inl fun _ => s_mv (v := .sl v2) rfl) (Trc.pure rfl rfl rfl (.inl fun _ => s_idx Tryz.underlying25 ty3 rfl rfl g3) (Trc.read rfl rfl rfl (s_load Tryz.underlying3 rfl rfl (ldI_eq hx4)) (Trc.pure rfl rfl rfl (.inl fun _ => s_mv (v := .sl v3) rfl) (Trc.pure rfl rfl rfl (.inl fun _ => s_idx Tryz.underlying25 ty3 rfl rfl g5) (Trc.read rfl rfl rfl (s_load Tryz.underlying3 rfl rfl (ldI_eq hx6)) (Trc.pure rfl rfl rfl (.inl fun _ => s_eql rfl rfl) (Trc.pure rfl rfl rfl (.inl fun _ => s_pickT (v := .bool (decide (x4 = x6))) rfl rfl) (Trc.nil (fun _ => trivial))))))))))))))))))))) rfl (by decide +kernel) mixed ?_
        refine f_keep [6, 8, 9, 32] ?_
        exact s127_j1 _ (fun v1_ v2_ v3_ H_ => ih v1_ v2_ v3_ H_) v1 v2 v3 (decide (x4 = x6)) H
      · skip
        refine f_draw (Φ := fun _ => True) (lim := 1000000) [0, 0, 0, 0, 0, 0, 0, 0, 0, 0, 0, 0, 0, 0, 0, 0, 0] (Trc.pure rfl rfl rfl (.inl fun _ => s_mv (v := .sl v2) rfl) (Trc.pure rfl rfl rfl (.inl fun _ => s_lenS rfl Tryz.underlying25 rfl) (Trc.pure rfl rfl rfl (.inl fun _ => s_gtr rfl rfl) (Trc.pure rfl rfl rfl (.inl fun _ => s_mv (v := .bool (decide (0 < (v2.len : Int)))) rfl) (Trc.know 19 rfl (dec_true h1) (Trc.pure rfl rfl rfl (.inl fun _ => s_mv (v := .sl v3) rfl) (Trc.pure rfl rfl rfl (.inl fun _ => s_lenS rfl Tryz.underlying25 rfl) (Trc.pure rfl rfl rfl (.inl fun _ => s_gtr rfl rfl) (Trc.pure rfl rfl rfl (.inl fun _ => s_pickT (v := .bool (decide (0 < (v3.len : Int)))) rfl rfl) (Trc.pure rfl rfl rfl (.inl fun _ => s_mv (v := .bool (decide (0 < (v3.len : Int)))) rfl) (Trc.know 24 rfl (dec_false h2) (Trc.no rfl rfl rfl (Trc.no rfl rfl rfl (Trc.no rfl rfl rfl (Trc.no rfl rfl rfl (Trc.no rfl rfl rfl (Trc.no rfl rfl rfl (Trc.no rfl rfl rfl (Trc.pure rfl rfl rfl (.inl fun _ => s_pickF (v := .bool false) rfl rfl) (Trc.nil (fun _ => trivial))))))))))))))))))))) rfl (by decide +kernel) mixed ?_
        refine f_keep [6, 8, 9, 32] ?_
        exact s127_j1 _ (fun v1_ v2_ v3_ H_ => ih v1_ v2_ v3_ H_) v1 v2 v3 false H
    · skip
      refine f_draw (Φ := fun _ => True) (lim := 1000000) [0, 0, 0, 0, 0, 0, 0, 0, 0, 0, 0, 0, 0, 0, 0, 0, 0] (Trc.pure rfl rfl rfl (.inl fun _ => s_mv (v := .sl v2) rfl) (Trc.pure rfl rfl rfl (.inl fun _ => s_lenS rfl Tryz.underlying25 rfl) (Trc.pure rfl rfl rfl (.inl fun _ => s_gtr rfl rfl) (Trc.pure rfl rfl rfl (.inl fun _ => s_mv (v := .bool (decide (0 < (v2.len : Int)))) rfl) (Trc.know 19 rfl (dec_false h1) (Trc.no rfl rfl rfl (Trc.no rfl rfl rfl (Trc.no rfl rfl rfl (Trc.pure rfl rfl rfl (.inl fun _ => s_pickF (v := .bool false) rfl rfl) (Trc.pure rfl rfl rfl (.inl fun _ => s_mv (v := .bool false) rfl) (Trc.no rfl rfl rfl (Trc.no rfl rfl rfl (Trc.no rfl rfl rfl (Trc.no rfl rfl rfl (Trc.no rfl rfl rfl (Trc.no rfl rfl rfl (Trc.no rfl rfl rfl (Trc.pure rfl rfl rfl (.inl fun _ => s_pickF (v := .bool false) rfl rfl) (Trc.nil (fun _ => trivial)))))))))))))))))))) rfl (by decide +kernel) mixed ?_
      refine f_keep [6, 8, 9, 32] ?_
      exact s127_j1 _ (fun v1_ v2_ v3_ H_ => ih v1_ v2_ v3_ H_) v1 v2 v3 false H

theorem sim127 {a0b : Nat} {a0o : Nat} {a1 : Int} {a2 : Int} {H : Hp} {p : (Int × Sl) × Hp} (h : r127 a0b a0o a1 a2 H = some p) : CallSim Tryz.prog 127 [.ptr a0b a0o, .int .i64 a1, .int .i64 a2] H (.tup [.int .i64 p.1.1, .sl p.1.2]) p.2 := by
  refine callSim (fn := Tryz.f127) (ret := ret127) Tryz.func127 rfl Tryz.ntmps127 rfl ?_ h
  unfold r127
  refine f_seq ?_
  refine f_region ?_
  refine f_op rfl rfl (s_as (v := .int .i64 0) rfl) ?_
  refine f_op rfl rfl (s_as (v := .sl ⟨true, 0, 0, 0, 0, 0⟩) rfl) ?_
  refine f_nil ?_
  refine f_seq ?_
  refine f_region ?_
  refine f_op rfl rfl (s_mv (v := .ptr a0b a0o) rfl) ?_
  refine f_op rfl rfl (s_mv (v := .int .i64 a1) rfl) ?_
  refine o_bind ?_; intro p1 hp1
  refine f_op rfl rfl (s_callF rfl ok81 (sim81 hp1)) ?_
  refine f_op rfl rfl (s_mv (v := .ptr a0b a0o) rfl) ?_
  refine f_op rfl rfl (s_mv (v := .int .i64 a2) rfl) ?_
  refine o_bind ?_; intro p2 hp2
  refine f_op rfl rfl (s_callF rfl ok81 (sim81 hp2)) ?_
  refine f_op rfl rfl (s_as (v := .sl p1.1) rfl) ?_
  refine f_op rfl rfl (s_as (v := .sl p2.1) rfl) ?_
  refine f_nil ?_
  refine f_seq ?_
  refine f_block ?_
  refine f_loop ?_
  refine f_keep [6, 8, 9] ?_
  exact s127_l0 FUEL 0 p1.1 p2.1 p2.2

/- 76 (*congou/chest.Chest).Move -/
theorem ok76 : FnOk Tryz.prog 76 := ⟨⟨Tryz.f76, Tryz.func76, by kernel_rfl, rfl⟩⟩
theorem s76_l0 {app : App} (happ : AppSim Tryz.prog app) : ∀ (k_ : Nat) (v1 : Nat) (v2 : Nat) (v3 : Int) (v4 : Sl) (v5 : Int) (v6 : Int) (H : Hp), Fin Tryz.prog Tryz.f76 ret76 57 (todoAt (bodyOf Tryz.f76) [1, 1, 1, 1, 0, 1, 0, 0] []) [(0, .ptr v1 v2), (8, .int .i64 v3), (32, .sl v4), (33, .int .i64 v5), (34, .int .i64 v6)] H (r76_l0 app k_ v1 v2 v3 v4 v5 v6 H) := by
  intro k_
  induction k_ with
  | zero => intro _ _ _ _ _ _ _; exact f_none
  | succ k_ ih =>
    intro v1 v2 v3 v4 v5 v6 H
    rw [r76_l0]
    refine f_seq ?_
    refine f_region ?_
    refine f_op rfl rfl (s_lss rfl rfl) ?_
    refine f_nil ?_
    refine f_seq ?_
    refine f_if (fun h1 => ?_) (fun h1 => ?_)
    · skip
      refine f_know 35 rfl (dec_true h1) ?_
      refine f_condT rfl ?_
      refine f_skip ?_
      refine f_seq ?_
      refine f_block ?_
      refine f_seq ?_
      refine f_region ?_
      refine o_ck fun g2 => ?_
      refine f_op rfl rfl (s_idx Tryz.underlying25 ty3 rfl rfl g2) ?_
      refine o_bind ?_; intro x3 hx3
      refine f_op rfl rfl (s_load Tryz.underlying3 rfl rfl (ldI_eq hx3)) ?_
      refine f_op rfl rfl (s_as (v := .int .i64 x3) rfl) ?_
      refine f_nil ?_
      refine f_seq ?_
      refine f_region ?_
      refine f_op rfl rfl (s_mv (v := .ptr v1 v2) rfl) ?_
      refine f_op rfl rfl (s_mv (v := .ptr v1 v2) rfl) ?_
      refine f_op rfl rfl (s_nilCheck rfl) ?_
      refine f_op rfl rfl (s_fieldAddr Tryz.underlying118 rfl ty116 rfl) ?_
      refine o_bind ?_; intro x4 hx4
      refine f_op rfl rfl (s_load Tryz.underlying116 rfl rfl (ldSl_eq hx4)) ?_
      refine f_op rfl rfl (s_mv (v := .int .i64 x3) rfl) ?_
      refine o_ck fun g5 => ?_
      refine f_op rfl rfl (s_idx Tryz.underlying116 ty120 rfl rfl g5) ?_
      refine f_op rfl rfl (s_fieldAddr Tryz.underlying120 rfl ty9 rfl) ?_
      refine o_bind ?_; intro x6 hx6
      refine f_op rfl rfl (s_load Tryz.underlying9 rfl rfl (ldStr_eq hx6)) ?_
      refine o_bind ?_; intro p7 hp7
      refine f_op rfl rfl (s_callF rfl ok20 (sim20 happ hp7)) ?_
      refine f_op rfl rfl (s_mv (v := .tup [.str p7.1.1, .int .i64 p7.1.2]) rfl) ?_
      refine f_op rfl rfl (s_extract (r := .str p7.1.1) rfl rfl) ?_
      refine f_op rfl rfl (s_extract (r := .int .i64 p7.1.2) rfl rfl) ?_
      refine f_op rfl rfl (s_as (v := .str p7.1.1) rfl) ?_
      refine f_op rfl rfl (s_as (v := .int .i64 p7.1.2) rfl) ?_
      refine f_nil ?_
      refine f_seq ?_
      refine f_region ?_
      refine f_op rfl rfl (s_mv (v := .int .i64 p7.1.2) rfl) ?_
      refine f_op rfl rfl (s_eql rfl rfl) ?_
      refine f_nil ?_
      refine f_if (fun h8 => ?_) (fun h8 => ?_)
      · skip
        refine f_know 52 rfl (dec_true h8) ?_
        refine f_condT rfl ?_
        refine f_region ?_
        refine f_op rfl rfl (s_mv (v := .int .i64 v3) rfl) ?_
        refine f_op rfl rfl (s_add rfl rfl) ?_
        refine f_op rfl rfl (s_as (v := .int .i64 (w64 (v3 + 1))) rfl) ?_
        refine f_nil ?_
        refine f_inBlock ?_
        refine f_region ?_
        refine f_op rfl rfl (s_add rfl rfl) ?_
        refine f_op rfl rfl (s_mv (v := .int .i64 (w64 (v6 + 1))) rfl) ?_
        refine f_nil ?_
        refine f_inLoop ?_
        refine f_keep [0, 8, 32, 33, 34] ?_
        exact ih v1 v2 (w64 (v3 + 1)) v4 v5 (w64 (v6 + 1)) p7.2
      · skip
        refine f_know 52 rfl (dec_false h8) ?_
        refine f_condF rfl ?_
        refine f_skip ?_
        refine f_inBlock ?_
        refine f_region ?_
        refine f_op rfl rfl (s_add rfl rfl) ?_
        refine f_op rfl rfl (s_mv (v := .int .i64 (w64 (v6 + 1))) rfl) ?_
        refine f_nil ?_
        refine f_inLoop ?_
        refine f_keep [0, 8, 32, 33, 34] ?_
        exact ih v1 v2 v3 v4 v5 (w64 (v6 + 1)) p7.2
    · skip
      refine f_know 35 rfl (dec_false h1) ?_
      refine f_condF rfl ?_
      refine f_exit rfl ?_
      refine f_seq ?_
      refine f_region ?_
      refine f_op rfl rfl (s_mv (v := .int .i64 v3) rfl) ?_
      refine f_op rfl rfl (s_as (v := .int .i64 v3) rfl) ?_
      refine f_op rfl rfl (s_as (v := .int .i64 0) rfl) ?_
      refine f_nil ?_
      exact f_ret (.tmp rfl (.tmp rfl (.nil))) rfl

theorem sim76 {app : App} (happ : AppSim Tryz.prog app) {a0b : Nat} {a0o : Nat} {a1 : Int} {H : Hp} {p : (Int × Int) × Hp} (h : r76 app a0b a0o a1 H = some p) : CallSim Tryz.prog 76 [.ptr a0b a0o, .int .i64 a1] H (.tup [.int .i64 p.1.1, .int .i64 p.1.2]) p.2 := by
  refine callSim (fn := Tryz.f76) (ret := ret76) Tryz.func76 rfl Tryz.ntmps76 rfl ?_ h
  unfold r76
  refine f_seq ?_
  refine f_region ?_
  refine f_op rfl rfl (s_as (v := .int .i64 0) rfl) ?_
  refine f_op rfl rfl (s_as (v := .int .i64 0) rfl) ?_
  refine f_nil ?_
  refine f_seq ?_
  refine f_block ?_
  refine f_seq ?_
  refine f_region ?_
  refine f_op rfl rfl (s_mv (v := .ptr a0b a0o) rfl) ?_
  refine o_bind ?_; intro p1 hp1
  refine f_op rfl rfl (s_callF rfl ok60 (sim60 hp1)) ?_
  refine f_op rfl rfl (s_as (v := .bool p1.1) rfl) ?_
  refine f_nil ?_
  refine f_if (fun h2 => ?_) (fun h2 => ?_)
  · skip
    refine f_know 13 rfl (bool_T h2) ?_
    refine f_condT rfl ?_
    refine f_seq ?_
    refine f_region ?_
    refine f_op rfl rfl (s_as (v := .int .i64 0) rfl) ?_
    refine f_op rfl rfl (s_as (v := .int .i64 1) rfl) ?_
    refine f_nil ?_
    exact f_ret (.tmp rfl (.tmp rfl (.nil))) rfl
  · skip
    refine f_know 13 rfl (bool_F h2) ?_
    refine f_condF rfl ?_
    refine f_seq ?_
    refine f_region ?_
    refine f_op rfl rfl (s_mv (v := .ptr a0b a0o) rfl) ?_
    refine f_op rfl rfl (s_mv (v := .int .i64 a1) rfl) ?_
    refine f_op rfl rfl (s_buildSlice (cs := [.int .i64 a1]) Tryz.underlying25 ty3 (by decide) (by decide) rfl (by decide) rfl) ?_
    refine o_bind ?_; intro p3 hp3
    refine f_op rfl rfl (s_callF rfl ok79 (sim79 happ hp3)) ?_
    refine f_op rfl rfl (s_not rfl) ?_
    refine f_op rfl rfl (s_as (v := .bool (!p3.1)) rfl) ?_
    refine f_nil ?_
    refine f_if (fun h4 => ?_) (fun h4 => ?_)
    · skip
      refine f_know 16 rfl (bool_notT h4) ?_
      refine f_condF rfl ?_
      refine f_skip ?_
      refine f_inBlock ?_
      refine f_seq ?_
      refine f_region ?_
      refine f_op rfl rfl (s_mv (v := .ptr a0b a0o) rfl) ?_
      refine f_op rfl rfl (s_mv (v := .ptr a0b a0o) rfl) ?_
      refine f_op rfl rfl (s_nilCheck rfl) ?_
      refine f_op rfl rfl (s_fieldAddr Tryz.underlying118 rfl ty3 rfl) ?_
      refine o_bind ?_; intro x5 hx5
      refine f_op rfl rfl (s_load Tryz.underlying3 rfl rfl (ldI_eq hx5)) ?_
      refine f_op rfl rfl (s_mv (v := .int .i64 a1) rfl) ?_
      refine o_bind ?_; intro p6 hp6
      refine f_op rfl rfl (s_callF rfl ok127 (sim127 hp6)) ?_
      refine f_op rfl rfl (s_mv (v := .tup [.int .i64 p6.1.1, .sl p6.1.2]) rfl) ?_
      refine f_op rfl rfl (s_extract (r := .int .i64 p6.1.1) rfl rfl) ?_
      refine f_op rfl rfl (s_extract (r := .sl p6.1.2) rfl rfl) ?_
      refine f_op rfl rfl (s_as (v := .int .i64 p6.1.1) rfl) ?_
      refine f_op rfl rfl (s_as (v := .sl p6.1.2) rfl) ?_
      refine f_nil ?_
      refine f_seq ?_
      refine f_region ?_
      refine f_op rfl rfl (s_as (v := .int .i64 0) rfl) ?_
      refine f_nil ?_
      refine f_seq ?_
      refine f_seq ?_
      refine f_region ?_
      refine f_op rfl rfl (s_mv (v := .sl p6.1.2) rfl) ?_
      refine f_op rfl rfl (s_lenS rfl Tryz.underlying25 rfl) ?_
      refine f_op rfl rfl (s_mv (v := .int .i64 0) rfl) ?_
      refine f_nil ?_
      refine f_block ?_
      refine f_loop ?_
      refine f_keep [0, 8, 32, 33, 34] ?_
      exact s76_l0 happ FUEL a0b a0o 0 p6.1.2 (p6.1.2.len : Int) 0 p6.2
    · skip
      refine f_know 16 rfl (bool_notF h4) ?_
      refine f_condT rfl ?_
      refine f_seq ?_
      refine f_region ?_
      refine f_op rfl rfl (s_as (v := .int .i64 0) rfl) ?_
      refine f_op rfl rfl (s_as (v := .int .i64 2) rfl) ?_
      refine f_nil ?_
      exact f_ret (.tmp rfl (.tmp rfl (.nil))) rfl

/- 30 congou/congoulaw10.played -/
theorem ok30 : FnOk Tryz.prog 30 := ⟨⟨Tryz.f30, Tryz.func30, by kernel_rfl, rfl⟩⟩
theorem s30_l0 {app : App} (happ : AppSim Tryz.prog app) : ∀ (k_ : Nat) (v1 : Nat) (v2 : Nat) (v3 : Sl) (v4 : Int) (v5 : Int) (H : Hp), Fin Tryz.prog Tryz.f30 ret30 45 (todoAt (bodyOf Tryz.f30) [1, 1, 0, 1, 0, 0] []) [(3, .ptr v1 v2), (11, .sl v3), (12, .int .i64 v4), (13, .int .i64 v5)] H (r30_l0 app k_ v1 v2 v3 v4 v5 H) := by
  intro k_
  induction k_ with
  | zero => intro _ _ _ _ _ _; exact f_none
  | succ k_ ih =>
    intro v1 v2 v3 v4 v5 H
    rw [r30_l0]
    refine f_seq ?_
    refine f_region ?_
    refine f_op rfl rfl (s_lss rfl rfl) ?_
    refine f_nil ?_
    refine f_seq ?_
    refine f_if (fun h1 => ?_) (fun h1 => ?_)
    · skip
      refine f_know 14 rfl (dec_true h1) ?_
      refine f_condT rfl ?_
      refine f_skip ?_
      refine f_seq ?_
      refine f_block ?_
      refine f_seq ?_
      refine f_region ?_
      refine o_ck fun g2 => ?_
      refine f_op rfl rfl (s_idx Tryz.underlying67 ty133 rfl rfl g2) ?_
      refine o_bind ?_; intro x3 hx3
      refine o_bind ?_; intro x4 hx4
      refine o_bind ?_; intro x5 hx5
      refine o_bind ?_; intro x6 hx6
      refine f_op rfl rfl (s_loads Tryz.underlying133 rfl ty133 rfl (lds_cons (ldI_eq hx3) (lds_cons (ldI_eq hx4) (lds_cons (ldI_eq hx5) (lds_cons (ldStr_eq hx6) (lds_nil)))))) ?_
      refine f_op rfl rfl (s_alloc (zs := [.int .i64 0, .int .i64 0, .int .i64 0, .str (ByteArray.mk #[])]) ty133 rfl rfl) ?_
      refine o_bind ?_; intro H7 hH7
      refine f_op rfl rfl (s_stores ty133 rfl rfl rfl rfl hH7 (Nat.le_of_eq (sts_mono hH7).symm)) ?_
      refine f_nil ?_
      refine f_seq ?_
      refine f_region ?_
      refine f_op rfl rfl (s_fieldAddr Tryz.underlying133 rfl ty3 rfl) ?_
      refine o_bind ?_; intro x8 hx8
      refine f_op rfl rfl (s_load Tryz.underlying3 rfl rfl (ldI_eq hx8)) ?_
      refine f_nil ?_
      refine f_block ?_
      refine f_seq ?_
      refine f_region ?_
      refine f_op rfl rfl (s_eql rfl rfl) ?_
      refine f_op rfl rfl (s_as (v := .bool (decide (x8 = 0))) rfl) ?_
      refine f_nil ?_
      refine f_if (fun h9 => ?_) (fun h9 => ?_)
      · skip
        refine f_know 19 rfl (dec_true h9) ?_
        refine f_condT rfl ?_
        refine f_region ?_
        refine f_op rfl rfl (s_mv (v := .ptr v1 v2) rfl) ?_
        refine f_op rfl rfl (s_fieldAddr Tryz.underlying133 rfl ty9 rfl) ?_
        refine o_bind ?_; intro x10 hx10
        refine f_op rfl rfl (s_load Tryz.underlying9 rfl rfl (ldStr_eq hx10)) ?_
        refine o_bind ?_; intro p11 hp11
        refine f_op rfl rfl (s_callF rfl ok20 (sim20 happ hp11)) ?_
        refine f_nil ?_
        refine f_inBlock ?_
        refine f_inBlock ?_
        refine f_region ?_
        refine f_op rfl rfl (s_add rfl rfl) ?_
        refine f_op rfl rfl (s_mv (v := .int .i64 (w64 (v5 + 1))) rfl) ?_
        refine f_nil ?_
        refine f_inLoop ?_
        refine f_keep [3, 11, 12, 13] ?_
        exact ih v1 v2 v3 v4 (w64 (v5 + 1)) p11.2
      · skip
        refine f_know 19 rfl (dec_false h9) ?_
        refine f_condF rfl ?_
        refine f_seq ?_
        refine f_region ?_
        refine f_op rfl rfl (s_eql rfl rfl) ?_
        refine f_op rfl rfl (s_as (v := .bool (decide (x8 = 2))) rfl) ?_
        refine f_nil ?_
        refine f_if (fun h12 => ?_) (fun h12 => ?_)
        · skip
          refine f_know 25 rfl (dec_true h12) ?_
          refine f_condT rfl ?_
          refine f_region ?_
          refine f_op rfl rfl (s_mv (v := .ptr v1 v2) rfl) ?_
          refine f_op rfl rfl (s_fieldAddr Tryz.underlying133 rfl ty3 rfl) ?_
          refine o_bind ?_; intro x13 hx13
          refine f_op rfl rfl (s_load Tryz.underlying3 rfl rfl (ldI_eq hx13)) ?_
          refine o_bind ?_; intro p14 hp14
          refine f_op rfl rfl (s_callF rfl ok40 (sim40 happ hp14)) ?_
          refine f_nil ?_
          refine f_inBlock ?_
          refine f_inBlock ?_
          refine f_region ?_
          refine f_op rfl rfl (s_add rfl rfl) ?_
          refine f_op rfl rfl (s_mv (v := .int .i64 (w64 (v5 + 1))) rfl) ?_
          refine f_nil ?_
          refine f_inLoop ?_
          refine f_keep [3, 11, 12, 13] ?_
          exact ih v1 v2 v3 v4 (w64 (v5 + 1)) p14.2
        · skip
          refine f_know 25 rfl (dec_false h12) ?_
          refine f_condF rfl ?_
          refine f_seq ?_
          refine f_region ?_
          refine f_op rfl rfl (s_eql rfl rfl) ?_
          refine f_op rfl rfl (s_as (v := .bool (decide (x8 = 3))) rfl) ?_
          refine f_nil ?_
          refine f_if (fun h15 => ?_) (fun h15 => ?_)
          · skip
            refine f_know 31 rfl (dec_true h15) ?_
            refine f_condT rfl ?_
            refine f_region ?_
            refine f_op rfl rfl (s_mv (v := .ptr v1 v2) rfl) ?_
            refine f_op rfl rfl (s_fieldAddr Tryz.underlying133 rfl ty3 rfl) ?_
            refine o_bind ?_; intro x16 hx16
            refine f_op rfl rfl (s_load Tryz.underlying3 rfl rfl (ldI_eq hx16)) ?_
            refine o_bind ?_; intro p17 hp17
            refine f_op rfl rfl (s_callF rfl ok75 (sim75 hp17)) ?_
            refine f_nil ?_
            refine f_inBlock ?_
            refine f_inBlock ?_
            refine f_region ?_
            refine f_op rfl rfl (s_add rfl rfl) ?_
            refine f_op rfl rfl (s_mv (v := .int .i64 (w64 (v5 + 1))) rfl) ?_
            refine f_nil ?_
            refine f_inLoop ?_
            refine f_keep [3, 11, 12, 13] ?_
            exact ih v1 v2 v3 v4 (w64 (v5 + 1)) p17.2
          · skip
            refine f_know 31 rfl (dec_false h15) ?_
            refine f_condF rfl ?_
            refine f_seq ?_
            refine f_region ?_
            refine f_op rfl rfl (s_eql rfl rfl) ?_
            refine f_op rfl rfl (s_as (v := .bool (decide (x8 = 5))) rfl) ?_
            refine f_nil ?_
            refine f_if (fun h18 => ?_) (fun h18 => ?_)
            · skip
              refine f_know 37 rfl (dec_true h18) ?_
              refine f_condT rfl ?_
              refine f_region ?_
              refine f_op rfl rfl (s_mv (v := .ptr v1 v2) rfl) ?_
              refine f_op rfl rfl (s_fieldAddr Tryz.underlying133 rfl ty3 rfl) ?_
              refine o_bind ?_; intro x19 hx19
              refine f_op rfl rfl (s_load Tryz.underlying3 rfl rfl (ldI_eq hx19)) ?_
              refine o_bind ?_; intro p20 hp20
              refine f_op rfl rfl (s_callF rfl ok76 (sim76 happ hp20)) ?_
              refine f_nil ?_
              refine f_inBlock ?_
              refine f_inBlock ?_
              refine f_region ?_
              refine f_op rfl rfl (s_add rfl rfl) ?_
              refine f_op rfl rfl (s_mv (v := .int .i64 (w64 (v5 + 1))) rfl) ?_
              refine f_nil ?_
              refine f_inLoop ?_
              refine f_keep [3, 11, 12, 13] ?_
              exact ih v1 v2 v3 v4 (w64 (v5 + 1)) p20.2
            · skip
              refine f_know 37 rfl (dec_false h18) ?_
              refine f_condF rfl ?_
              refine f_skip ?_
              refine f_inBlock ?_
              refine f_inBlock ?_
              refine f_region ?_
              refine f_op rfl rfl (s_add rfl rfl) ?_
              refine f_op rfl rfl (s_mv (v := .int .i64 (w64 (v5 + 1))) rfl) ?_
              refine f_nil ?_
              refine f_inLoop ?_
              refine f_keep [3, 11, 12, 13] ?_
              exact ih v1 v2 v3 v4 (w64 (v5 + 1)) H7
    · skip
      refine f_know 14 rfl (dec_false h1) ?_
      refine f_condF rfl ?_
      refine f_exit rfl ?_
      refine f_seq ?_
      refine f_region ?_
      refine f_op rfl rfl (s_mv (v := .ptr v1 v2) rfl) ?_
      refine f_op rfl rfl (s_as (v := .ptr v1 v2) rfl) ?_
      refine f_nil ?_
      exact f_ret (.tmp rfl (.nil)) rfl

theorem sim30 {app : App} (happ : AppSim Tryz.prog app) {a0 : Sl} {H : Hp} {p : (Nat × Nat) × Hp} (h : r30 app a0 H = some p) : CallSim Tryz.prog 30 [.sl a0] H (.ptr p.1.1 p.1.2) p.2 := by
  refine callSim (fn := Tryz.f30) (ret := ret30) Tryz.func30 rfl Tryz.ntmps30 rfl ?_ h
  unfold r30
  refine f_seq ?_
  refine f_region ?_
  refine f_op rfl rfl (s_as (v := .nilptr) rfl) ?_
  refine f_nil ?_
  refine f_seq ?_
  refine f_region ?_
  refine o_bind ?_; intro p1 hp1
  refine f_op rfl rfl (s_callF rfl ok47 (sim47 hp1)) ?_
  refine f_op rfl rfl (s_as (v := .ptr p1.1.1 p1.1.2) rfl) ?_
  refine f_nil ?_
  refine f_seq ?_
  refine f_seq ?_
  refine f_region ?_
  refine f_op rfl rfl (s_mv (v := .sl a0) rfl) ?_
  refine f_op rfl rfl (s_mv (v := .sl a0) rfl) ?_
  refine f_op rfl rfl (s_lenS rfl Tryz.underlying67 rfl) ?_
  refine f_op rfl rfl (s_min2 rfl rfl) ?_
  refine o_ck fun g2 => ?_
  refine f_op rfl rfl (s_slice Tryz.underlying67 ty133 rfl rfl rfl g2.1 g2.2) ?_
  refine f_op rfl rfl (s_lenS rfl Tryz.underlying67 rfl) ?_
  refine f_op rfl rfl (s_mv (v := .int .i64 0) rfl) ?_
  refine f_nil ?_
  refine f_block ?_
  refine f_loop ?_
  refine f_keep [3, 11, 12, 13] ?_
  exact s30_l0 happ FUEL p1.1.1 p1.1.2 (a0.cut 4 (0 : Int).toNat ((if 60 < (a0.len : Int) then 60 else (a0.len : Int)) : Int).toNat) ((a0.cut 4 (0 : Int).toNat ((if 60 < (a0.len : Int) then 60 else (a0.len : Int)) : Int).toNat).len : Int) 0 p1.2

/- 62 (*congou/chest.state).ask -/
theorem ok62 : FnOk Tryz.prog 62 := ⟨⟨Tryz.f62, Tryz.func62, by kernel_rfl, rfl⟩⟩
theorem s62_j0 {app : App} (happ : AppSim Tryz.prog app) (v1 : ByteArray) (v2 : ByteArray) (v3 : ByteArray) (v4 : AV) (H : Hp) : Fin Tryz.prog Tryz.f62 ret62 74 (todoAt (bodyOf Tryz.f62) [1, 1, 1, 1] []) [(1, .str v1), (6, .str v2), (9, .str v3), (10, v4)] H (r62_j0 app v1 v2 v3 v4 H) := by
  unfold r62_j0
  refine f_seq ?_
  refine f_region ?_
  refine f_op rfl rfl (s_mv (v := .str v3) rfl) ?_
  refine f_op rfl rfl (s_mv (v := .str v1) rfl) ?_
  refine o_bind ?_; intro p1 hp1
  refine f_op rfl rfl (s_callF rfl ok108 (sim108 happ hp1)) ?_
  refine f_op rfl rfl (s_mv (v := .tup [.agg [.sl p1.1.1, .sl p1.1.2.1], .bool p1.1.2.2]) rfl) ?_
  refine f_op rfl rfl (s_extract (r := .agg [.sl p1.1.1, .sl p1.1.2.1]) rfl rfl) ?_
  refine f_op rfl rfl (s_extract (r := .bool p1.1.2.2) rfl rfl) ?_
  refine f_op rfl rfl (s_alloc (zs := [.sl ⟨true, 0, 0, 0, 0, 0⟩, .sl ⟨true, 0, 0, 0, 0, 0⟩]) ty167 rfl rfl) ?_
  refine o_bind ?_; intro H2 hH2
  refine f_op rfl rfl (s_stores ty167 rfl rfl rfl rfl hH2 (Nat.le_of_eq (sts_mono hH2).symm)) ?_
  refine f_op rfl rfl (s_as (v := .bool p1.1.2.2) rfl) ?_
  refine f_nil ?_
  refine f_seq ?_
  refine f_seq ?_
  refine f_region ?_
  refine f_op rfl rfl (s_mv (v := .bool p1.1.2.2) rfl) ?_
  refine f_op rfl rfl (s_not rfl) ?_
  refine f_nil ?_
  refine f_if (fun h3 => ?_) (fun h3 => ?_)
  · skip
    refine f_know 59 rfl (bool_notT h3) ?_
    refine f_condF rfl ?_
    refine f_skip ?_
    refine f_seq ?_
    refine f_region ?_
    refine f_op rfl rfl (s_mv (v := v4) rfl) ?_
    refine o_bind ?_; intro x4 hx4
    refine o_bind ?_; intro x5 hx5
    refine f_op rfl rfl (s_loads Tryz.underlying167 rfl ty167 rfl (lds_cons (ldSl_eq hx4) (lds_cons (ldSl_eq hx5) (lds_nil)))) ?_
    refine o_bind ?_; intro p6 hp6
    refine o_bind ?_; intro x7 hx7
    refine o_ck fun g8 => ?_
    refine o_bind ?_; intro x9 hx9
    refine o_bind ?_; intro x10 hx10
    refine o_bind ?_; intro x11 hx11
    refine o_bind ?_; intro x12 hx12
    refine f_op rfl rfl (s_callv happ rfl rfl hp6) ?_
    refine o_know 63 rfl (tupOf2 hx7 g8 (gete hx9 (asSl_eq hx10)) (gete hx11 (asI_eq hx12))) ?_
    refine f_op rfl rfl (s_mv (v := .tup [.sl x10, .int .i64 x12]) rfl) ?_
    refine f_op rfl rfl (s_extract (r := .sl x10) rfl rfl) ?_
    refine f_op rfl rfl (s_extract (r := .int .i64 x12) rfl rfl) ?_
    refine f_op rfl rfl (s_as (v := .sl x10) rfl) ?_
    refine f_op rfl rfl (s_as (v := .int .i64 x12) rfl) ?_
    refine f_nil ?_
    refine f_seq ?_
    refine f_seq ?_
    refine f_region ?_
    refine f_op rfl rfl (s_mv (v := .int .i64 x12) rfl) ?_
    refine f_op rfl rfl (s_neq rfl rfl) ?_
    refine f_nil ?_
    refine f_if (fun h13 => ?_) (fun h13 => ?_)
    · skip
      refine f_know 67 rfl (dec_true h13) ?_
      refine f_condT rfl ?_
      refine f_seq ?_
      refine f_region ?_
      refine f_op rfl rfl (s_mv (v := .int .i64 x12) rfl) ?_
      refine f_op rfl rfl (s_as (v := .str (ByteArray.mk #[])) rfl) ?_
      refine f_op rfl rfl (s_as (v := .int .i64 x12) rfl) ?_
      refine f_nil ?_
      exact f_ret (.tmp rfl (.tmp rfl (.nil))) rfl
    · skip
      refine f_know 67 rfl (dec_false h13) ?_
      refine f_condF rfl ?_
      refine f_skip ?_
      refine f_seq ?_
      refine f_region ?_
      refine f_op rfl rfl (s_mv (v := .str v2) rfl) ?_
      refine f_op rfl rfl (s_buildSlice (cs := [.str v2]) Tryz.underlying22 ty9 (by decide) (by decide) rfl (by decide) rfl) ?_
      refine f_op rfl rfl (s_mv (v := .sl x10) rfl) ?_
      refine o_bind ?_; intro x14 hx14
      refine o_ck fun g15 => ?_
      refine o_bind ?_; intro x16 hx16
      refine f_op rfl rfl (s_append rfl rfl Tryz.underlying22 Tryz.underlying22 ty9 (by decide) rfl (by decide) rfl rfl hx14 g15 hx16) ?_
      refine o_bind ?_; intro p17 hp17
      refine o_bind ?_; intro x18 hx18
      refine f_op rfl rfl (s_callA happ rfl hp17) ?_
      refine o_know 73 rfl (asStr_eq hx18) ?_
      refine f_op rfl rfl (s_as (v := .str x18) rfl) ?_
      refine f_op rfl rfl (s_as (v := .int .i64 0) rfl) ?_
      refine f_nil ?_
      exact f_ret (.tmp rfl (.tmp rfl (.nil))) rfl
  · skip
    refine f_know 59 rfl (bool_notF h3) ?_
    refine f_condT rfl ?_
    refine f_seq ?_
    refine f_region ?_
    refine f_op rfl rfl (s_as (v := .str (ByteArray.mk #[])) rfl) ?_
    refine f_op rfl rfl (s_as (v := .int .i64 3) rfl) ?_
    refine f_nil ?_
    exact f_ret (.tmp rfl (.tmp rfl (.nil))) rfl

theorem sim62 {app : App} (happ : AppSim Tryz.prog app) {a0b : Nat} {a0o : Nat} {a1 : ByteArray} {H : Hp} {p : (ByteArray × Int) × Hp} (h : r62 app a0b a0o a1 H = some p) : CallSim Tryz.prog 62 [.ptr a0b a0o, .str a1] H (.tup [.str p.1.1, .int .i64 p.1.2]) p.2 := by
  refine callSim (fn := Tryz.f62) (ret := ret62) Tryz.func62 rfl Tryz.ntmps62 rfl ?_ h
  unfold r62
  refine f_seq ?_
  refine f_region ?_
  refine f_op rfl rfl (s_as (v := .str (ByteArray.mk #[])) rfl) ?_
  refine f_op rfl rfl (s_as (v := .int .i64 0) rfl) ?_
  refine f_nil ?_
  refine f_seq ?_
  refine f_region ?_
  refine f_op rfl rfl (s_mv (v := .str a1) rfl) ?_
  refine o_bind ?_; intro p1 hp1
  refine f_op rfl rfl (s_callF rfl ok97 (sim97 hp1)) ?_
  refine f_op rfl rfl (s_mv (v := .tup [.str p1.1.1, .str p1.1.2.1, .bool p1.1.2.2]) rfl) ?_
  refine f_op rfl rfl (s_extract (r := .str p1.1.1) rfl rfl) ?_
  refine f_op rfl rfl (s_extract (r := .str p1.1.2.1) rfl rfl) ?_
  refine f_op rfl rfl (s_extract (r := .bool p1.1.2.2) rfl rfl) ?_
  refine f_op rfl rfl (s_as (v := .str p1.1.1) rfl) ?_
  refine f_op rfl rfl (s_as (v := .str p1.1.2.1) rfl) ?_
  refine f_op rfl rfl (s_as (v := .bool p1.1.2.2) rfl) ?_
  refine f_nil ?_
  refine f_seq ?_
  refine f_region ?_
  refine f_op rfl rfl (s_mv (v := .ptr a0b a0o) rfl) ?_
  refine f_op rfl rfl (s_makeFunc rfl rfl) ?_
  refine f_op rfl rfl (s_as (v := .str (ByteArray.mk #[])) rfl) ?_
  refine f_op rfl rfl (s_as (v := .fn 98 [.ptr a0b a0o] []) rfl) ?_
  refine f_nil ?_
  refine f_seq ?_
  refine f_seq ?_
  refine f_region ?_
  refine f_op rfl rfl (s_mv (v := .str p1.1.1) rfl) ?_
  refine f_nil ?_
  refine f_block ?_
  refine f_seq ?_
  refine f_region ?_
  refine f_op rfl rfl (s_eqStr rfl rfl) ?_
  refine f_op rfl rfl (s_as (v := .bool (strEq p1.1.1 (ByteArray.mk #[103, 97, 112]))) rfl) ?_
  refine f_nil ?_
  refine f_if (fun h2 => ?_) (fun h2 => ?_)
  · skip
    refine f_know 24 rfl (bool_T h2) ?_
    refine f_condT rfl ?_
    refine f_skip ?_
    refine f_inBlock ?_
    refine f_keep [1, 6, 9, 10] ?_
    exact s62_j0 happ a1 p1.1.1 (ByteArray.mk #[]) (.fn 98 [.ptr a0b a0o] []) p1.2
  · skip
    refine f_know 24 rfl (bool_F h2) ?_
    refine f_condF rfl ?_
    refine f_seq ?_
    refine f_region ?_
    refine f_op rfl rfl (s_eqStr rfl rfl) ?_
    refine f_op rfl rfl (s_as (v := .bool (strEq p1.1.1 (ByteArray.mk #[104, 101, 97, 118, 121]))) rfl) ?_
    refine f_nil ?_
    refine f_if (fun h3 => ?_) (fun h3 => ?_)
    · skip
      refine f_know 26 rfl (bool_T h3) ?_
      refine f_condT rfl ?_
      refine f_region ?_
      refine f_op rfl rfl (s_mv (v := .ptr a0b a0o) rfl) ?_
      refine f_op rfl rfl (s_makeFunc rfl rfl) ?_
      refine f_op rfl rfl (s_as (v := .str (ByteArray.mk #[100])) rfl) ?_
      refine f_op rfl rfl (s_as (v := .fn 99 [.ptr a0b a0o] []) rfl) ?_
      refine f_nil ?_
      refine f_inBlock ?_
      refine f_keep [1, 6, 9, 10] ?_
      exact s62_j0 happ a1 p1.1.1 (ByteArray.mk #[100]) (.fn 99 [.ptr a0b a0o] []) p1.2
    · skip
      refine f_know 26 rfl (bool_F h3) ?_
      refine f_condF rfl ?_
      refine f_seq ?_
      refine f_region ?_
      refine f_op rfl rfl (s_eqStr rfl rfl) ?_
      refine f_op rfl rfl (s_as (v := .bool (strEq p1.1.1 (ByteArray.mk #[111, 102, 116, 101, 110]))) rfl) ?_
      refine f_nil ?_
      refine f_if (fun h4 => ?_) (fun h4 => ?_)
      · skip
        refine f_know 30 rfl (bool_T h4) ?_
        refine f_condT rfl ?_
        refine f_region ?_
        refine f_op rfl rfl (s_mv (v := .ptr a0b a0o) rfl) ?_
        refine f_op rfl rfl (s_makeFunc rfl rfl) ?_
        refine f_op rfl rfl (s_as (v := .str (ByteArray.mk #[110])) rfl) ?_
        refine f_op rfl rfl (s_as (v := .fn 100 [.ptr a0b a0o] []) rfl) ?_
        refine f_nil ?_
        refine f_inBlock ?_
        refine f_keep [1, 6, 9, 10] ?_
        exact s62_j0 happ a1 p1.1.1 (ByteArray.mk #[110]) (.fn 100 [.ptr a0b a0o] []) p1.2
      · skip
        refine f_know 30 rfl (bool_F h4) ?_
        refine f_condF rfl ?_
        refine f_seq ?_
        refine f_region ?_
        refine f_op rfl rfl (s_eqStr rfl rfl) ?_
        refine f_op rfl rfl (s_as (v := .bool (strEq p1.1.1 (ByteArray.mk #[116, 97, 105, 108]))) rfl) ?_
        refine f_nil ?_
        refine f_if (fun h5 => ?_) (fun h5 => ?_)
        · skip
          refine f_know 34 rfl (bool_T h5) ?_
          refine f_condT rfl ?_
          refine f_region ?_
          refine f_op rfl rfl (s_mv (v := .ptr a0b a0o) rfl) ?_
          refine f_op rfl rfl (s_makeFunc rfl rfl) ?_
          refine f_op rfl rfl (s_as (v := .fn 101 [.ptr a0b a0o] []) rfl) ?_
          refine f_nil ?_
          refine f_inBlock ?_
          refine f_keep [1, 6, 9, 10] ?_
          exact s62_j0 happ a1 p1.1.1 (ByteArray.mk #[]) (.fn 101 [.ptr a0b a0o] []) p1.2
        · skip
          refine f_know 34 rfl (bool_F h5) ?_
          refine f_condF rfl ?_
          refine f_seq ?_
          refine f_region ?_
          refine f_op rfl rfl (s_eqStr rfl rfl) ?_
          refine f_op rfl rfl (s_as (v := .bool (strEq p1.1.1 (ByteArray.mk #[102, 97, 105, 114]))) rfl) ?_
          refine f_nil ?_
          refine f_if (fun h6 => ?_) (fun h6 => ?_)
          · skip
            refine f_know 38 rfl (bool_T h6) ?_
            refine f_condT rfl ?_
            refine f_region ?_
            refine f_op rfl rfl (s_mv (v := .ptr a0b a0o) rfl) ?_
            refine f_op rfl rfl (s_makeFunc rfl rfl) ?_
            refine f_op rfl rfl (s_as (v := .str (ByteArray.mk #[100, 100])) rfl) ?_
            refine f_op rfl rfl (s_as (v := .fn 102 [.ptr a0b a0o] []) rfl) ?_
            refine f_nil ?_
            refine f_inBlock ?_
            refine f_keep [1, 6, 9, 10] ?_
            exact s62_j0 happ a1 p1.1.1 (ByteArray.mk #[100, 100]) (.fn 102 [.ptr a0b a0o] []) p1.2
          · skip
            refine f_know 38 rfl (bool_F h6) ?_
            refine f_condF rfl ?_
            refine f_seq ?_
            refine f_region ?_
            refine f_op rfl rfl (s_eqStr rfl rfl) ?_
            refine f_op rfl rfl (s_as (v := .bool (strEq p1.1.1 (ByteArray.mk #[114, 111, 117, 110, 100]))) rfl) ?_
            refine f_nil ?_
            refine f_if (fun h7 => ?_) (fun h7 => ?_)
            · skip
              refine f_know 42 rfl (bool_T h7) ?_
              refine f_condT rfl ?_
              refine f_region ?_
              refine f_op rfl rfl (s_as (v := .str (ByteArray.mk #[100])) rfl) ?_
              refine f_op rfl rfl (s_as (v := .fn 103 [] []) rfl) ?_
              refine f_nil ?_
              refine f_inBlock ?_
              refine f_keep [1, 6, 9, 10] ?_
              exact s62_j0 happ a1 p1.1.1 (ByteArray.mk #[100]) (.fn 103 [] []) p1.2
            · skip
              refine f_know 42 rfl (bool_F h7) ?_
              refine f_condF rfl ?_
              refine f_seq ?_
              refine f_region ?_
              refine f_op rfl rfl (s_eqStr rfl rfl) ?_
              refine f_op rfl rfl (s_as (v := .bool (strEq p1.1.1 (ByteArray.mk #[99, 117, 114, 118, 101]))) rfl) ?_
              refine f_nil ?_
              refine f_if (fun h8 => ?_) (fun h8 => ?_)
              · skip
                refine f_know 44 rfl (bool_T h8) ?_
                refine f_condT rfl ?_
                refine f_region ?_
                refine f_op rfl rfl (s_as (v := .str (ByteArray.mk #[100])) rfl) ?_
                refine f_op rfl rfl (s_as (v := .fn 104 [] []) rfl) ?_
                refine f_nil ?_
                refine f_inBlock ?_
                refine f_keep [1, 6, 9, 10] ?_
                exact s62_j0 happ a1 p1.1.1 (ByteArray.mk #[100]) (.fn 104 [] []) p1.2
              · skip
                refine f_know 44 rfl (bool_F h8) ?_
                refine f_condF rfl ?_
                refine f_seq ?_
                refine f_region ?_
                refine f_op rfl rfl (s_eqStr rfl rfl) ?_
                refine f_op rfl rfl (s_as (v := .bool (strEq p1.1.1 (ByteArray.mk #[115, 113, 117, 97, 114, 101]))) rfl) ?_
                refine f_nil ?_
                refine f_if (fun h9 => ?_) (fun h9 => ?_)
                · skip
                  refine f_know 46 rfl (bool_T h9) ?_
                  refine f_condT rfl ?_
                  refine f_region ?_
                  refine f_op rfl rfl (s_as (v := .str (ByteArray.mk #[100, 100, 100, 100])) rfl) ?_
                  refine f_op rfl rfl (s_as (v := .fn 105 [] []) rfl) ?_
                  refine f_nil ?_
                  refine f_inBlock ?_
                  refine f_keep [1, 6, 9, 10] ?_
                  exact s62_j0 happ a1 p1.1.1 (ByteArray.mk #[100, 100, 100, 100]) (.fn 105 [] []) p1.2
                · skip
                  refine f_know 46 rfl (bool_F h9) ?_
                  refine f_condF rfl ?_
                  refine f_seq ?_
                  refine f_region ?_
                  refine f_op rfl rfl (s_eqStr rfl rfl) ?_
                  refine f_op rfl rfl (s_as (v := .bool (strEq p1.1.1 (ByteArray.mk #[114, 111, 119]))) rfl) ?_
                  refine f_nil ?_
                  refine f_if (fun h10 => ?_) (fun h10 => ?_)
                  · skip
                    refine f_know 48 rfl (bool_T h10) ?_
                    refine f_condT rfl ?_
                    refine f_region ?_
                    refine f_op rfl rfl (s_as (v := .str (ByteArray.mk #[100, 100])) rfl) ?_
                    refine f_op rfl rfl (s_as (v := .fn 106 [] []) rfl) ?_
                    refine f_nil ?_
                    refine f_inBlock ?_
                    refine f_keep [1, 6, 9, 10] ?_
                    exact s62_j0 happ a1 p1.1.1 (ByteArray.mk #[100, 100]) (.fn 106 [] []) p1.2
                  · skip
                    refine f_know 48 rfl (bool_F h10) ?_
                    refine f_condF rfl ?_
                    refine f_seq ?_
                    refine f_region ?_
                    refine f_op rfl rfl (s_eqStr rfl rfl) ?_
                    refine f_op rfl rfl (s_as (v := .bool (strEq p1.1.1 (ByteArray.mk #[108, 101, 97, 115, 116]))) rfl) ?_
                    refine f_nil ?_
                    refine f_if (fun h11 => ?_) (fun h11 => ?_)
                    · skip
                      refine f_know 50 rfl (bool_T h11) ?_
                      refine f_condT rfl ?_
                      refine f_region ?_
                      refine f_op rfl rfl (s_as (v := .str (ByteArray.mk #[100])) rfl) ?_
                      refine f_op rfl rfl (s_as (v := .fn 107 [] []) rfl) ?_
                      refine f_nil ?_
                      refine f_inBlock ?_
                      refine f_keep [1, 6, 9, 10] ?_
                      exact s62_j0 happ a1 p1.1.1 (ByteArray.mk #[100]) (.fn 107 [] []) p1.2
                    · skip
                      refine f_know 50 rfl (bool_F h11) ?_
                      refine f_condF rfl ?_
                      refine f_seq ?_
                      refine f_region ?_
                      refine f_op rfl rfl (s_as (v := .str (ByteArray.mk #[])) rfl) ?_
                      refine f_op rfl rfl (s_as (v := .int .i64 3) rfl) ?_
                      refine f_nil ?_
                      exact f_ret (.tmp rfl (.tmp rfl (.nil))) rfl

/- 14 (*congou/chest.Chest).Ask -/
theorem ok14 : FnOk Tryz.prog 14 := ⟨⟨Tryz.f14, Tryz.func14, by kernel_rfl, rfl⟩⟩
theorem sim14 {app : App} (happ : AppSim Tryz.prog app) {a0b : Nat} {a0o : Nat} {a1 : ByteArray} {H : Hp} {p : (ByteArray × Int) × Hp} (h : r14 app a0b a0o a1 H = some p) : CallSim Tryz.prog 14 [.ptr a0b a0o, .str a1] H (.tup [.str p.1.1, .int .i64 p.1.2]) p.2 := by
  refine callSim (fn := Tryz.f14) (ret := ret14) Tryz.func14 rfl Tryz.ntmps14 rfl ?_ h
  unfold r14
  refine f_seq ?_
  refine f_region ?_
  refine f_op rfl rfl (s_as (v := .str (ByteArray.mk #[])) rfl) ?_
  refine f_op rfl rfl (s_as (v := .int .i64 0) rfl) ?_
  refine f_nil ?_
  refine f_seq ?_
  refine f_seq ?_
  refine f_region ?_
  refine f_op rfl rfl (s_mv (v := .ptr a0b a0o) rfl) ?_
  refine o_bind ?_; intro p1 hp1
  refine f_op rfl rfl (s_callF rfl ok60 (sim60 hp1)) ?_
  refine f_nil ?_
  refine f_if (fun h2 => ?_) (fun h2 => ?_)
  · skip
    refine f_know 7 rfl (bool_T h2) ?_
    refine f_condT rfl ?_
    refine f_seq ?_
    refine f_region ?_
    refine f_op rfl rfl (s_as (v := .str (ByteArray.mk #[])) rfl) ?_
    refine f_op rfl rfl (s_as (v := .int .i64 1) rfl) ?_
    refine f_nil ?_
    exact f_ret (.tmp rfl (.tmp rfl (.nil))) rfl
  · skip
    refine f_know 7 rfl (bool_F h2) ?_
    refine f_condF rfl ?_
    refine f_skip ?_
    refine f_seq ?_
    refine f_region ?_
    refine f_op rfl rfl (s_mv (v := .ptr a0b a0o) rfl) ?_
    refine o_bind ?_; intro p3 hp3
    refine f_op rfl rfl (s_callF rfl ok61 (sim61 hp3)) ?_
    refine f_op rfl rfl (s_mv (v := .str a1) rfl) ?_
    refine o_bind ?_; intro p4 hp4
    refine f_op rfl rfl (s_callF rfl ok62 (sim62 happ hp4)) ?_
    refine f_op rfl rfl (s_extract (r := .str p4.1.1) rfl rfl) ?_
    refine f_op rfl rfl (s_extract (r := .int .i64 p4.1.2) rfl rfl) ?_
    refine f_op rfl rfl (s_as (v := .str p4.1.1) rfl) ?_
    refine f_op rfl rfl (s_as (v := .int .i64 p4.1.2) rfl) ?_
    refine f_nil ?_
    exact f_ret (.tmp rfl (.tmp rfl (.nil))) rfl

/- 38 (*congou/chest.Chest).At -/
theorem ok38 : FnOk Tryz.prog 38 := ⟨⟨Tryz.f38, Tryz.func38, by kernel_rfl, rfl⟩⟩
theorem sim38 {a0b : Nat} {a0o : Nat} {H : Hp} {p : Int × Hp} (h : r38 a0b a0o H = some p) : CallSim Tryz.prog 38 [.ptr a0b a0o] H (.int .i64 p.1) p.2 := by
  refine callSim (fn := Tryz.f38) (ret := ret38) Tryz.func38 rfl Tryz.ntmps38 rfl ?_ h
  unfold r38
  refine f_seq ?_
  refine f_region ?_
  refine f_op rfl rfl (s_as (v := .int .i64 0) rfl) ?_
  refine f_nil ?_
  refine f_seq ?_
  refine f_seq ?_
  refine f_region ?_
  refine f_op rfl rfl (s_mv (v := .ptr a0b a0o) rfl) ?_
  refine o_bind ?_; intro p1 hp1
  refine f_op rfl rfl (s_callF rfl ok60 (sim60 hp1)) ?_
  refine f_nil ?_
  refine f_if (fun h2 => ?_) (fun h2 => ?_)
  · skip
    refine f_know 4 rfl (bool_T h2) ?_
    refine f_condT rfl ?_
    refine f_seq ?_
    refine f_region ?_
    refine f_op rfl rfl (s_as (v := .int .i64 0) rfl) ?_
    refine f_nil ?_
    exact f_ret (.tmp rfl (.nil)) rfl
  · skip
    refine f_know 4 rfl (bool_F h2) ?_
    refine f_condF rfl ?_
    refine f_skip ?_
    refine f_seq ?_
    refine f_region ?_
    refine f_op rfl rfl (s_mv (v := .ptr a0b a0o) rfl) ?_
    refine f_op rfl rfl (s_nilCheck rfl) ?_
    refine f_op rfl rfl (s_fieldAddr Tryz.underlying118 rfl ty3 rfl) ?_
    refine o_bind ?_; intro x3 hx3
    refine f_op rfl rfl (s_load Tryz.underlying3 rfl rfl (ldI_eq hx3)) ?_
    refine f_op rfl rfl (s_as (v := .int .i64 x3) rfl) ?_
    refine f_nil ?_
    exact f_ret (.tmp rfl (.nil)) rfl

end Go.Lt.P10
