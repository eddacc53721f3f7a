/- PRINTED BY A PROGRAM OF OURS: what each function that 'CutsInside' reaches computes on the abstract heap, and that the translated code does just that. Nothing is asked of the input. -/
import Derived.Test.YteefkljbmjjncaaG7P4
set_option linter.unusedVariables false
set_option linter.unusedSimpArgs false
set_option maxRecDepth 100000
set_option maxHeartbeats 4000000
namespace Go.Lt.P2
open Go Go.Lt Go.Proofs
/- 66 (congou/cuts.plate).corners -/
theorem ok66 : FnOk Try.prog 66 := ⟨⟨Try.f66, Try.func66, by kernel_rfl, rfl⟩⟩
theorem s66_j2 {app : App} (happ : AppSim Try.prog app) (kt1 : Sl → AV → Nat → Sl → Int → Int → Sl → Int → Int → Hp → Option (Unit × Hp)) (hkt1 : ∀ (v1 : Sl) (v2 : AV) (v3 : Nat) (v4 : Sl) (v5 : Int) (v6 : Int) (v7 : Sl) (v8 : Int) (v9 : Int) (H : Hp), Fin Try.prog Try.f66 ret66 48 (todoAt (bodyOf Try.f66) [1, 0, 0, 1, 1, 0, 0, 1, 1, 0, 0] []) [(0, .sl v1), (1, v2), (5, .ptr v3 0), (10, .sl v4), (11, .int .i64 v5), (12, .int .i64 v6), (19, .sl v7), (20, .int .i64 v8), (21, .int .i64 v9)] H (kt1 v1 v2 v3 v4 v5 v6 v7 v8 v9 H)) (v1 : Sl) (v2 : AV) (v3 : Nat) (v4 : Sl) (v5 : Int) (v6 : Int) (v7 : Sl) (v8 : Int) (v9 : Int) (v10 : Bool) (H : Hp) : Fin Try.prog Try.f66 ret66 48 (todoAt (bodyOf Try.f66) [1, 0, 0, 1, 1, 0, 0, 1, 1, 0, 0, 1, 1, 0, 0, 1, 1, 1] []) [(0, .sl v1), (1, v2), (5, .ptr v3 0), (10, .sl v4), (11, .int .i64 v5), (12, .int .i64 v6), (19, .sl v7), (20, .int .i64 v8), (21, .int .i64 v9), (45, .bool v10)] H (r66_j2 app kt1 v1 v2 v3 v4 v5 v6 v7 v8 v9 v10 H) := by
  unfold r66_j2
  refine f_if (fun h1 => ?_) (fun h1 => ?_)
  · skip
    refine f_know 45 rfl (bool_T h1) ?_
    refine f_condT rfl ?_
    exact f_ret (.nil) rfl
  · skip
    refine f_know 45 rfl (bool_F h1) ?_
    refine f_condF rfl ?_
    refine f_skip ?_
    refine f_inBlock ?_
    refine f_region ?_
    refine f_op rfl rfl (s_add rfl rfl) ?_
    refine f_op rfl rfl (s_mv (v := .int .i64 (w64 (v9 + 1))) rfl) ?_
    refine f_nil ?_
    refine f_inLoop ?_
    refine f_keep [0, 1, 5, 10, 11, 12, 19, 20, 21] ?_
    exact hkt1 v1 v2 v3 v4 v5 v6 v7 v8 (w64 (v9 + 1)) H

theorem s66_l1 {app : App} (happ : AppSim Try.prog app) (kt0 : Sl → AV → Sl → Int → Int → Hp → Option (Unit × Hp)) (hkt0 : ∀ (v1 : Sl) (v2 : AV) (v3 : Sl) (v4 : Int) (v5 : Int) (H : Hp), Fin Try.prog Try.f66 ret66 48 (todoAt (bodyOf Try.f66) [1, 0, 0] []) [(0, .sl v1), (1, v2), (10, .sl v3), (11, .int .i64 v4), (12, .int .i64 v5)] H (kt0 v1 v2 v3 v4 v5 H)) : ∀ (k_ : Nat) (v1 : Sl) (v2 : AV) (v3 : Nat) (v4 : Sl) (v5 : Int) (v6 : Int) (v7 : Sl) (v8 : Int) (v9 : Int) (H : Hp), Fin Try.prog Try.f66 ret66 48 (todoAt (bodyOf Try.f66) [1, 0, 0, 1, 1, 0, 0, 1, 1, 0, 0] []) [(0, .sl v1), (1, v2), (5, .ptr v3 0), (10, .sl v4), (11, .int .i64 v5), (12, .int .i64 v6), (19, .sl v7), (20, .int .i64 v8), (21, .int .i64 v9)] H (r66_l1 app kt0 k_ v1 v2 v3 v4 v5 v6 v7 v8 v9 H) := by
  intro k_
  induction k_ with
  | zero => intro _ _ _ _ _ _ _ _ _ _; exact f_none
  | succ k_ ih =>
    intro v1 v2 v3 v4 v5 v6 v7 v8 v9 H
    rw [r66_l1]
    refine f_seq ?_
    refine f_region ?_
    refine f_op rfl rfl (s_lss rfl rfl) ?_
    refine f_nil ?_
    refine f_seq ?_
    refine f_if (fun h1 => ?_) (fun h1 => ?_)
    · skip
      refine f_know 22 rfl (dec_true h1) ?_
      refine f_condT rfl ?_
      refine f_skip ?_
      refine f_seq ?_
      refine f_block ?_
      refine f_seq ?_
      refine f_region ?_
      refine o_ck fun g2 => ?_
      refine f_op rfl rfl (s_idx Try.underlying100 ty47 rfl rfl g2) ?_
      refine o_bind ?_; intro x3 hx3
      refine o_bind ?_; intro x4 hx4
      refine o_bind ?_; intro x5 hx5
      refine f_op rfl rfl (s_loads Try.underlying47 rfl ty47 rfl (lds_cons (ldI_eq hx3) (lds_cons (ldI_eq hx4) (lds_cons (ldI_eq hx5) (lds_nil))))) ?_
      refine f_op rfl rfl (s_alloc (zs := [.int .i64 0, .int .i64 0, .int .i64 0]) ty47 rfl rfl) ?_
      refine o_bind ?_; intro H6 hH6
      refine f_op rfl rfl (s_stores ty47 rfl rfl rfl rfl hH6 (Nat.le_of_eq (sts_mono hH6).symm)) ?_
      refine f_nil ?_
      refine f_seq ?_
      refine f_region ?_
      refine o_bind ?_; intro x7 hx7
      refine o_bind ?_; intro x8 hx8
      refine o_bind ?_; intro x9 hx9
      refine f_op rfl rfl (s_loads Try.underlying47 rfl ty47 rfl (lds_cons (ldI_eq hx7) (lds_cons (ldI_eq hx8) (lds_cons (ldI_eq hx9) (lds_nil))))) ?_
      refine o_bind ?_; intro x10 hx10
      refine o_bind ?_; intro x11 hx11
      refine o_bind ?_; intro x12 hx12
      refine f_op rfl rfl (s_loads Try.underlying47 rfl ty47 rfl (lds_cons (ldI_eq hx10) (lds_cons (ldI_eq hx11) (lds_cons (ldI_eq hx12) (lds_nil))))) ?_
      refine o_bind ?_; intro p13 hp13
      refine f_op rfl rfl (s_callO rfl ok96 (sim96 hp13) rfl rfl) ?_
      refine f_op rfl rfl (s_mv (v := .tup [.agg [.int .i64 p13.1.1, .int .i64 p13.1.2.1, .int .i64 p13.1.2.2.1, .int .i64 p13.1.2.2.2.1], .bool p13.1.2.2.2.2]) rfl) ?_
      refine f_op rfl rfl (s_extract (r := .agg [.int .i64 p13.1.1, .int .i64 p13.1.2.1, .int .i64 p13.1.2.2.1, .int .i64 p13.1.2.2.2.1]) rfl rfl) ?_
      refine f_op rfl rfl (s_extract (r := .bool p13.1.2.2.2.2) rfl rfl) ?_
      refine f_op rfl rfl (s_alloc (zs := [.int .i64 0, .int .i64 0, .int .i64 0, .int .i64 0]) ty32 rfl rfl) ?_
      refine o_bind ?_; intro H14 hH14
      refine f_op rfl rfl (s_stores ty32 rfl rfl rfl rfl hH14 (Nat.le_of_eq (sts_mono hH14).symm)) ?_
      refine f_op rfl rfl (s_as (v := .bool p13.1.2.2.2.2) rfl) ?_
      refine f_nil ?_
      refine f_seq ?_
      refine f_region ?_
      refine f_op rfl rfl (s_mv (v := .bool p13.1.2.2.2.2) rfl) ?_
      refine f_op rfl rfl (s_mv (v := .bool p13.1.2.2.2.2) rfl) ?_
      refine o_if (fun h15 => ?_) (fun h15 => ?_)
      · skip
        refine o_know 32 rfl (bool_T h15) ?_
        refine f_op rfl rfl (s_mv (v := .sl v1) rfl) ?_
        refine o_bind ?_; intro x16 hx16
        refine o_bind ?_; intro x17 hx17
        refine o_bind ?_; intro x18 hx18
        refine o_bind ?_; intro x19 hx19
        refine f_op rfl rfl (s_loads Try.underlying32 rfl ty32 rfl (lds_cons (ldI_eq hx16) (lds_cons (ldI_eq hx17) (lds_cons (ldI_eq hx18) (lds_cons (ldI_eq hx19) (lds_nil)))))) ?_
        refine o_bind ?_; intro p20 hp20
        refine f_op rfl rfl (s_callF rfl ok65 (sim65 happ hp20)) ?_
        refine f_op rfl rfl (s_pickT (v := .bool p20.1) rfl rfl) ?_
        refine f_op rfl rfl (s_mv (v := .bool p20.1) rfl) ?_
        refine o_if (fun h21 => ?_) (fun h21 => ?_)
        · skip
          refine o_know 37 rfl (bool_T h21) ?_
          refine f_op rfl rfl (s_mv (v := v2) rfl) ?_
          refine o_bind ?_; intro x22 hx22
          refine o_bind ?_; intro x23 hx23
          refine o_bind ?_; intro x24 hx24
          refine o_bind ?_; intro x25 hx25
          refine f_op rfl rfl (s_loads Try.underlying32 rfl ty32 rfl (lds_cons (ldI_eq hx22) (lds_cons (ldI_eq hx23) (lds_cons (ldI_eq hx24) (lds_cons (ldI_eq hx25) (lds_nil)))))) ?_
          refine o_bind ?_; intro x26 hx26
          refine o_bind ?_; intro x27 hx27
          refine o_bind ?_; intro x28 hx28
          refine f_op rfl rfl (s_loads Try.underlying47 rfl ty47 rfl (lds_cons (ldI_eq hx26) (lds_cons (ldI_eq hx27) (lds_cons (ldI_eq hx28) (lds_nil))))) ?_
          refine o_bind ?_; intro x29 hx29
          refine o_bind ?_; intro x30 hx30
          refine o_bind ?_; intro x31 hx31
          refine f_op rfl rfl (s_loads Try.underlying47 rfl ty47 rfl (lds_cons (ldI_eq hx29) (lds_cons (ldI_eq hx30) (lds_cons (ldI_eq hx31) (lds_nil))))) ?_
          refine f_op rfl rfl (s_build (cs := [.int .i64 x22, .int .i64 x23, .int .i64 x24, .int .i64 x25, .int .i64 x26, .int .i64 x27, .int .i64 x28, .int .i64 x29, .int .i64 x30, .int .i64 x31]) Try.underlying105 ty105 rfl pl105 rfl) ?_
          refine o_bind ?_; intro p32 hp32
          refine o_bind ?_; intro x33 hx33
          refine f_op rfl rfl (s_callv happ rfl rfl hp32) ?_
          refine o_know 43 rfl (asB_eq hx33) ?_
          refine f_op rfl rfl (s_not rfl) ?_
          refine f_op rfl rfl (s_pickT (v := .bool (!x33)) rfl rfl) ?_
          refine f_nil ?_
          refine f_keep [0, 1, 5, 10, 11, 12, 19, 20, 21, 45] ?_
          exact s66_j2 happ _ (fun v1_ v2_ v3_ v4_ v5_ v6_ v7_ v8_ v9_ H_ => ih v1_ v2_ v3_ v4_ v5_ v6_ v7_ v8_ v9_ H_) v1 v2 v3 v4 v5 v6 v7 v8 v9 (!x33) p32.2
        · skip
          refine o_know 37 rfl (bool_F h21) ?_
          refine f_no rfl rfl ?_
          refine f_no rfl rfl ?_
          refine f_no rfl rfl ?_
          refine f_no rfl rfl ?_
          refine f_no rfl rfl ?_
          refine f_no rfl rfl ?_
          refine f_no rfl rfl ?_
          refine f_op rfl rfl (s_pickF (v := .bool false) rfl rfl) ?_
          refine f_nil ?_
          refine f_keep [0, 1, 5, 10, 11, 12, 19, 20, 21, 45] ?_
          exact s66_j2 happ _ (fun v1_ v2_ v3_ v4_ v5_ v6_ v7_ v8_ v9_ H_ => ih v1_ v2_ v3_ v4_ v5_ v6_ v7_ v8_ v9_ H_) v1 v2 v3 v4 v5 v6 v7 v8 v9 false p20.2
      · skip
        refine o_know 32 rfl (bool_F h15) ?_
        refine f_no rfl rfl ?_
        refine f_no rfl rfl ?_
        refine f_no rfl rfl ?_
        refine f_op rfl rfl (s_pickF (v := .bool false) rfl rfl) ?_
        refine f_op rfl rfl (s_mv (v := .bool false) rfl) ?_
        refine f_no rfl rfl ?_
        refine f_no rfl rfl ?_
        refine f_no rfl rfl ?_
        refine f_no rfl rfl ?_
        refine f_no rfl rfl ?_
        refine f_no rfl rfl ?_
        refine f_no rfl rfl ?_
        refine f_op rfl rfl (s_pickF (v := .bool false) rfl rfl) ?_
        refine f_nil ?_
        refine f_keep [0, 1, 5, 10, 11, 12, 19, 20, 21, 45] ?_
        exact s66_j2 happ _ (fun v1_ v2_ v3_ v4_ v5_ v6_ v7_ v8_ v9_ H_ => ih v1_ v2_ v3_ v4_ v5_ v6_ v7_ v8_ v9_ H_) v1 v2 v3 v4 v5 v6 v7 v8 v9 false H14
    · skip
      refine f_know 22 rfl (dec_false h1) ?_
      refine f_condF rfl ?_
      refine f_exit rfl ?_
      refine f_inBlock ?_
      refine f_region ?_
      refine f_op rfl rfl (s_add rfl rfl) ?_
      refine f_op rfl rfl (s_mv (v := .int .i64 (w64 (v6 + 1))) rfl) ?_
      refine f_nil ?_
      refine f_inLoop ?_
      refine f_keep [0, 1, 10, 11, 12] ?_
      exact hkt0 v1 v2 v4 v5 (w64 (v6 + 1)) H

theorem s66_l0 {app : App} (happ : AppSim Try.prog app) : ∀ (k_ : Nat) (v1 : Sl) (v2 : AV) (v3 : Sl) (v4 : Int) (v5 : Int) (H : Hp), Fin Try.prog Try.f66 ret66 48 (todoAt (bodyOf Try.f66) [1, 0, 0] []) [(0, .sl v1), (1, v2), (10, .sl v3), (11, .int .i64 v4), (12, .int .i64 v5)] H (r66_l0 app k_ v1 v2 v3 v4 v5 H) := by
  intro k_
  induction k_ with
  | zero => intro _ _ _ _ _ _; exact f_none
  | succ k_ ih =>
    intro v1 v2 v3 v4 v5 H
    rw [r66_l0]
    refine f_seq ?_
    refine f_region ?_
    refine f_op rfl rfl (s_lss rfl rfl) ?_
    refine f_nil ?_
    refine f_seq ?_
    refine f_if (fun h1 => ?_) (fun h1 => ?_)
    · skip
      refine f_know 13 rfl (dec_true h1) ?_
      refine f_condT rfl ?_
      refine f_skip ?_
      refine f_seq ?_
      refine f_block ?_
      refine f_seq ?_
      refine f_region ?_
      refine f_op rfl rfl (s_mv (v := .int .i64 v5) rfl) ?_
      refine o_ck fun g2 => ?_
      refine f_op rfl rfl (s_idx Try.underlying100 ty47 rfl rfl g2) ?_
      refine o_bind ?_; intro x3 hx3
      refine o_bind ?_; intro x4 hx4
      refine o_bind ?_; intro x5 hx5
      refine f_op rfl rfl (s_loads Try.underlying47 rfl ty47 rfl (lds_cons (ldI_eq hx3) (lds_cons (ldI_eq hx4) (lds_cons (ldI_eq hx5) (lds_nil))))) ?_
      refine f_op rfl rfl (s_alloc (zs := [.int .i64 0, .int .i64 0, .int .i64 0]) ty47 rfl rfl) ?_
      refine f_op rfl rfl (s_as (v := .int .i64 v5) rfl) ?_
      refine o_bind ?_; intro H6 hH6
      refine f_op rfl rfl (s_stores ty47 rfl rfl rfl rfl hH6 (Nat.le_of_eq (sts_mono hH6).symm)) ?_
      refine f_nil ?_
      refine f_seq ?_
      refine f_region ?_
      refine f_op rfl rfl (s_mv (v := .sl v1) rfl) ?_
      refine f_op rfl rfl (s_mv (v := .int .i64 v5) rfl) ?_
      refine o_ck fun g7 => ?_
      refine f_op rfl rfl (s_slice Try.underlying100 ty47 rfl rfl rfl g7.1 g7.2) ?_
      refine f_op rfl rfl (s_lenS rfl Try.underlying100 rfl) ?_
      refine f_op rfl rfl (s_mv (v := .int .i64 0) rfl) ?_
      refine f_nil ?_
      refine f_block ?_
      refine f_loop ?_
      refine f_keep [0, 1, 5, 10, 11, 12, 19, 20, 21] ?_
      exact s66_l1 happ _ (fun v1_ v2_ v3_ v4_ v5_ H_ => ih v1_ v2_ v3_ v4_ v5_ H_) FUEL v1 v2 H.n v3 v4 v5 (v1.cut 3 (0 : Int).toNat (v5 : Int).toNat) ((v1.cut 3 (0 : Int).toNat (v5 : Int).toNat).len : Int) 0 H6
    · skip
      refine f_know 13 rfl (dec_false h1) ?_
      refine f_condF rfl ?_
      refine f_exit rfl ?_
      exact f_end (.nil) rfl

theorem sim66 {app : App} (happ : AppSim Try.prog app) {a0 : Sl} {a1 : AV} {H : Hp} {p : Unit × Hp} (h : r66 app a0 a1 H = some p) : CallSim Try.prog 66 [.sl a0, a1] H (.tup []) p.2 := by
  refine callSim (fn := Try.f66) (ret := ret66) Try.func66 rfl Try.ntmps66 rfl ?_ h
  unfold r66
  refine f_seq ?_
  refine f_region ?_
  refine f_op rfl rfl (s_mv (v := .sl a0) rfl) ?_
  refine f_op rfl rfl (s_lenS rfl Try.underlying100 rfl) ?_
  refine f_op rfl rfl (s_mv (v := .int .i64 0) rfl) ?_
  refine f_nil ?_
  refine f_block ?_
  refine f_loop ?_
  refine f_keep [0, 1, 10, 11, 12] ?_
  exact s66_l0 happ FUEL a0 a1 a0 (a0.len : Int) 0 H

/- 67 (congou/cuts.corner).between -/
theorem ok67 : FnOk Try.prog 67 := ⟨⟨Try.f67, Try.func67, by kernel_rfl, rfl⟩⟩
theorem s67_j2 {app : App} (happ : AppSim Try.prog app) (kt1 : AV → Nat → Int → Int → Int → Hp → Option (Unit × Hp)) (hkt1 : ∀ (v1 : AV) (v2 : Nat) (v3 : Int) (v4 : Int) (v5 : Int) (H : Hp), Fin Try.prog Try.f67 ret67 83 (todoAt (bodyOf Try.f67) [1, 1, 1, 0, 0, 1, 0, 0, 1, 0, 0] []) [(1, v1), (2, .ptr v2 0), (4, .int .i64 v3), (5, .int .i64 v4), (6, .int .i64 v5)] H (kt1 v1 v2 v3 v4 v5 H)) (v1 : AV) (v2 : Nat) (v3 : Int) (v4 : Int) (v5 : Int) (v6 : Bool) (H : Hp) : Fin Try.prog Try.f67 ret67 83 (todoAt (bodyOf Try.f67) [1, 1, 1, 0, 0, 1, 0, 0, 1, 0, 0, 1, 0, 0, 1, 1, 1] []) [(1, v1), (2, .ptr v2 0), (4, .int .i64 v3), (5, .int .i64 v4), (6, .int .i64 v5), (82, .bool v6)] H (r67_j2 app kt1 v1 v2 v3 v4 v5 v6 H) := by
  unfold r67_j2
  refine f_if (fun h1 => ?_) (fun h1 => ?_)
  · skip
    refine f_know 82 rfl (bool_T h1) ?_
    refine f_condT rfl ?_
    exact f_ret (.nil) rfl
  · skip
    refine f_know 82 rfl (bool_F h1) ?_
    refine f_condF rfl ?_
    refine f_skip ?_
    refine f_inBlock ?_
    refine f_region ?_
    refine f_op rfl rfl (s_mv (v := .int .i64 v5) rfl) ?_
    refine f_op rfl rfl (s_add rfl rfl) ?_
    refine f_op rfl rfl (s_as (v := .int .i64 (w64 (v5 + 1))) rfl) ?_
    refine f_nil ?_
    refine f_inLoop ?_
    refine f_keep [1, 2, 4, 5, 6] ?_
    exact hkt1 v1 v2 v3 v4 (w64 (v5 + 1)) H

theorem s67_j3 {app : App} (happ : AppSim Try.prog app) (kt1 : AV → Nat → Int → Int → Int → Hp → Option (Unit × Hp)) (hkt1 : ∀ (v1 : AV) (v2 : Nat) (v3 : Int) (v4 : Int) (v5 : Int) (H : Hp), Fin Try.prog Try.f67 ret67 83 (todoAt (bodyOf Try.f67) [1, 1, 1, 0, 0, 1, 0, 0, 1, 0, 0] []) [(1, v1), (2, .ptr v2 0), (4, .int .i64 v3), (5, .int .i64 v4), (6, .int .i64 v5)] H (kt1 v1 v2 v3 v4 v5 H)) (v1 : AV) (v2 : Nat) (v3 : Int) (v4 : Int) (v5 : Int) (v6 : Int) (v7 : Int) (H : Hp) : Fin Try.prog Try.f67 ret67 83 (todoAt (bodyOf Try.f67) [1, 1, 1, 0, 0, 1, 0, 0, 1, 0, 0, 1, 0, 0, 1, 1] []) [(1, v1), (2, .ptr v2 0), (4, .int .i64 v3), (5, .int .i64 v4), (6, .int .i64 v5), (7, .int .i64 v6), (8, .int .i64 v7)] H (r67_j3 app kt1 v1 v2 v3 v4 v5 v6 v7 H) := by
  unfold r67_j3
  refine f_seq ?_
  refine f_region ?_
  refine f_op rfl rfl (s_mv (v := .int .i64 v6) rfl) ?_
  refine f_op rfl rfl (s_geq rfl rfl) ?_
  refine f_op rfl rfl (s_mv (v := .bool (decide (0 ≤ v6))) rfl) ?_
  refine o_if (fun h1 => ?_) (fun h1 => ?_)
  · skip
    refine o_know 56 rfl (dec_true h1) ?_
    refine f_op rfl rfl (s_mv (v := .int .i64 v7) rfl) ?_
    refine f_op rfl rfl (s_geq rfl rfl) ?_
    refine f_op rfl rfl (s_pickT (v := .bool (decide (0 ≤ v7))) rfl rfl) ?_
    refine f_op rfl rfl (s_mv (v := .bool (decide (0 ≤ v7))) rfl) ?_
    refine o_if (fun h2 => ?_) (fun h2 => ?_)
    · skip
      refine o_know 60 rfl (dec_true h2) ?_
      refine f_op rfl rfl (s_mv (v := .int .i64 v6) rfl) ?_
      refine f_op rfl rfl (s_mv (v := .int .i64 v3) rfl) ?_
      refine f_op rfl rfl (s_mv (v := .int .i64 v3) rfl) ?_
      refine f_op rfl rfl (s_neg rfl) ?_
      refine f_op rfl rfl (s_max2 rfl rfl) ?_
      refine f_op rfl rfl (s_leq rfl rfl) ?_
      refine f_op rfl rfl (s_pickT (v := .bool (decide (v6 ≤ (if v3 < (w64 (0 - v3)) then (w64 (0 - v3)) else v3)))) rfl rfl) ?_
      refine f_op rfl rfl (s_mv (v := .bool (decide (v6 ≤ (if v3 < (w64 (0 - v3)) then (w64 (0 - v3)) else v3)))) rfl) ?_
      refine o_if (fun h3 => ?_) (fun h3 => ?_)
      · skip
        refine o_know 68 rfl (dec_true h3) ?_
        refine f_op rfl rfl (s_mv (v := .int .i64 v7) rfl) ?_
        refine f_op rfl rfl (s_mv (v := .int .i64 v3) rfl) ?_
        refine f_op rfl rfl (s_mv (v := .int .i64 v3) rfl) ?_
        refine f_op rfl rfl (s_neg rfl) ?_
        refine f_op rfl rfl (s_max2 rfl rfl) ?_
        refine f_op rfl rfl (s_leq rfl rfl) ?_
        refine f_op rfl rfl (s_pickT (v := .bool (decide (v7 ≤ (if v3 < (w64 (0 - v3)) then (w64 (0 - v3)) else v3)))) rfl rfl) ?_
        refine f_op rfl rfl (s_mv (v := .bool (decide (v7 ≤ (if v3 < (w64 (0 - v3)) then (w64 (0 - v3)) else v3)))) rfl) ?_
        refine o_if (fun h4 => ?_) (fun h4 => ?_)
        · skip
          refine o_know 76 rfl (dec_true h4) ?_
          refine f_op rfl rfl (s_mv (v := v1) rfl) ?_
          refine f_op rfl rfl (s_mv (v := .int .i64 v4) rfl) ?_
          refine f_op rfl rfl (s_mv (v := .int .i64 v5) rfl) ?_
          refine o_bind ?_; intro p5 hp5
          refine o_bind ?_; intro x6 hx6
          refine f_op rfl rfl (s_callv happ rfl rfl hp5) ?_
          refine o_know 80 rfl (asB_eq hx6) ?_
          refine f_op rfl rfl (s_not rfl) ?_
          refine f_op rfl rfl (s_pickT (v := .bool (!x6)) rfl rfl) ?_
          refine f_nil ?_
          refine f_keep [1, 2, 4, 5, 6, 82] ?_
          exact s67_j2 happ _ hkt1 v1 v2 v3 v4 v5 (!x6) p5.2
        · skip
          refine o_know 76 rfl (dec_false h4) ?_
          refine f_no rfl rfl ?_
          refine f_no rfl rfl ?_
          refine f_no rfl rfl ?_
          refine f_no rfl rfl ?_
          refine f_no rfl rfl ?_
          refine f_op rfl rfl (s_pickF (v := .bool false) rfl rfl) ?_
          refine f_nil ?_
          refine f_keep [1, 2, 4, 5, 6, 82] ?_
          exact s67_j2 happ _ hkt1 v1 v2 v3 v4 v5 false H
      · skip
        refine o_know 68 rfl (dec_false h3) ?_
        refine f_no rfl rfl ?_
        refine f_no rfl rfl ?_
        refine f_no rfl rfl ?_
        refine f_no rfl rfl ?_
        refine f_no rfl rfl ?_
        refine f_no rfl rfl ?_
        refine f_op rfl rfl (s_pickF (v := .bool false) rfl rfl) ?_
        refine f_op rfl rfl (s_mv (v := .bool false) rfl) ?_
        refine f_no rfl rfl ?_
        refine f_no rfl rfl ?_
        refine f_no rfl rfl ?_
        refine f_no rfl rfl ?_
        refine f_no rfl rfl ?_
        refine f_op rfl rfl (s_pickF (v := .bool false) rfl rfl) ?_
        refine f_nil ?_
        refine f_keep [1, 2, 4, 5, 6, 82] ?_
        exact s67_j2 happ _ hkt1 v1 v2 v3 v4 v5 false H
    · skip
      refine o_know 60 rfl (dec_false h2) ?_
      refine f_no rfl rfl ?_
      refine f_no rfl rfl ?_
      refine f_no rfl rfl ?_
      refine f_no rfl rfl ?_
      refine f_no rfl rfl ?_
      refine f_no rfl rfl ?_
      refine f_op rfl rfl (s_pickF (v := .bool false) rfl rfl) ?_
      refine f_op rfl rfl (s_mv (v := .bool false) rfl) ?_
      refine f_no rfl rfl ?_
      refine f_no rfl rfl ?_
      refine f_no rfl rfl ?_
      refine f_no rfl rfl ?_
      refine f_no rfl rfl ?_
      refine f_no rfl rfl ?_
      refine f_op rfl rfl (s_pickF (v := .bool false) rfl rfl) ?_
      refine f_op rfl rfl (s_mv (v := .bool false) rfl) ?_
      refine f_no rfl rfl ?_
      refine f_no rfl rfl ?_
      refine f_no rfl rfl ?_
      refine f_no rfl rfl ?_
      refine f_no rfl rfl ?_
      refine f_op rfl rfl (s_pickF (v := .bool false) rfl rfl) ?_
      refine f_nil ?_
      refine f_keep [1, 2, 4, 5, 6, 82] ?_
      exact s67_j2 happ _ hkt1 v1 v2 v3 v4 v5 false H
  · skip
    refine o_know 56 rfl (dec_false h1) ?_
    refine f_no rfl rfl ?_
    refine f_no rfl rfl ?_
    refine f_op rfl rfl (s_pickF (v := .bool false) rfl rfl) ?_
    refine f_op rfl rfl (s_mv (v := .bool false) rfl) ?_
    refine f_no rfl rfl ?_
    refine f_no rfl rfl ?_
    refine f_no rfl rfl ?_
    refine f_no rfl rfl ?_
    refine f_no rfl rfl ?_
    refine f_no rfl rfl ?_
    refine f_op rfl rfl (s_pickF (v := .bool false) rfl rfl) ?_
    refine f_op rfl rfl (s_mv (v := .bool false) rfl) ?_
    refine f_no rfl rfl ?_
    refine f_no rfl rfl ?_
    refine f_no rfl rfl ?_
    refine f_no rfl rfl ?_
    refine f_no rfl rfl ?_
    refine f_no rfl rfl ?_
    refine f_op rfl rfl (s_pickF (v := .bool false) rfl rfl) ?_
    refine f_op rfl rfl (s_mv (v := .bool false) rfl) ?_
    refine f_no rfl rfl ?_
    refine f_no rfl rfl ?_
    refine f_no rfl rfl ?_
    refine f_no rfl rfl ?_
    refine f_no rfl rfl ?_
    refine f_op rfl rfl (s_pickF (v := .bool false) rfl rfl) ?_
    refine f_nil ?_
    refine f_keep [1, 2, 4, 5, 6, 82] ?_
    exact s67_j2 happ _ hkt1 v1 v2 v3 v4 v5 false H

theorem s67_l1 {app : App} (happ : AppSim Try.prog app) (kt0 : AV → Nat → Int → Int → Hp → Option (Unit × Hp)) (hkt0 : ∀ (v1 : AV) (v2 : Nat) (v3 : Int) (v4 : Int) (H : Hp), Fin Try.prog Try.f67 ret67 83 (todoAt (bodyOf Try.f67) [1, 1, 1, 0, 0] []) [(1, v1), (2, .ptr v2 0), (4, .int .i64 v3), (5, .int .i64 v4)] H (kt0 v1 v2 v3 v4 H)) : ∀ (k_ : Nat) (v1 : AV) (v2 : Nat) (v3 : Int) (v4 : Int) (v5 : Int) (H : Hp), Fin Try.prog Try.f67 ret67 83 (todoAt (bodyOf Try.f67) [1, 1, 1, 0, 0, 1, 0, 0, 1, 0, 0] []) [(1, v1), (2, .ptr v2 0), (4, .int .i64 v3), (5, .int .i64 v4), (6, .int .i64 v5)] H (r67_l1 app kt0 k_ v1 v2 v3 v4 v5 H) := by
  intro k_
  induction k_ with
  | zero => intro _ _ _ _ _ _; exact f_none
  | succ k_ ih =>
    intro v1 v2 v3 v4 v5 H
    rw [r67_l1]
    refine f_seq ?_
    refine f_seq ?_
    refine f_region ?_
    refine f_op rfl rfl (s_mv (v := .int .i64 v5) rfl) ?_
    refine f_op rfl rfl (s_leq rfl rfl) ?_
    refine f_nil ?_
    refine f_if (fun h1 => ?_) (fun h1 => ?_)
    · skip
      refine f_know 27 rfl (dec_true h1) ?_
      refine f_condT rfl ?_
      refine f_skip ?_
      refine f_seq ?_
      refine f_block ?_
      refine f_seq ?_
      refine f_bind ?_; intro x2 hx2
      refine f_bind ?_; intro x3 hx3
      refine f_bind ?_; intro p4 hp4
      refine f_bind ?_; intro x5 hx5
      refine f_bind ?_; intro x6 hx6
      refine f_bind ?_; intro p7 hp7
      refine f_draw (Φ := fun _ => True) (lim := 1000000) [0, 0, 0, 0, 1, 0, 0, 1, 0, 0, 0, 1, 0, 0, 1, 0, 0, 0, 0, 0] (Trc.pure rfl rfl rfl (.inl fun _ => s_mv (v := .int .i64 v4) rfl) (Trc.pure rfl rfl rfl (.inl fun _ => s_mv (v := .int .i64 v5) rfl) (Trc.pure rfl rfl rfl (.inl fun _ => s_fieldAddr Try.underlying105 rfl ty47 rfl) (Trc.pure rfl rfl rfl (.inl fun _ => s_fieldAddr Try.underlying47 rfl ty3 rfl) (Trc.read rfl rfl rfl (s_load Try.underlying3 rfl rfl (ldI_eq hx2)) (Trc.pure rfl rfl rfl (.inl fun _ => s_fieldAddr Try.underlying105 rfl ty47 rfl) (Trc.pure rfl rfl rfl (.inl fun _ => s_fieldAddr Try.underlying47 rfl ty3 rfl) (Trc.read rfl rfl rfl (s_load Try.underlying3 rfl rfl (ldI_eq hx3)) (Trc.pure rfl rfl rfl (.inl fun _ => s_callO rfl ok97 (sim97 hp4) rfl rfl) (Trc.pure rfl rfl rfl (.inl fun _ => s_fieldAddr Try.underlying105 rfl ty47 rfl) (Trc.pure rfl rfl rfl (.inl fun _ => s_fieldAddr Try.underlying47 rfl ty3 rfl) (Trc.read rfl rfl rfl (s_load Try.underlying3 rfl rfl (ldI_eq hx5)) (Trc.pure rfl rfl rfl (.inl fun _ => s_fieldAddr Try.underlying105 rfl ty47 rfl) (Trc.pure rfl rfl rfl (.inl fun _ => s_fieldAddr Try.underlying47 rfl ty3 rfl) (Trc.read rfl rfl rfl (s_load Try.underlying3 rfl rfl (ldI_eq hx6)) (Trc.pure rfl rfl rfl (.inl fun _ => s_mv (v := .int .i64 v4) rfl) (Trc.pure rfl rfl rfl (.inl fun _ => s_mv (v := .int .i64 v5) rfl) (Trc.pure rfl rfl rfl (.inl fun _ => s_callO rfl ok97 (sim97 hp7) rfl rfl) (Trc.pure rfl rfl rfl (.inl fun _ => s_as (v := .int .i64 p4.1) rfl) (Trc.pure rfl rfl rfl (.inl fun _ => s_as (v := .int .i64 p7.1) rfl) (Trc.nil (fun _ => trivial)))))))))))))))))))))) rfl (by decide +kernel) mixed ?_
      refine f_seq ?_
      refine f_seq ?_
      refine f_region ?_
      refine f_op rfl rfl (s_mv (v := .int .i64 v3) rfl) ?_
      refine f_op rfl rfl (s_lss rfl rfl) ?_
      refine f_nil ?_
      refine f_if (fun h8 => ?_) (fun h8 => ?_)
      · skip
        refine f_know 49 rfl (dec_true h8) ?_
        refine f_condT rfl ?_
        refine f_region ?_
        refine f_op rfl rfl (s_mv (v := .int .i64 p4.1) rfl) ?_
        refine f_op rfl rfl (s_neg rfl) ?_
        refine f_op rfl rfl (s_mv (v := .int .i64 p7.1) rfl) ?_
        refine f_op rfl rfl (s_neg rfl) ?_
        refine f_op rfl rfl (s_as (v := .int .i64 (w64 (0 - p4.1))) rfl) ?_
        refine f_op rfl rfl (s_as (v := .int .i64 (w64 (0 - p7.1))) rfl) ?_
        refine f_nil ?_
        refine f_keep [1, 2, 4, 5, 6, 7, 8] ?_
        exact s67_j3 happ _ (fun v1_ v2_ v3_ v4_ v5_ H_ => ih v1_ v2_ v3_ v4_ v5_ H_) v1 v2 v3 v4 v5 (w64 (0 - p4.1)) (w64 (0 - p7.1)) H
      · skip
        refine f_know 49 rfl (dec_false h8) ?_
        refine f_condF rfl ?_
        refine f_skip ?_
        refine f_keep [1, 2, 4, 5, 6, 7, 8] ?_
        exact s67_j3 happ _ (fun v1_ v2_ v3_ v4_ v5_ H_ => ih v1_ v2_ v3_ v4_ v5_ H_) v1 v2 v3 v4 v5 p4.1 p7.1 H
    · skip
      refine f_know 27 rfl (dec_false h1) ?_
      refine f_condF rfl ?_
      refine f_exit rfl ?_
      refine f_inBlock ?_
      refine f_region ?_
      refine f_op rfl rfl (s_mv (v := .int .i64 v4) rfl) ?_
      refine f_op rfl rfl (s_add rfl rfl) ?_
      refine f_op rfl rfl (s_as (v := .int .i64 (w64 (v4 + 1))) rfl) ?_
      refine f_nil ?_
      refine f_inLoop ?_
      refine f_keep [1, 2, 4, 5] ?_
      exact hkt0 v1 v2 v3 (w64 (v4 + 1)) H

theorem s67_l0 {app : App} (happ : AppSim Try.prog app) : ∀ (k_ : Nat) (v1 : AV) (v2 : Nat) (v3 : Int) (v4 : Int) (H : Hp), Fin Try.prog Try.f67 ret67 83 (todoAt (bodyOf Try.f67) [1, 1, 1, 0, 0] []) [(1, v1), (2, .ptr v2 0), (4, .int .i64 v3), (5, .int .i64 v4)] H (r67_l0 app k_ v1 v2 v3 v4 H) := by
  intro k_
  induction k_ with
  | zero => intro _ _ _ _ _; exact f_none
  | succ k_ ih =>
    intro v1 v2 v3 v4 H
    rw [r67_l0]
    refine f_seq ?_
    refine f_seq ?_
    refine f_region ?_
    refine f_op rfl rfl (s_mv (v := .int .i64 v4) rfl) ?_
    refine f_op rfl rfl (s_leq rfl rfl) ?_
    refine f_nil ?_
    refine f_if (fun h1 => ?_) (fun h1 => ?_)
    · skip
      refine f_know 23 rfl (dec_true h1) ?_
      refine f_condT rfl ?_
      refine f_skip ?_
      refine f_seq ?_
      refine f_block ?_
      refine f_seq ?_
      refine f_region ?_
      refine f_op rfl rfl (s_as (v := .int .i64 (-8)) rfl) ?_
      refine f_nil ?_
      refine f_block ?_
      refine f_loop ?_
      refine f_keep [1, 2, 4, 5, 6] ?_
      exact s67_l1 happ _ (fun v1_ v2_ v3_ v4_ H_ => ih v1_ v2_ v3_ v4_ H_) FUEL v1 v2 v3 v4 (-8) H
    · skip
      refine f_know 23 rfl (dec_false h1) ?_
      refine f_condF rfl ?_
      refine f_exit rfl ?_
      exact f_end (.nil) rfl

theorem sim67 {app : App} (happ : AppSim Try.prog app) {a0_0 : Int} {a0_1 : Int} {a0_2 : Int} {a0_3 : Int} {a0_4 : Int} {a0_5 : Int} {a0_6 : Int} {a0_7 : Int} {a0_8 : Int} {a0_9 : Int} {a1 : AV} {H : Hp} {p : Unit × Hp} (h : r67 app a0_0 a0_1 a0_2 a0_3 a0_4 a0_5 a0_6 a0_7 a0_8 a0_9 a1 H = some p) : CallSim Try.prog 67 [.agg [.int .i64 a0_0, .int .i64 a0_1, .int .i64 a0_2, .int .i64 a0_3, .int .i64 a0_4, .int .i64 a0_5, .int .i64 a0_6, .int .i64 a0_7, .int .i64 a0_8, .int .i64 a0_9], a1] H (.tup []) p.2 := by
  refine callSim (fn := Try.f67) (ret := ret67) Try.func67 rfl Try.ntmps67 rfl ?_ h
  unfold r67
  refine f_seq ?_
  refine f_region ?_
  refine f_op rfl rfl (s_box (v := .agg [.int .i64 a0_0, .int .i64 a0_1, .int .i64 a0_2, .int .i64 a0_3, .int .i64 a0_4, .int .i64 a0_5, .int .i64 a0_6, .int .i64 a0_7, .int .i64 a0_8, .int .i64 a0_9]) rfl rfl) ?_
  refine o_hp ?_; intro H1 hH1
  refine f_nil ?_
  refine f_seq ?_
  refine f_region ?_
  refine f_op rfl rfl (s_fieldAddr Try.underlying105 rfl ty47 rfl) ?_
  refine f_op rfl rfl (s_fieldAddr Try.underlying47 rfl ty3 rfl) ?_
  refine o_bind ?_; intro x2 hx2
  refine f_op rfl rfl (s_load Try.underlying3 rfl rfl (ldI_eq hx2)) ?_
  refine f_op rfl rfl (s_fieldAddr Try.underlying105 rfl ty47 rfl) ?_
  refine f_op rfl rfl (s_fieldAddr Try.underlying47 rfl ty3 rfl) ?_
  refine o_bind ?_; intro x3 hx3
  refine f_op rfl rfl (s_load Try.underlying3 rfl rfl (ldI_eq hx3)) ?_
  refine f_op rfl rfl (s_fieldAddr Try.underlying105 rfl ty47 rfl) ?_
  refine f_op rfl rfl (s_fieldAddr Try.underlying47 rfl ty3 rfl) ?_
  refine o_bind ?_; intro x4 hx4
  refine f_op rfl rfl (s_load Try.underlying3 rfl rfl (ldI_eq hx4)) ?_
  refine f_op rfl rfl (s_fieldAddr Try.underlying105 rfl ty47 rfl) ?_
  refine f_op rfl rfl (s_fieldAddr Try.underlying47 rfl ty3 rfl) ?_
  refine o_bind ?_; intro x5 hx5
  refine f_op rfl rfl (s_load Try.underlying3 rfl rfl (ldI_eq hx5)) ?_
  refine o_bind ?_; intro p6 hp6
  refine f_op rfl rfl (s_callO rfl ok97 (sim97 hp6) rfl rfl) ?_
  refine f_op rfl rfl (s_as (v := .int .i64 p6.1) rfl) ?_
  refine f_nil ?_
  refine f_seq ?_
  refine f_region ?_
  refine f_op rfl rfl (s_as (v := .int .i64 (-8)) rfl) ?_
  refine f_nil ?_
  refine f_block ?_
  refine f_loop ?_
  refine f_keep [1, 2, 4, 5] ?_
  exact s67_l0 happ FUEL a1 H.n p6.1 (-8) H1

/- 93 (congou/cuts.plate).valid$1 -/
theorem ok93 : FnOk Try.prog 93 := ⟨⟨Try.f93, Try.func93, by kernel_rfl, rfl⟩⟩
theorem sim93 {a0_0 : Int} {a0_1 : Int} {a0_2 : Int} {c0 : Nat} {H : Hp} {p : Bool × Hp} (h : r93 a0_0 a0_1 a0_2 c0 H = some p) : CallSim Try.prog 93 [.agg [.int .i64 a0_0, .int .i64 a0_1, .int .i64 a0_2], .ptr c0 0] H (.bool p.1) p.2 := by
  refine callSim (fn := Try.f93) (ret := ret93) Try.func93 rfl Try.ntmps93 rfl ?_ h
  unfold r93
  refine f_seq ?_
  refine f_region ?_
  refine f_op rfl rfl (s_box (v := .agg [.int .i64 a0_0, .int .i64 a0_1, .int .i64 a0_2]) rfl rfl) ?_
  refine f_op rfl rfl (s_as (v := .bool false) rfl) ?_
  refine o_hp ?_; intro H1 hH1
  refine f_nil ?_
  refine f_seq ?_
  refine f_region ?_
  refine f_op rfl rfl (s_fieldAddr Try.underlying47 rfl ty3 rfl) ?_
  refine o_bind ?_; intro x2 hx2
  refine f_op rfl rfl (s_load Try.underlying3 rfl rfl (ldI_eq hx2)) ?_
  refine f_op rfl rfl (s_idxA Try.underlying43 ty3 rfl rfl (by decide)) ?_
  refine o_bind ?_; intro x3 hx3
  refine f_op rfl rfl (s_load Try.underlying3 rfl rfl (ldI_eq hx3)) ?_
  refine f_op rfl rfl (s_mul rfl rfl) ?_
  refine f_op rfl rfl (s_fieldAddr Try.underlying47 rfl ty3 rfl) ?_
  refine o_bind ?_; intro x4 hx4
  refine f_op rfl rfl (s_load Try.underlying3 rfl rfl (ldI_eq hx4)) ?_
  refine f_op rfl rfl (s_idxA Try.underlying43 ty3 rfl rfl (by decide)) ?_
  refine o_bind ?_; intro x5 hx5
  refine f_op rfl rfl (s_load Try.underlying3 rfl rfl (ldI_eq hx5)) ?_
  refine f_op rfl rfl (s_mul rfl rfl) ?_
  refine f_op rfl rfl (s_add rfl rfl) ?_
  refine f_op rfl rfl (s_gtr rfl rfl) ?_
  refine f_op rfl rfl (s_as (v := .bool (decide (0 < (w64 ((w64 (x2 * x3)) + (w64 (x4 * x5))))))) rfl) ?_
  refine f_nil ?_
  exact f_ret (.tmp rfl (.nil)) rfl

/- 95 (congou/cuts.plate).has$1 -/
theorem ok95 : FnOk Try.prog 95 := ⟨⟨Try.f95, Try.func95, by kernel_rfl, rfl⟩⟩
theorem sim95 {a0_0 : Int} {a0_1 : Int} {a0_2 : Int} {c0 : Nat} {H : Hp} {p : Bool × Hp} (h : r95 a0_0 a0_1 a0_2 c0 H = some p) : CallSim Try.prog 95 [.agg [.int .i64 a0_0, .int .i64 a0_1, .int .i64 a0_2], .ptr c0 0] H (.bool p.1) p.2 := by
  refine callSim (fn := Try.f95) (ret := ret95) Try.func95 rfl Try.ntmps95 rfl ?_ h
  unfold r95
  refine f_seq ?_
  refine f_region ?_
  refine f_op rfl rfl (s_box (v := .agg [.int .i64 a0_0, .int .i64 a0_1, .int .i64 a0_2]) rfl rfl) ?_
  refine f_op rfl rfl (s_as (v := .bool false) rfl) ?_
  refine o_hp ?_; intro H1 hH1
  refine f_nil ?_
  refine f_seq ?_
  refine f_region ?_
  refine o_bind ?_; intro x2 hx2
  refine o_bind ?_; intro x3 hx3
  refine o_bind ?_; intro x4 hx4
  refine f_op rfl rfl (s_loads Try.underlying47 rfl ty47 rfl (lds_cons (ldI_eq hx2) (lds_cons (ldI_eq hx3) (lds_cons (ldI_eq hx4) (lds_nil))))) ?_
  refine o_bind ?_; intro x5 hx5
  refine o_bind ?_; intro x6 hx6
  refine o_bind ?_; intro x7 hx7
  refine o_bind ?_; intro x8 hx8
  refine f_op rfl rfl (s_loads Try.underlying32 rfl ty32 rfl (lds_cons (ldI_eq hx5) (lds_cons (ldI_eq hx6) (lds_cons (ldI_eq hx7) (lds_cons (ldI_eq hx8) (lds_nil)))))) ?_
  refine o_bind ?_; intro p9 hp9
  refine f_op rfl rfl (s_callO rfl ok70 (sim70 hp9) rfl rfl) ?_
  refine f_op rfl rfl (s_not rfl) ?_
  refine f_op rfl rfl (s_as (v := .bool (!p9.1)) rfl) ?_
  refine f_nil ?_
  exact f_ret (.tmp rfl (.nil)) rfl

/- 106 congou/cuts.within$1 -/
theorem ok106 : FnOk Try.prog 106 := ⟨⟨Try.f106, Try.func106, by kernel_rfl, rfl⟩⟩
theorem sim106 {a0 : Int} {c0 : Nat} {H : Hp} {p : Bool × Hp} (h : r106 a0 c0 H = some p) : CallSim Try.prog 106 [.int .i64 a0, .ptr c0 0] H (.bool p.1) p.2 := by
  refine callSim (fn := Try.f106) (ret := ret106) Try.func106 rfl Try.ntmps106 rfl ?_ h
  unfold r106
  refine f_seq ?_
  refine f_region ?_
  refine f_op rfl rfl (s_as (v := .bool false) rfl) ?_
  refine f_nil ?_
  refine f_seq ?_
  refine f_region ?_
  refine f_op rfl rfl (s_mv (v := .int .i64 a0) rfl) ?_
  refine o_bind ?_; intro x1 hx1
  refine f_op rfl rfl (s_load Try.underlying3 rfl rfl (ldI_eq hx1)) ?_
  refine f_op rfl rfl (s_neg rfl) ?_
  refine f_op rfl rfl (s_lss rfl rfl) ?_
  refine f_op rfl rfl (s_mv (v := .bool (decide (a0 < (w64 (0 - x1))))) rfl) ?_
  refine o_if (fun h2 => ?_) (fun h2 => ?_)
  · skip
    refine o_know 8 rfl (dec_true h2) ?_
    refine f_no rfl rfl ?_
    refine f_no rfl rfl ?_
    refine f_no rfl rfl ?_
    refine f_op rfl rfl (s_pickT (v := .bool true) rfl rfl) ?_
    refine f_op rfl rfl (s_as (v := .bool true) rfl) ?_
    refine f_nil ?_
    exact f_ret (.tmp rfl (.nil)) rfl
  · skip
    refine o_know 8 rfl (dec_false h2) ?_
    refine f_op rfl rfl (s_mv (v := .int .i64 a0) rfl) ?_
    refine o_bind ?_; intro x3 hx3
    refine f_op rfl rfl (s_load Try.underlying3 rfl rfl (ldI_eq hx3)) ?_
    refine f_op rfl rfl (s_gtr rfl rfl) ?_
    refine f_op rfl rfl (s_pickF (v := .bool (decide (x3 < a0))) rfl rfl) ?_
    refine f_op rfl rfl (s_as (v := .bool (decide (x3 < a0))) rfl) ?_
    refine f_nil ?_
    exact f_ret (.tmp rfl (.nil)) rfl

end Go.Lt.P2
