/- PRINTED BY A PROGRAM OF OURS: what each function that 'CutsWithin' reaches computes on the abstract heap, and that the translated code does just that. Nothing is asked of the input. -/
import Derived.Test.YteefkljbmjjncaaG9P4
set_option linter.unusedVariables false
set_option linter.unusedSimpArgs false
set_option maxRecDepth 100000
set_option maxHeartbeats 4000000
namespace Go.Lt.P2
open Go Go.Lt Go.Proofs
/- 66 (congou/cuts.plate).corners -/
theorem ok66 : FnOk Try.prog 66 := ⟨⟨Try.f66, Try.func66, by kernel_rfl, rfl⟩⟩
theorem s66_j2 {app : App} (happ : AppSim Try.prog app) (kt1 : Sl → AV → Nat → Sl → Int → Int → Sl → Int → Int → Hp → Option (Unit × Hp)) (hkt1 : ∀ (v1 : Sl) (v2 : AV) (v3 : Nat) (v4 : Sl) (v5 : Int) (v6 : Int) (v7 : Sl) (v8 : Int) (v9 : Int) (H : Hp), Fin Try.prog Try.f66 ret66 48 (todoAt (bodyOf Try.f66) [1, 0, 0, 1, 1, 0, 0, 1, 1, 0, 0] []) [(0, .sl v1), (1, v2), (5, .ptr v3 0), (10, .sl v4), (11, .int .i64 v5), (12, .int .i64 v6), (19, .sl v7), (20, .int .i64 v8), (21, .int .i64 v9)] H (kt1 v1 v2 v3 v4 v5 v6 v7 v8 v9 H)) (v1 : Sl) (v2 : AV) (v3 : Nat) (v4 : Sl) (v5 : Int) (v6 : Int) (v7 : Sl) (v8 : Int) (v9 : Int) (v10 : Bool) (H : Hp) : Fin Try.prog Try.f66 ret66 48 (todoAt (bodyOf Try.f66) [1, 0, 0, 1, 1, 0, 0, 1, 1, 0, 0, 1, 1, 0, 0, 1, 1, 1] []) [(0, .sl v1), (1, v2), (5, .ptr v3 0), (10, .sl v4), (11, .int .i64 v5), (12, .int .i64 v6), (19, .sl v7), (20, .int .i64 v8), (21, .int .i64 v9), (45, .bool v10)] H (r66_j2 app kt1 v1 v2 v3 v4 v5 v6 v7 v8 v9 v10 H) := by
  unfold r66_j2
  refine f_if (fun h1 => ?_) (fun h1 => ?_)
  · skip
    refine f_know 45 rfl (bool_T h1) ?_
    refine f_condT rfl ?_
    exact f_ret (.nil) rfl
  · skip
    refine f_know 45 rfl (bool_F h1) ?_
    refine f_condF rfl ?_
    refine f_skip ?_
    refine f_inBlock ?_
    refine f_region ?_
    refine f_op rfl rfl (s_add rfl rfl) ?_
    refine f_op rfl rfl (s_mv (v := .int .i64 (w64 (v9 + 1))) rfl) ?_
    refine f_nil ?_
    refine f_inLoop ?_
    refine f_keep [0, 1, 5, 10, 11, 12, 19, 20, 21] ?_
    exact hkt1 v1 v2 v3 v4 v5 v6 v7 v8 (w64 (v9 + 1)) H

theorem s66_l1 {app : App} (happ : AppSim Try.prog app) (kt0 : Sl → AV → Sl → Int → Int → Hp → Option (Unit × Hp)) (hkt0 : ∀ (v1 : Sl) (v2 : AV) (v3 : Sl) (v4 : Int) (v5 : Int) (H : Hp), Fin Try.prog Try.f66 ret66 48 (todoAt (bodyOf Try.f66) [1, 0, 0] []) [(0, .sl v1), (1, v2), (10, .sl v3), (11, .int .i64 v4), (12, .int .i64 v5)] H (kt0 v1 v2 v3 v4 v5 H)) : ∀ (k_ : Nat) (v1 : Sl) (v2 : AV) (v3 : Nat) (v4 : Sl) (v5 : Int) (v6 : Int) (v7 : Sl) (v8 : Int) (v9 : Int) (H : Hp), Fin Try.prog Try.f66 ret66 48 (todoAt (bodyOf Try.f66) [1, 0, 0, 1, 1, 0, 0, 1, 1, 0, 0] []) [(0, .sl v1), (1, v2), (5, .ptr v3 0), (10, .sl v4), (11, .int .i64 v5), (12, .int .i64 v6), (19, .sl v7), (20, .int .i64 v8), (21, .int .i64 v9)] H (r66_l1 app kt0 k_ v1 v2 v3 v4 v5 v6 v7 v8 v9 H) := by
  intro k_
  induction k_ with
  | zero => intro _ _ _ _ _ _ _ _ _ _; exact f_none
  | succ k_ ih =>
    intro v1 v2 v3 v4 v5 v6 v7 v8 v9 H
    rw [r66_l1]
    refine f_seq ?_
    refine f_region ?_
    refine f_op rfl rfl (s_lss rfl rfl) ?_
    refine f_nil ?_
    refine f_seq ?_
    refine f_if (fun h1 => ?_) (fun h1 => ?_)
    · skip
      refine f_know 22 rfl (dec_true h1) ?_
      refine f_condT rfl ?_
      refine f_skip ?_
      refine f_seq ?_
      refine f_block ?_
      refine f_seq ?_
      refine f_region ?_
      refine o_ck fun g2 => ?_
      refine f_op rfl rfl (s_idx Try.underlying100 ty47 rfl rfl g2) ?_
      refine o_bind ?_; intro x3 hx3
      refine o_bind ?_; intro x4 hx4
      refine o_bind ?_; intro x5 hx5
      refine f_op rfl rfl (s_loads Try.underlying47 rfl ty47 rfl (lds_cons (ldI_eq hx3) (lds_cons (ldI_eq hx4) (lds_cons (ldI_eq hx5) (lds_nil))))) ?_
      refine f_op rfl rfl (s_alloc (zs := [.int .i64 0, .int .i64 0, .int .i64 0]) ty47 rfl rfl) ?_
      refine o_bind ?_; intro H6 hH6
      refine f_op rfl rfl (s_stores ty47 rfl rfl rfl rfl hH6 (Nat.le_of_eq (sts_mono hH6).symm)) ?_
      refine f_nil ?_
      refine f_seq ?_
      refine f_region ?_
      refine o_bind ?_; intro x7 hx7
      refine o_bind ?_; intro x8 hx8
      refine o_bind ?_; intro x9 hx9
      refine f_op rfl rfl (s_loads Try.underlying47 rfl ty47 rfl (lds_cons (ldI_eq hx7) (lds_cons (ldI_eq hx8) (lds_cons (ldI_eq hx9) (lds_nil))))) ?_
      refine o_bind ?_; intro x10 hx10
      refine o_bind ?_; intro x11 hx11
      refine o_bind ?_; intro x12 hx12
      refine f_op rfl rfl (s_loads Try.underlying47 rfl ty47 rfl (lds_cons (ldI_eq hx10) (lds_cons (ldI_eq hx11) (lds_cons (ldI_eq hx12) (lds_nil))))) ?_
      refine o_bind ?_; intro p13 hp13
      refine f_op rfl rfl (s_callO rfl ok96 (sim96 hp13) rfl rfl) ?_
      refine f_op rfl rfl (s_mv (v := .tup [.agg [.int .i64 p13.1.1, .int .i64 p13.1.2.1, .int .i64 p13.1.2.2.1, .int .i64 p13.1.2.2.2.1], .bool p13.1.2.2.2.2]) rfl) ?_
      refine f_op rfl rfl (s_extract (r := .agg [.int .i64 p13.1.1, .int .i64 p13.1.2.1, .int .i64 p13.1.2.2.1, .int .i64 p13.1.2.2.2.1]) rfl rfl) ?_
      refine f_op rfl rfl (s_extract (r := .bool p13.1.2.2.2.2) rfl rfl) ?_
      refine f_op rfl rfl (s_alloc (zs := [.int .i64 0, .int .i64 0, .int .i64 0, .int .i64 0]) ty32 rfl rfl) ?_
      refine o_bind ?_; intro H14 hH14
      refine f_op rfl rfl (s_stores ty32 rfl rfl rfl rfl hH14 (Nat.le_of_eq (sts_mono hH14).symm)) ?_
      refine f_op rfl rfl (s_as (v := .bool p13.1.2.2.2.2) rfl) ?_
      refine f_nil ?_
      refine f_seq ?_
      refine f_region ?_
      refine f_op rfl rfl (s_mv (v := .bool p13.1.2.2.2.2) rfl) ?_
      refine f_op rfl rfl (s_mv (v := .bool p13.1.2.2.2.2) rfl) ?_
      refine o_if (fun h15 => ?_) (fun h15 => ?_)
      · skip
        refine o_know 32 rfl (bool_T h15) ?_
        refine f_op rfl rfl (s_mv (v := .sl v1) rfl) ?_
        refine o_bind ?_; intro x16 hx16
        refine o_bind ?_; intro x17 hx17
        refine o_bind ?_; intro x18 hx18
        refine o_bind ?_; intro x19 hx19
        refine f_op rfl rfl (s_loads Try.underlying32 rfl ty32 rfl (lds_cons (ldI_eq hx16) (lds_cons (ldI_eq hx17) (lds_cons (ldI_eq hx18) (lds_cons (ldI_eq hx19) (lds_nil)))))) ?_
        refine o_bind ?_; intro p20 hp20
        refine f_op rfl rfl (s_callF rfl ok65 (sim65 happ hp20)) ?_
        refine f_op rfl rfl (s_pickT (v := .bool p20.1) rfl rfl) ?_
        refine f_op rfl rfl (s_mv (v := .bool p20.1) rfl) ?_
        refine o_if (fun h21 => ?_) (fun h21 => ?_)
        · skip
          refine o_know 37 rfl (bool_T h21) ?_
          refine f_op rfl rfl (s_mv (v := v2) rfl) ?_
          refine o_bind ?_; intro x22 hx22
          refine o_bind ?_; intro x23 hx23
          refine o_bind ?_; intro x24 hx24
          refine o_bind ?_; intro x25 hx25
          refine f_op rfl rfl (s_loads Try.underlying32 rfl ty32 rfl (lds_cons (ldI_eq hx22) (lds_cons (ldI_eq hx23) (lds_cons (ldI_eq hx24) (lds_cons (ldI_eq hx25) (lds_nil)))))) ?_
          refine o_bind ?_; intro x26 hx26
          refine o_bind ?_; intro x27 hx27
          refine o_bind ?_; intro x28 hx28
          refine f_op rfl rfl (s_loads Try.underlying47 rfl ty47 rfl (lds_cons (ldI_eq hx26) (lds_cons (ldI_eq hx27) (lds_cons (ldI_eq hx28) (lds_nil))))) ?_
          refine o_bind ?_; intro x29 hx29
          refine o_bind ?_; intro x30 hx30
          refine o_bind ?_; intro x31 hx31
          refine f_op rfl rfl (s_loads Try.underlying47 rfl ty47 rfl (lds_cons (ldI_eq hx29) (lds_cons (ldI_eq hx30) (lds_cons (ldI_eq hx31) (lds_nil))))) ?_
          refine f_op rfl rfl (s_build (cs := [.int .i64 x22, .int .i64 x23, .int .i64 x24, .int .i64 x25, .int .i64 x26, .int .i64 x27, .int .i64 x28, .int .i64 x29, .int .i64 x30, .int .i64 x31]) Try.underlying105 ty105 rfl pl105 rfl) ?_
          refine o_bind ?_; intro p32 hp32
          refine o_bind ?_; intro x33 hx33
          refine f_op rfl rfl (s_callv happ rfl rfl hp32) ?_
          refine o_know 43 rfl (asB_eq hx33) ?_
          refine f_op rfl rfl (s_not rfl) ?_
          refine f_op rfl rfl (s_pickT (v := .bool (!x33)) rfl rfl) ?_
          refine f_nil ?_
          refine f_keep [0, 1, 5, 10, 11, 12, 19, 20, 21, 45] ?_
          exact s66_j2 happ _ (fun v1_ v2_ v3_ v4_ v5_ v6_ v7_ v8_ v9_ H_ => ih v1_ v2_ v3_ v4_ v5_ v6_ v7_ v8_ v9_ H_) v1 v2 v3 v4 v5 v6 v7 v8 v9 (!x33) p32.2
        · skip
          refine o_know 37 rfl (bool_F h21) ?_
          refine f_no rfl rfl ?_
          refine f_no rfl rfl ?_
          refine f_no rfl rfl ?_
          refine f_no rfl rfl ?_
          refine f_no rfl rfl ?_
          refine f_no rfl rfl ?_
          refine f_no rfl rfl ?_
          refine f_op rfl rfl (s_pickF (v := .bool false) rfl rfl) ?_
          refine f_nil ?_
          refine f_keep [0, 1, 5, 10, 11, 12, 19, 20, 21, 45] ?_
          exact s66_j2 happ _ (fun v1_ v2_ v3_ v4_ v5_ v6_ v7_ v8_ v9_ H_ => ih v1_ v2_ v3_ v4_ v5_ v6_ v7_ v8_ v9_ H_) v1 v2 v3 v4 v5 v6 v7 v8 v9 false p20.2
      · skip
        refine o_know 32 rfl (bool_F h15) ?_
        refine f_no rfl rfl ?_
        refine f_no rfl rfl ?_
        refine f_no rfl rfl ?_
        refine f_op rfl rfl (s_pickF (v := .bool false) rfl rfl) ?_
        refine f_op rfl rfl (s_mv (v := .bool false) rfl) ?_
        refine f_no rfl rfl ?_
        refine f_no rfl rfl ?_
        refine f_no rfl rfl ?_
        refine f_no rfl rfl ?_
        refine f_no rfl rfl ?_
        refine f_no rfl rfl ?_
        refine f_no rfl rfl ?_
        refine f_op rfl rfl (s_pickF (v := .bool false) rfl rfl) ?_
        refine f_nil ?_
        refine f_keep [0, 1, 5, 10, 11, 12, 19, 20, 21, 45] ?_
        exact s66_j2 happ _ (fun v1_ v2_ v3_ v4_ v5_ v6_ v7_ v8_ v9_ H_ => ih v1_ v2_ v3_ v4_ v5_ v6_ v7_ v8_ v9_ H_) v1 v2 v3 v4 v5 v6 v7 v8 v9 false H14
    · skip
      refine f_know 22 rfl (dec_false h1) ?_
      refine f_condF rfl ?_
      refine f_exit rfl ?_
      refine f_inBlock ?_
      refine f_region ?_
      refine f_op rfl rfl (s_add rfl rfl) ?_
      refine f_op rfl rfl (s_mv (v := .int .i64 (w64 (v6 + 1))) rfl) ?_
      refine f_nil ?_
      refine f_inLoop ?_
      refine f_keep [0, 1, 10, 11, 12] ?_
      exact hkt0 v1 v2 v4 v5 (w64 (v6 + 1)) H

theorem s66_l0 {app : App} (happ : AppSim Try.prog app) : ∀ (k_ : Nat) (v1 : Sl) (v2 : AV) (v3 : Sl) (v4 : Int) (v5 : Int) (H : Hp), Fin Try.prog Try.f66 ret66 48 (todoAt (bodyOf Try.f66) [1, 0, 0] []) [(0, .sl v1), (1, v2), (10, .sl v3), (11, .int .i64 v4), (12, .int .i64 v5)] H (r66_l0 app k_ v1 v2 v3 v4 v5 H) := by
  intro k_
  induction k_ with
  | zero => intro _ _ _ _ _ _; exact f_none
  | succ k_ ih =>
    intro v1 v2 v3 v4 v5 H
    rw [r66_l0]
    refine f_seq ?_
    refine f_region ?_
    refine f_op rfl rfl (s_lss rfl rfl) ?_
    refine f_nil ?_
    refine f_seq ?_
    refine f_if (fun h1 => ?_) (fun h1 => ?_)
    · skip
      refine f_know 13 rfl (dec_true h1) ?_
      refine f_condT rfl ?_
      refine f_skip ?_
      refine f_seq ?_
      refine f_block ?_
      refine f_seq ?_
      refine f_region ?_
      refine f_op rfl rfl (s_mv (v := .int .i64 v5) rfl) ?_
      refine o_ck fun g2 => ?_
      refine f_op rfl rfl (s_idx Try.underlying100 ty47 rfl rfl g2) ?_
      refine o_bind ?_; intro x3 hx3
      refine o_bind ?_; intro x4 hx4
      refine o_bind ?_; intro x5 hx5
      refine f_op rfl rfl (s_loads Try.underlying47 rfl ty47 rfl (lds_cons (ldI_eq hx3) (lds_cons (ldI_eq hx4) (lds_cons (ldI_eq hx5) (lds_nil))))) ?_
      refine f_op rfl rfl (s_alloc (zs := [.int .i64 0, .int .i64 0, .int .i64 0]) ty47 rfl rfl) ?_
      refine f_op rfl rfl (s_as (v := .int .i64 v5) rfl) ?_
      refine o_bind ?_; intro H6 hH6
      refine f_op rfl rfl (s_stores ty47 rfl rfl rfl rfl hH6 (Nat.le_of_eq (sts_mono hH6).symm)) ?_
      refine f_nil ?_
      refine f_seq ?_
      refine f_region ?_
      refine f_op rfl rfl (s_mv (v := .sl v1) rfl) ?_
      refine f_op rfl rfl (s_mv (v := .int .i64 v5) rfl) ?_
      refine o_ck fun g7 => ?_
      refine f_op rfl rfl (s_slice Try.underlying100 ty47 rfl rfl rfl g7.1 g7.2) ?_
      refine f_op rfl rfl (s_lenS rfl Try.underlying100 rfl) ?_
      refine f_op rfl rfl (s_mv (v := .int .i64 0) rfl) ?_
      refine f_nil ?_
      refine f_block ?_
      refine f_loop ?_
      refine f_keep [0, 1, 5, 10, 11, 12, 19, 20, 21] ?_
      exact s66_l1 happ _ (fun v1_ v2_ v3_ v4_ v5_ H_ => ih v1_ v2_ v3_ v4_ v5_ H_) FUEL v1 v2 H.n v3 v4 v5 (v1.cut 3 (0 : Int).toNat (v5 : Int).toNat) ((v1.cut 3 (0 : Int).toNat (v5 : Int).toNat).len : Int) 0 H6
    · skip
      refine f_know 13 rfl (dec_false h1) ?_
      refine f_condF rfl ?_
      refine f_exit rfl ?_
      exact f_end (.nil) rfl

theorem sim66 {app : App} (happ : AppSim Try.prog app) {a0 : Sl} {a1 : AV} {H : Hp} {p : Unit × Hp} (h : r66 app a0 a1 H = some p) : CallSim Try.prog 66 [.sl a0, a1] H (.tup []) p.2 := by
  refine callSim (fn := Try.f66) (ret := ret66) Try.func66 rfl Try.ntmps66 rfl ?_ h
  unfold r66
  refine f_seq ?_
  refine f_region ?_
  refine f_op rfl rfl (s_mv (v := .sl a0) rfl) ?_
  refine f_op rfl rfl (s_lenS rfl Try.underlying100 rfl) ?_
  refine f_op rfl rfl (s_mv (v := .int .i64 0) rfl) ?_
  refine f_nil ?_
  refine f_block ?_
  refine f_loop ?_
  refine f_keep [0, 1, 10, 11, 12] ?_
  exact s66_l0 happ FUEL a0 a1 a0 (a0.len : Int) 0 H

/- 98 congou/cuts.plus -/
theorem ok98 : FnOk Try.prog 98 := ⟨⟨Try.f98, Try.func98, by kernel_rfl, rfl⟩⟩
theorem sim98 {a0_0 : Int} {a0_1 : Int} {a1_0 : Int} {a1_1 : Int} {H : Hp} {p : (Int × Int) × Hp} (h : r98 a0_0 a0_1 a1_0 a1_1 H = some p) : CallSim Try.prog 98 [.agg [.int .i64 a0_0, .int .i64 a0_1], .agg [.int .i64 a1_0, .int .i64 a1_1]] H (.agg [.int .i64 p.1.1, .int .i64 p.1.2]) p.2 := by
  refine callSim (fn := Try.f98) (ret := ret98) Try.func98 rfl Try.ntmps98 rfl ?_ h
  unfold r98
  refine f_seq ?_
  refine f_region ?_
  refine f_op rfl rfl (s_box (v := .agg [.int .i64 a0_0, .int .i64 a0_1]) rfl rfl) ?_
  refine f_op rfl rfl (s_box (v := .agg [.int .i64 a1_0, .int .i64 a1_1]) rfl rfl) ?_
  refine f_op rfl rfl (s_alloc (zs := [.int .i64 0, .int .i64 0]) ty24 rfl rfl) ?_
  refine o_hp ?_; intro H1 hH1
  refine f_nil ?_
  refine f_seq ?_
  refine f_region ?_
  refine f_op rfl rfl (s_fieldAddr Try.underlying24 rfl ty3 rfl) ?_
  refine o_bind ?_; intro x2 hx2
  refine f_op rfl rfl (s_load Try.underlying3 rfl rfl (ldI_eq hx2)) ?_
  refine f_op rfl rfl (s_fieldAddr Try.underlying24 rfl ty3 rfl) ?_
  refine o_bind ?_; intro x3 hx3
  refine f_op rfl rfl (s_load Try.underlying3 rfl rfl (ldI_eq hx3)) ?_
  refine f_op rfl rfl (s_mul rfl rfl) ?_
  refine f_op rfl rfl (s_fieldAddr Try.underlying24 rfl ty3 rfl) ?_
  refine o_bind ?_; intro x4 hx4
  refine f_op rfl rfl (s_load Try.underlying3 rfl rfl (ldI_eq hx4)) ?_
  refine f_op rfl rfl (s_fieldAddr Try.underlying24 rfl ty3 rfl) ?_
  refine o_bind ?_; intro x5 hx5
  refine f_op rfl rfl (s_load Try.underlying3 rfl rfl (ldI_eq hx5)) ?_
  refine f_op rfl rfl (s_mul rfl rfl) ?_
  refine f_op rfl rfl (s_add rfl rfl) ?_
  refine f_op rfl rfl (s_fieldAddr Try.underlying24 rfl ty3 rfl) ?_
  refine o_bind ?_; intro x6 hx6
  refine f_op rfl rfl (s_load Try.underlying3 rfl rfl (ldI_eq hx6)) ?_
  refine f_op rfl rfl (s_fieldAddr Try.underlying24 rfl ty3 rfl) ?_
  refine o_bind ?_; intro x7 hx7
  refine f_op rfl rfl (s_load Try.underlying3 rfl rfl (ldI_eq hx7)) ?_
  refine f_op rfl rfl (s_mul rfl rfl) ?_
  refine o_bind ?_; intro p8 hp8
  refine f_op rfl rfl (s_callO rfl ok100 (sim100 hp8) rfl rfl) ?_
  refine o_bind ?_; intro H9 hH9
  refine f_op rfl rfl (s_stores ty24 rfl rfl rfl rfl hH9 (Nat.le_of_eq (sts_mono hH9).symm)) ?_
  refine f_nil ?_
  refine f_bind ?_; intro x10 hx10
  refine f_bind ?_; intro x11 hx11
  exact f_ret (.cells Try.underlying24 rfl sz24 rfl (lds_cons (ldI_eq hx10) (lds_cons (ldI_eq hx11) (lds_nil))) (.nil)) rfl

/- 99 congou/cuts.times -/
theorem ok99 : FnOk Try.prog 99 := ⟨⟨Try.f99, Try.func99, by kernel_rfl, rfl⟩⟩
theorem sim99 {a0 : Int} {a1_0 : Int} {a1_1 : Int} {H : Hp} {p : (Int × Int) × Hp} (h : r99 a0 a1_0 a1_1 H = some p) : CallSim Try.prog 99 [.int .i64 a0, .agg [.int .i64 a1_0, .int .i64 a1_1]] H (.agg [.int .i64 p.1.1, .int .i64 p.1.2]) p.2 := by
  refine callSim (fn := Try.f99) (ret := ret99) Try.func99 rfl Try.ntmps99 rfl ?_ h
  unfold r99
  refine f_seq ?_
  refine f_region ?_
  refine f_op rfl rfl (s_box (v := .agg [.int .i64 a1_0, .int .i64 a1_1]) rfl rfl) ?_
  refine f_op rfl rfl (s_alloc (zs := [.int .i64 0, .int .i64 0]) ty24 rfl rfl) ?_
  refine o_hp ?_; intro H1 hH1
  refine f_nil ?_
  refine f_seq ?_
  refine f_region ?_
  refine f_op rfl rfl (s_mv (v := .int .i64 a0) rfl) ?_
  refine f_op rfl rfl (s_fieldAddr Try.underlying24 rfl ty3 rfl) ?_
  refine o_bind ?_; intro x2 hx2
  refine f_op rfl rfl (s_load Try.underlying3 rfl rfl (ldI_eq hx2)) ?_
  refine f_op rfl rfl (s_mul rfl rfl) ?_
  refine f_op rfl rfl (s_fieldAddr Try.underlying24 rfl ty3 rfl) ?_
  refine o_bind ?_; intro x3 hx3
  refine f_op rfl rfl (s_load Try.underlying3 rfl rfl (ldI_eq hx3)) ?_
  refine o_bind ?_; intro p4 hp4
  refine f_op rfl rfl (s_callO rfl ok100 (sim100 hp4) rfl rfl) ?_
  refine o_bind ?_; intro H5 hH5
  refine f_op rfl rfl (s_stores ty24 rfl rfl rfl rfl hH5 (Nat.le_of_eq (sts_mono hH5).symm)) ?_
  refine f_nil ?_
  refine f_bind ?_; intro x6 hx6
  refine f_bind ?_; intro x7 hx7
  exact f_ret (.cells Try.underlying24 rfl sz24 rfl (lds_cons (ldI_eq hx6) (lds_cons (ldI_eq hx7) (lds_nil))) (.nil)) rfl

/- 69 (congou/cuts.Side).at -/
theorem ok69 : FnOk Try.prog 69 := ⟨⟨Try.f69, Try.func69, by kernel_rfl, rfl⟩⟩
theorem sim69 {a0_0 : Int} {a0_1 : Int} {a0_2 : Int} {a1_0 : Int} {a1_1 : Int} {a1_2 : Int} {a1_3 : Int} {H : Hp} {p : (Int × Int) × Hp} (h : r69 a0_0 a0_1 a0_2 a1_0 a1_1 a1_2 a1_3 H = some p) : CallSim Try.prog 69 [.agg [.int .i64 a0_0, .int .i64 a0_1, .int .i64 a0_2], .agg [.int .i64 a1_0, .int .i64 a1_1, .int .i64 a1_2, .int .i64 a1_3]] H (.agg [.int .i64 p.1.1, .int .i64 p.1.2]) p.2 := by
  refine callSim (fn := Try.f69) (ret := ret69) Try.func69 rfl Try.ntmps69 rfl ?_ h
  unfold r69
  refine f_seq ?_
  refine f_region ?_
  refine f_op rfl rfl (s_box (v := .agg [.int .i64 a0_0, .int .i64 a0_1, .int .i64 a0_2]) rfl rfl) ?_
  refine f_op rfl rfl (s_box (v := .agg [.int .i64 a1_0, .int .i64 a1_1, .int .i64 a1_2, .int .i64 a1_3]) rfl rfl) ?_
  refine f_op rfl rfl (s_alloc (zs := [.int .i64 0, .int .i64 0]) ty24 rfl rfl) ?_
  refine o_hp ?_; intro H1 hH1
  refine f_nil ?_
  refine f_seq ?_
  refine f_bind ?_; intro x2 hx2
  refine f_bind ?_; intro x3 hx3
  refine f_bind ?_; intro x4 hx4
  refine f_bind ?_; intro p5 hp5
  refine f_bind ?_; intro x6 hx6
  refine f_bind ?_; intro x7 hx7
  refine f_bind ?_; intro x8 hx8
  refine f_bind ?_; intro p9 hp9
  refine f_bind ?_; intro p10 hp10
  refine f_bind ?_; intro H11 hH11
  refine f_draw (Φ := fun _ => True) (lim := 1000000) [0, 1, 0, 1, 0, 0, 1, 0, 1, 0, 0, 2] (Trc.pure rfl rfl rfl (.inl fun _ => s_fieldAddr Try.underlying47 rfl ty3 rfl) (Trc.read rfl rfl rfl (s_load Try.underlying3 rfl rfl (ldI_eq hx2)) (Trc.pure rfl rfl rfl (.inl fun _ => s_fieldAddr Try.underlying32 rfl ty24 rfl) (Trc.read rfl rfl rfl (s_loads Try.underlying24 rfl ty24 rfl (lds_cons (ldI_eq hx3) (lds_cons (ldI_eq hx4) (lds_nil)))) (Trc.pure rfl rfl rfl (.inl fun _ => s_callO rfl ok99 (sim99 hp5) rfl rfl) (Trc.pure rfl rfl rfl (.inl fun _ => s_fieldAddr Try.underlying47 rfl ty3 rfl) (Trc.read rfl rfl rfl (s_load Try.underlying3 rfl rfl (ldI_eq hx6)) (Trc.pure rfl rfl rfl (.inl fun _ => s_fieldAddr Try.underlying32 rfl ty24 rfl) (Trc.read rfl rfl rfl (s_loads Try.underlying24 rfl ty24 rfl (lds_cons (ldI_eq hx7) (lds_cons (ldI_eq hx8) (lds_nil)))) (Trc.pure rfl rfl rfl (.inl fun _ => s_callO rfl ok99 (sim99 hp9) rfl rfl) (Trc.pure rfl rfl rfl (.inl fun _ => s_callO rfl ok98 (sim98 hp10) rfl rfl) (Trc.eff rfl rfl rfl (fun _ => trivial) (s_stores ty24 rfl rfl rfl rfl hH11 (Nat.le_of_eq (sts_mono hH11).symm)) (Trc.nil (fun _ => trivial)))))))))))))) rfl (by decide +kernel) mixed ?_
  refine f_bind ?_; intro x12 hx12
  refine f_bind ?_; intro x13 hx13
  exact f_ret (.cells Try.underlying24 rfl sz24 rfl (lds_cons (ldI_eq hx12) (lds_cons (ldI_eq hx13) (lds_nil))) (.nil)) rfl

/- 89 congou/cuts.compare -/
theorem ok89 : FnOk Try.prog 89 := ⟨⟨Try.f89, Try.func89, by kernel_rfl, rfl⟩⟩
theorem sim89 {a0_0 : Int} {a0_1 : Int} {a1_0 : Int} {a1_1 : Int} {H : Hp} {p : Int × Hp} (h : r89 a0_0 a0_1 a1_0 a1_1 H = some p) : CallSim Try.prog 89 [.agg [.int .i64 a0_0, .int .i64 a0_1], .agg [.int .i64 a1_0, .int .i64 a1_1]] H (.int .i64 p.1) p.2 := by
  refine callSim (fn := Try.f89) (ret := ret89) Try.func89 rfl Try.ntmps89 rfl ?_ h
  unfold r89
  refine f_seq ?_
  refine f_region ?_
  refine f_op rfl rfl (s_box (v := .agg [.int .i64 a0_0, .int .i64 a0_1]) rfl rfl) ?_
  refine f_op rfl rfl (s_box (v := .agg [.int .i64 a1_0, .int .i64 a1_1]) rfl rfl) ?_
  refine f_op rfl rfl (s_as (v := .int .i64 0) rfl) ?_
  refine o_hp ?_; intro H1 hH1
  refine f_nil ?_
  refine f_seq ?_
  refine f_region ?_
  refine f_op rfl rfl (s_fieldAddr Try.underlying24 rfl ty3 rfl) ?_
  refine o_bind ?_; intro x2 hx2
  refine f_op rfl rfl (s_load Try.underlying3 rfl rfl (ldI_eq hx2)) ?_
  refine f_op rfl rfl (s_fieldAddr Try.underlying24 rfl ty3 rfl) ?_
  refine o_bind ?_; intro x3 hx3
  refine f_op rfl rfl (s_load Try.underlying3 rfl rfl (ldI_eq hx3)) ?_
  refine f_op rfl rfl (s_mul rfl rfl) ?_
  refine f_op rfl rfl (s_fieldAddr Try.underlying24 rfl ty3 rfl) ?_
  refine o_bind ?_; intro x4 hx4
  refine f_op rfl rfl (s_load Try.underlying3 rfl rfl (ldI_eq hx4)) ?_
  refine f_op rfl rfl (s_fieldAddr Try.underlying24 rfl ty3 rfl) ?_
  refine o_bind ?_; intro x5 hx5
  refine f_op rfl rfl (s_load Try.underlying3 rfl rfl (ldI_eq hx5)) ?_
  refine f_op rfl rfl (s_mul rfl rfl) ?_
  refine o_bind ?_; intro p6 hp6
  refine f_op rfl rfl (s_callO rfl ok84 (sim84 hp6) rfl rfl) ?_
  refine f_op rfl rfl (s_as (v := .int .i64 p6.1) rfl) ?_
  refine f_nil ?_
  exact f_ret (.tmp rfl (.nil)) rfl

/- 70 (congou/cuts.Side).keeps -/
theorem ok70 : FnOk Try.prog 70 := ⟨⟨Try.f70, Try.func70, by kernel_rfl, rfl⟩⟩
theorem sim70 {a0_0 : Int} {a0_1 : Int} {a0_2 : Int} {a1_0 : Int} {a1_1 : Int} {a1_2 : Int} {a1_3 : Int} {H : Hp} {p : Bool × Hp} (h : r70 a0_0 a0_1 a0_2 a1_0 a1_1 a1_2 a1_3 H = some p) : CallSim Try.prog 70 [.agg [.int .i64 a0_0, .int .i64 a0_1, .int .i64 a0_2], .agg [.int .i64 a1_0, .int .i64 a1_1, .int .i64 a1_2, .int .i64 a1_3]] H (.bool p.1) p.2 := by
  refine callSim (fn := Try.f70) (ret := ret70) Try.func70 rfl Try.ntmps70 rfl ?_ h
  unfold r70
  refine f_seq ?_
  refine f_region ?_
  refine f_op rfl rfl (s_box (v := .agg [.int .i64 a0_0, .int .i64 a0_1, .int .i64 a0_2]) rfl rfl) ?_
  refine f_op rfl rfl (s_box (v := .agg [.int .i64 a1_0, .int .i64 a1_1, .int .i64 a1_2, .int .i64 a1_3]) rfl rfl) ?_
  refine f_op rfl rfl (s_as (v := .bool false) rfl) ?_
  refine o_hp ?_; intro H1 hH1
  refine f_nil ?_
  refine f_seq ?_
  refine f_bind ?_; intro x2 hx2
  refine f_bind ?_; intro x3 hx3
  refine f_bind ?_; intro x4 hx4
  refine f_bind ?_; intro x5 hx5
  refine f_bind ?_; intro x6 hx6
  refine f_bind ?_; intro x7 hx7
  refine f_bind ?_; intro x8 hx8
  refine f_bind ?_; intro p9 hp9
  refine f_bind ?_; intro x10 hx10
  refine f_bind ?_; intro p11 hp11
  refine f_bind ?_; intro p12 hp12
  refine f_draw (Φ := fun _ => True) (lim := 1000000) [1, 1, 0, 0, 1, 0, 0, 0, 0] (Trc.read rfl rfl rfl (s_loads Try.underlying47 rfl ty47 rfl (lds_cons (ldI_eq hx2) (lds_cons (ldI_eq hx3) (lds_cons (ldI_eq hx4) (lds_nil))))) (Trc.read rfl rfl rfl (s_loads Try.underlying32 rfl ty32 rfl (lds_cons (ldI_eq hx5) (lds_cons (ldI_eq hx6) (lds_cons (ldI_eq hx7) (lds_cons (ldI_eq hx8) (lds_nil)))))) (Trc.pure rfl rfl rfl (.inl fun _ => s_callO rfl ok69 (sim69 hp9) rfl rfl) (Trc.pure rfl rfl rfl (.inl fun _ => s_fieldAddr Try.underlying47 rfl ty3 rfl) (Trc.read rfl rfl rfl (s_load Try.underlying3 rfl rfl (ldI_eq hx10)) (Trc.pure rfl rfl rfl (.inl fun _ => s_callO rfl ok100 (sim100 hp11) rfl rfl) (Trc.pure rfl rfl rfl (.inl fun _ => s_callO rfl ok89 (sim89 hp12) rfl rfl) (Trc.pure rfl rfl rfl (.inl fun _ => s_leq rfl rfl) (Trc.pure rfl rfl rfl (.inl fun _ => s_as (v := .bool (decide (p12.1 ≤ 0))) rfl) (Trc.nil (fun _ => trivial))))))))))) rfl (by decide +kernel) mixed ?_
  exact f_ret (.tmp rfl (.nil)) rfl

/- 81 congou/cuts.Best$1 -/
theorem ok81 : FnOk Try.prog 81 := ⟨⟨Try.f81, Try.func81, by kernel_rfl, rfl⟩⟩
theorem sim81 {a0_0 : Int} {a0_1 : Int} {c0 : Nat} {c1 : Nat} {H : Hp} {p : Int × Hp} (h : r81 a0_0 a0_1 c0 c1 H = some p) : CallSim Try.prog 81 [.agg [.int .i64 a0_0, .int .i64 a0_1], .ptr c0 0, .ptr c1 0] H (.int .i64 p.1) p.2 := by
  refine callSim (fn := Try.f81) (ret := ret81) Try.func81 rfl Try.ntmps81 rfl ?_ h
  unfold r81
  refine f_seq ?_
  refine f_region ?_
  refine f_op rfl rfl (s_box (v := .agg [.int .i64 a0_0, .int .i64 a0_1]) rfl rfl) ?_
  refine f_op rfl rfl (s_as (v := .int .i64 0) rfl) ?_
  refine o_hp ?_; intro H1 hH1
  refine f_nil ?_
  refine f_seq ?_
  refine f_region ?_
  refine o_bind ?_; intro x2 hx2
  refine f_op rfl rfl (s_load Try.underlying3 rfl rfl (ldI_eq hx2)) ?_
  refine f_op rfl rfl (s_idxA Try.underlying43 ty3 rfl rfl (by decide)) ?_
  refine o_bind ?_; intro x3 hx3
  refine f_op rfl rfl (s_load Try.underlying3 rfl rfl (ldI_eq hx3)) ?_
  refine f_op rfl rfl (s_mul rfl rfl) ?_
  refine o_bind ?_; intro x4 hx4
  refine f_op rfl rfl (s_load Try.underlying3 rfl rfl (ldI_eq hx4)) ?_
  refine f_op rfl rfl (s_idxA Try.underlying43 ty3 rfl rfl (by decide)) ?_
  refine o_bind ?_; intro x5 hx5
  refine f_op rfl rfl (s_load Try.underlying3 rfl rfl (ldI_eq hx5)) ?_
  refine f_op rfl rfl (s_mul rfl rfl) ?_
  refine f_op rfl rfl (s_add rfl rfl) ?_
  refine f_op rfl rfl (s_as (v := .int .i64 (w64 ((w64 (x2 * x3)) + (w64 (x4 * x5))))) rfl) ?_
  refine f_nil ?_
  exact f_ret (.tmp rfl (.nil)) rfl

/- 83 congou/cuts.Best$2 -/
theorem ok83 : FnOk Try.prog 83 := ⟨⟨Try.f83, Try.func83, by kernel_rfl, rfl⟩⟩
theorem sim83 {app : App} (happ : AppSim Try.prog app) {a0_0 : Int} {a0_1 : Int} {a1_0 : Int} {a1_1 : Int} {c0 : Nat} {H : Hp} {p : Int × Hp} (h : r83 app a0_0 a0_1 a1_0 a1_1 c0 H = some p) : CallSim Try.prog 83 [.agg [.int .i64 a0_0, .int .i64 a0_1], .agg [.int .i64 a1_0, .int .i64 a1_1], .ptr c0 0] H (.int .i64 p.1) p.2 := by
  refine callSim (fn := Try.f83) (ret := ret83) Try.func83 rfl Try.ntmps83 rfl ?_ h
  unfold r83
  refine f_seq ?_
  refine f_region ?_
  refine f_op rfl rfl (s_box (v := .agg [.int .i64 a0_0, .int .i64 a0_1]) rfl rfl) ?_
  refine f_op rfl rfl (s_box (v := .agg [.int .i64 a1_0, .int .i64 a1_1]) rfl rfl) ?_
  refine f_op rfl rfl (s_as (v := .int .i64 0) rfl) ?_
  refine o_hp ?_; intro H1 hH1
  refine f_nil ?_
  refine f_seq ?_
  refine f_bind ?_; intro x2 hx2
  refine f_bind ?_; intro x3 hx3
  refine f_bind ?_; intro x4 hx4
  refine f_bind ?_; intro p5 hp5
  refine f_bind ?_; intro x6 hx6
  refine f_bind ?_; intro x7 hx7
  refine f_bind ?_; intro x8 hx8
  refine f_bind ?_; intro x9 hx9
  refine f_bind ?_; intro p10 hp10
  refine f_bind ?_; intro x11 hx11
  refine f_ck fun g12 => ?_
  refine f_ck fun g13 => ?_
  refine f_ck fun g14 => ?_
  refine f_draw (Φ := fun H_ => H_.ld c0 0 = some (x7) ∧ H_.ld ((H.push (.cells [.int .i64 a0_0, .int .i64 a0_1] false)).n) 0 = some (.int .i64 x8) ∧ H_.ld ((H.push (.cells [.int .i64 a0_0, .int .i64 a0_1] false)).n) (0 + 1) = some (.int .i64 x9)) (lim := 5) [1, 1, 2, 0, 0, 2, 0, 0] (Trc.read rfl rfl rfl (s_load Try.underlying117 rfl rfl (ldV_eq hx2)) (Trc.read rfl rfl rfl (s_loads Try.underlying43 rfl ty43 rfl (lds_cons (ldI_eq hx3) (lds_cons (ldI_eq hx4) (lds_nil)))) (Trc.eff rfl rfl rfl (fun _ => ⟨isV_eq g12, ldI_eq g13, ldI_eq g14⟩) (s_callv happ rfl rfl hp5) (Trc.know 8 rfl (asI_eq hx6) (Trc.pure rfl rfl rfl (.inr ⟨by decide +kernel, fun _ hp_ => s_load Try.underlying117 rfl rfl hp_.1⟩) (Trc.pure rfl rfl rfl (.inr ⟨by decide +kernel, fun _ hp_ => s_loads Try.underlying43 rfl ty43 rfl (lds_cons hp_.2.1 (lds_cons hp_.2.2 (lds_nil)))⟩) (Trc.eff rfl rfl rfl (fun _ => ⟨ldV_eq hx7, ldI_eq hx8, ldI_eq hx9⟩) (s_callv happ rfl rfl hp10) (Trc.know 11 rfl (asI_eq hx11) (Trc.pure rfl rfl rfl (.inl fun _ => s_sub rfl rfl) (Trc.pure rfl rfl rfl (.inl fun _ => s_as (v := .int .i64 (w64 (x6 - x11))) rfl) (Trc.nil (fun h_ => absurd h_ (by decide +kernel))))))))))))) rfl (by decide +kernel) mixed ?_
  exact f_ret (.tmp rfl (.nil)) rfl

/- 93 (congou/cuts.plate).valid$1 -/
theorem ok93 : FnOk Try.prog 93 := ⟨⟨Try.f93, Try.func93, by kernel_rfl, rfl⟩⟩
theorem sim93 {a0_0 : Int} {a0_1 : Int} {a0_2 : Int} {c0 : Nat} {H : Hp} {p : Bool × Hp} (h : r93 a0_0 a0_1 a0_2 c0 H = some p) : CallSim Try.prog 93 [.agg [.int .i64 a0_0, .int .i64 a0_1, .int .i64 a0_2], .ptr c0 0] H (.bool p.1) p.2 := by
  refine callSim (fn := Try.f93) (ret := ret93) Try.func93 rfl Try.ntmps93 rfl ?_ h
  unfold r93
  refine f_seq ?_
  refine f_region ?_
  refine f_op rfl rfl (s_box (v := .agg [.int .i64 a0_0, .int .i64 a0_1, .int .i64 a0_2]) rfl rfl) ?_
  refine f_op rfl rfl (s_as (v := .bool false) rfl) ?_
  refine o_hp ?_; intro H1 hH1
  refine f_nil ?_
  refine f_seq ?_
  refine f_region ?_
  refine f_op rfl rfl (s_fieldAddr Try.underlying47 rfl ty3 rfl) ?_
  refine o_bind ?_; intro x2 hx2
  refine f_op rfl rfl (s_load Try.underlying3 rfl rfl (ldI_eq hx2)) ?_
  refine f_op rfl rfl (s_idxA Try.underlying43 ty3 rfl rfl (by decide)) ?_
  refine o_bind ?_; intro x3 hx3
  refine f_op rfl rfl (s_load Try.underlying3 rfl rfl (ldI_eq hx3)) ?_
  refine f_op rfl rfl (s_mul rfl rfl) ?_
  refine f_op rfl rfl (s_fieldAddr Try.underlying47 rfl ty3 rfl) ?_
  refine o_bind ?_; intro x4 hx4
  refine f_op rfl rfl (s_load Try.underlying3 rfl rfl (ldI_eq hx4)) ?_
  refine f_op rfl rfl (s_idxA Try.underlying43 ty3 rfl rfl (by decide)) ?_
  refine o_bind ?_; intro x5 hx5
  refine f_op rfl rfl (s_load Try.underlying3 rfl rfl (ldI_eq hx5)) ?_
  refine f_op rfl rfl (s_mul rfl rfl) ?_
  refine f_op rfl rfl (s_add rfl rfl) ?_
  refine f_op rfl rfl (s_gtr rfl rfl) ?_
  refine f_op rfl rfl (s_as (v := .bool (decide (0 < (w64 ((w64 (x2 * x3)) + (w64 (x4 * x5))))))) rfl) ?_
  refine f_nil ?_
  exact f_ret (.tmp rfl (.nil)) rfl

/- 95 (congou/cuts.plate).has$1 -/
theorem ok95 : FnOk Try.prog 95 := ⟨⟨Try.f95, Try.func95, by kernel_rfl, rfl⟩⟩
theorem sim95 {a0_0 : Int} {a0_1 : Int} {a0_2 : Int} {c0 : Nat} {H : Hp} {p : Bool × Hp} (h : r95 a0_0 a0_1 a0_2 c0 H = some p) : CallSim Try.prog 95 [.agg [.int .i64 a0_0, .int .i64 a0_1, .int .i64 a0_2], .ptr c0 0] H (.bool p.1) p.2 := by
  refine callSim (fn := Try.f95) (ret := ret95) Try.func95 rfl Try.ntmps95 rfl ?_ h
  unfold r95
  refine f_seq ?_
  refine f_region ?_
  refine f_op rfl rfl (s_box (v := .agg [.int .i64 a0_0, .int .i64 a0_1, .int .i64 a0_2]) rfl rfl) ?_
  refine f_op rfl rfl (s_as (v := .bool false) rfl) ?_
  refine o_hp ?_; intro H1 hH1
  refine f_nil ?_
  refine f_seq ?_
  refine f_region ?_
  refine o_bind ?_; intro x2 hx2
  refine o_bind ?_; intro x3 hx3
  refine o_bind ?_; intro x4 hx4
  refine f_op rfl rfl (s_loads Try.underlying47 rfl ty47 rfl (lds_cons (ldI_eq hx2) (lds_cons (ldI_eq hx3) (lds_cons (ldI_eq hx4) (lds_nil))))) ?_
  refine o_bind ?_; intro x5 hx5
  refine o_bind ?_; intro x6 hx6
  refine o_bind ?_; intro x7 hx7
  refine o_bind ?_; intro x8 hx8
  refine f_op rfl rfl (s_loads Try.underlying32 rfl ty32 rfl (lds_cons (ldI_eq hx5) (lds_cons (ldI_eq hx6) (lds_cons (ldI_eq hx7) (lds_cons (ldI_eq hx8) (lds_nil)))))) ?_
  refine o_bind ?_; intro p9 hp9
  refine f_op rfl rfl (s_callO rfl ok70 (sim70 hp9) rfl rfl) ?_
  refine f_op rfl rfl (s_not rfl) ?_
  refine f_op rfl rfl (s_as (v := .bool (!p9.1)) rfl) ?_
  refine f_nil ?_
  exact f_ret (.tmp rfl (.nil)) rfl

/- 106 congou/cuts.within$1 -/
theorem ok106 : FnOk Try.prog 106 := ⟨⟨Try.f106, Try.func106, by kernel_rfl, rfl⟩⟩
theorem sim106 {a0 : Int} {c0 : Nat} {H : Hp} {p : Bool × Hp} (h : r106 a0 c0 H = some p) : CallSim Try.prog 106 [.int .i64 a0, .ptr c0 0] H (.bool p.1) p.2 := by
  refine callSim (fn := Try.f106) (ret := ret106) Try.func106 rfl Try.ntmps106 rfl ?_ h
  unfold r106
  refine f_seq ?_
  refine f_region ?_
  refine f_op rfl rfl (s_as (v := .bool false) rfl) ?_
  refine f_nil ?_
  refine f_seq ?_
  refine f_region ?_
  refine f_op rfl rfl (s_mv (v := .int .i64 a0) rfl) ?_
  refine o_bind ?_; intro x1 hx1
  refine f_op rfl rfl (s_load Try.underlying3 rfl rfl (ldI_eq hx1)) ?_
  refine f_op rfl rfl (s_neg rfl) ?_
  refine f_op rfl rfl (s_lss rfl rfl) ?_
  refine f_op rfl rfl (s_mv (v := .bool (decide (a0 < (w64 (0 - x1))))) rfl) ?_
  refine o_if (fun h2 => ?_) (fun h2 => ?_)
  · skip
    refine o_know 8 rfl (dec_true h2) ?_
    refine f_no rfl rfl ?_
    refine f_no rfl rfl ?_
    refine f_no rfl rfl ?_
    refine f_op rfl rfl (s_pickT (v := .bool true) rfl rfl) ?_
    refine f_op rfl rfl (s_as (v := .bool true) rfl) ?_
    refine f_nil ?_
    exact f_ret (.tmp rfl (.nil)) rfl
  · skip
    refine o_know 8 rfl (dec_false h2) ?_
    refine f_op rfl rfl (s_mv (v := .int .i64 a0) rfl) ?_
    refine o_bind ?_; intro x3 hx3
    refine f_op rfl rfl (s_load Try.underlying3 rfl rfl (ldI_eq hx3)) ?_
    refine f_op rfl rfl (s_gtr rfl rfl) ?_
    refine f_op rfl rfl (s_pickF (v := .bool (decide (x3 < a0))) rfl rfl) ?_
    refine f_op rfl rfl (s_as (v := .bool (decide (x3 < a0))) rfl) ?_
    refine f_nil ?_
    exact f_ret (.tmp rfl (.nil)) rfl

end Go.Lt.P2
