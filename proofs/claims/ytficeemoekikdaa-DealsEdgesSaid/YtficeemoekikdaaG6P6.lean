/- PRINTED BY A PROGRAM OF OURS: what each function that 'DealsEdges' reaches computes on the abstract heap, and that the translated code does just that. Nothing is asked of the input. -/
import Derived.Test.YtficeemoekikdaaG6P5
set_option linter.unusedVariables false
set_option linter.unusedSimpArgs false
set_option maxRecDepth 100000
set_option maxHeartbeats 4000000
namespace Go.Lt.P5
open Go Go.Lt Go.Proofs
/- 57 congou/congouref05.last -/
theorem ok57 : FnOk Try.prog 57 := ⟨⟨Try.f57, Try.func57, by kernel_rfl, rfl⟩⟩
theorem s57_j3 (kt1 : Sl → Nat → Nat → Sl → Int → Int → Sl → Int → Int → Hp → Option (Bool × Hp)) (hkt1 : ∀ (v1 : Sl) (v2 : Nat) (v3 : Nat) (v4 : Sl) (v5 : Int) (v6 : Int) (v7 : Sl) (v8 : Int) (v9 : Int) (H : Hp), Fin Try.prog Try.f57 ret57 77 (todoAt (bodyOf Try.f57) [1, 0, 1, 0, 0, 1, 1, 0, 0, 1, 1, 1, 0, 0] []) [(0, .sl v1), (3, .ptr v2 0), (6, .ptr v3 0), (9, .sl v4), (10, .int .i64 v5), (11, .int .i64 v6), (32, .sl v7), (33, .int .i64 v8), (34, .int .i64 v9)] H (kt1 v1 v2 v3 v4 v5 v6 v7 v8 v9 H)) (v1 : Sl) (v2 : Nat) (v3 : Nat) (v4 : Sl) (v5 : Int) (v6 : Int) (v7 : Sl) (v8 : Int) (v9 : Int) (v10 : Bool) (H : Hp) : Fin Try.prog Try.f57 ret57 77 (todoAt (bodyOf Try.f57) [1, 0, 1, 0, 0, 1, 1, 0, 0, 1, 1, 1, 0, 0, 1, 1, 0, 0, 1, 1] []) [(0, .sl v1), (3, .ptr v2 0), (6, .ptr v3 0), (9, .sl v4), (10, .int .i64 v5), (11, .int .i64 v6), (32, .sl v7), (33, .int .i64 v8), (34, .int .i64 v9), (74, .bool v10)] H (r57_j3 kt1 v1 v2 v3 v4 v5 v6 v7 v8 v9 v10 H) := by
  unfold r57_j3
  refine f_if (fun h1 => ?_) (fun h1 => ?_)
  · skip
    refine f_know 74 rfl (bool_T h1) ?_
    refine f_condT rfl ?_
    refine f_seq ?_
    refine f_region ?_
    refine f_op rfl rfl (s_as (v := .bool false) rfl) ?_
    refine f_nil ?_
    exact f_ret (.tmp rfl (.nil)) rfl
  · skip
    refine f_know 74 rfl (bool_F h1) ?_
    refine f_condF rfl ?_
    refine f_skip ?_
    refine f_inBlock ?_
    refine f_region ?_
    refine f_op rfl rfl (s_add rfl rfl) ?_
    refine f_op rfl rfl (s_mv (v := .int .i64 (w64 (v9 + 1))) rfl) ?_
    refine f_nil ?_
    refine f_inLoop ?_
    refine f_keep [0, 3, 6, 9, 10, 11, 32, 33, 34] ?_
    exact hkt1 v1 v2 v3 v4 v5 v6 v7 v8 (w64 (v9 + 1)) H

theorem s57_l1 (kt0 : Sl → Nat → Sl → Int → Int → Hp → Option (Bool × Hp)) (hkt0 : ∀ (v1 : Sl) (v2 : Nat) (v3 : Sl) (v4 : Int) (v5 : Int) (H : Hp), Fin Try.prog Try.f57 ret57 77 (todoAt (bodyOf Try.f57) [1, 0, 1, 0, 0] []) [(0, .sl v1), (3, .ptr v2 0), (9, .sl v3), (10, .int .i64 v4), (11, .int .i64 v5)] H (kt0 v1 v2 v3 v4 v5 H)) : ∀ (k_ : Nat) (v1 : Sl) (v2 : Nat) (v3 : Nat) (v4 : Sl) (v5 : Int) (v6 : Int) (v7 : Sl) (v8 : Int) (v9 : Int) (H : Hp), Fin Try.prog Try.f57 ret57 77 (todoAt (bodyOf Try.f57) [1, 0, 1, 0, 0, 1, 1, 0, 0, 1, 1, 1, 0, 0] []) [(0, .sl v1), (3, .ptr v2 0), (6, .ptr v3 0), (9, .sl v4), (10, .int .i64 v5), (11, .int .i64 v6), (32, .sl v7), (33, .int .i64 v8), (34, .int .i64 v9)] H (r57_l1 kt0 k_ v1 v2 v3 v4 v5 v6 v7 v8 v9 H) := by
  intro k_
  induction k_ with
  | zero => intro _ _ _ _ _ _ _ _ _ _; exact f_none
  | succ k_ ih =>
    intro v1 v2 v3 v4 v5 v6 v7 v8 v9 H
    rw [r57_l1]
    refine f_seq ?_
    refine f_region ?_
    refine f_op rfl rfl (s_lss rfl rfl) ?_
    refine f_nil ?_
    refine f_seq ?_
    refine f_if (fun h1 => ?_) (fun h1 => ?_)
    · skip
      refine f_know 35 rfl (dec_true h1) ?_
      refine f_condT rfl ?_
      refine f_skip ?_
      refine f_seq ?_
      refine f_block ?_
      refine f_seq ?_
      refine f_region ?_
      refine o_ck fun g2 => ?_
      refine f_op rfl rfl (s_idx Try.underlying35 ty49 rfl rfl g2) ?_
      refine o_bind ?_; intro x3 hx3
      refine o_bind ?_; intro x4 hx4
      refine f_op rfl rfl (s_loads Try.underlying49 rfl ty49 rfl (lds_cons (ldI_eq hx3) (lds_cons (ldI_eq hx4) (lds_nil)))) ?_
      refine f_op rfl rfl (s_alloc (zs := [.int .i64 0, .int .i64 0]) ty49 rfl rfl) ?_
      refine o_bind ?_; intro H5 hH5
      refine f_op rfl rfl (s_stores ty49 rfl rfl rfl rfl hH5 (Nat.le_of_eq (sts_mono hH5).symm)) ?_
      refine f_nil ?_
      refine f_seq ?_
      refine f_region ?_
      refine f_op rfl rfl (s_idxA Try.underlying49 ty3 rfl rfl (by decide)) ?_
      refine o_bind ?_; intro x6 hx6
      refine f_op rfl rfl (s_load Try.underlying3 rfl rfl (ldI_eq hx6)) ?_
      refine f_op rfl rfl (s_idxA Try.underlying49 ty3 rfl rfl (by decide)) ?_
      refine o_bind ?_; intro x7 hx7
      refine f_op rfl rfl (s_load Try.underlying3 rfl rfl (ldI_eq hx7)) ?_
      refine f_op rfl rfl (s_lss rfl rfl) ?_
      refine f_op rfl rfl (s_mv (v := .bool (decide (x6 < x7))) rfl) ?_
      refine o_if (fun h8 => ?_) (fun h8 => ?_)
      · skip
        refine o_know 43 rfl (dec_true h8) ?_
        refine f_op rfl rfl (s_idxA Try.underlying49 ty3 rfl rfl (by decide)) ?_
        refine o_bind ?_; intro x9 hx9
        refine f_op rfl rfl (s_load Try.underlying3 rfl rfl (ldI_eq hx9)) ?_
        refine f_op rfl rfl (s_idxA Try.underlying49 ty3 rfl rfl (by decide)) ?_
        refine o_bind ?_; intro x10 hx10
        refine f_op rfl rfl (s_load Try.underlying3 rfl rfl (ldI_eq hx10)) ?_
        refine f_op rfl rfl (s_lss rfl rfl) ?_
        refine f_op rfl rfl (s_pickT (v := .bool (decide (x9 < x10))) rfl rfl) ?_
        refine f_op rfl rfl (s_mv (v := .bool (decide (x9 < x10))) rfl) ?_
        refine o_if (fun h11 => ?_) (fun h11 => ?_)
        · skip
          refine o_know 50 rfl (dec_true h11) ?_
          refine f_op rfl rfl (s_idxA Try.underlying49 ty3 rfl rfl (by decide)) ?_
          refine o_bind ?_; intro x12 hx12
          refine f_op rfl rfl (s_load Try.underlying3 rfl rfl (ldI_eq hx12)) ?_
          refine f_op rfl rfl (s_idxA Try.underlying49 ty3 rfl rfl (by decide)) ?_
          refine o_bind ?_; intro x13 hx13
          refine f_op rfl rfl (s_load Try.underlying3 rfl rfl (ldI_eq hx13)) ?_
          refine f_op rfl rfl (s_sub rfl rfl) ?_
          refine f_op rfl rfl (s_idxA Try.underlying49 ty3 rfl rfl (by decide)) ?_
          refine o_bind ?_; intro x14 hx14
          refine f_op rfl rfl (s_load Try.underlying3 rfl rfl (ldI_eq hx14)) ?_
          refine f_op rfl rfl (s_idxA Try.underlying49 ty3 rfl rfl (by decide)) ?_
          refine o_bind ?_; intro x15 hx15
          refine f_op rfl rfl (s_load Try.underlying3 rfl rfl (ldI_eq hx15)) ?_
          refine f_op rfl rfl (s_sub rfl rfl) ?_
          refine f_op rfl rfl (s_mul rfl rfl) ?_
          refine f_op rfl rfl (s_idxA Try.underlying49 ty3 rfl rfl (by decide)) ?_
          refine o_bind ?_; intro x16 hx16
          refine f_op rfl rfl (s_load Try.underlying3 rfl rfl (ldI_eq hx16)) ?_
          refine f_op rfl rfl (s_idxA Try.underlying49 ty3 rfl rfl (by decide)) ?_
          refine o_bind ?_; intro x17 hx17
          refine f_op rfl rfl (s_load Try.underlying3 rfl rfl (ldI_eq hx17)) ?_
          refine f_op rfl rfl (s_sub rfl rfl) ?_
          refine f_op rfl rfl (s_idxA Try.underlying49 ty3 rfl rfl (by decide)) ?_
          refine o_bind ?_; intro x18 hx18
          refine f_op rfl rfl (s_load Try.underlying3 rfl rfl (ldI_eq hx18)) ?_
          refine f_op rfl rfl (s_idxA Try.underlying49 ty3 rfl rfl (by decide)) ?_
          refine o_bind ?_; intro x19 hx19
          refine f_op rfl rfl (s_load Try.underlying3 rfl rfl (ldI_eq hx19)) ?_
          refine f_op rfl rfl (s_sub rfl rfl) ?_
          refine f_op rfl rfl (s_mul rfl rfl) ?_
          refine f_op rfl rfl (s_gtr rfl rfl) ?_
          refine f_op rfl rfl (s_pickT (v := .bool (decide ((w64 ((w64 (x16 - x17)) * (w64 (x18 - x19)))) < (w64 ((w64 (x12 - x13)) * (w64 (x14 - x15))))))) rfl rfl) ?_
          refine f_nil ?_
          refine f_keep [0, 3, 6, 9, 10, 11, 32, 33, 34, 74] ?_
          exact s57_j3 _ (fun v1_ v2_ v3_ v4_ v5_ v6_ v7_ v8_ v9_ H_ => ih v1_ v2_ v3_ v4_ v5_ v6_ v7_ v8_ v9_ H_) v1 v2 v3 v4 v5 v6 v7 v8 v9 (decide ((w64 ((w64 (x16 - x17)) * (w64 (x18 - x19)))) < (w64 ((w64 (x12 - x13)) * (w64 (x14 - x15)))))) H5
        · skip
          refine o_know 50 rfl (dec_false h11) ?_
          refine f_no rfl rfl ?_
          refine f_no rfl rfl ?_
          refine f_no rfl rfl ?_
          refine f_no rfl rfl ?_
          refine f_no rfl rfl ?_
          refine f_no rfl rfl ?_
          refine f_no rfl rfl ?_
          refine f_no rfl rfl ?_
          refine f_no rfl rfl ?_
          refine f_no rfl rfl ?_
          refine f_no rfl rfl ?_
          refine f_no rfl rfl ?_
          refine f_no rfl rfl ?_
          refine f_no rfl rfl ?_
          refine f_no rfl rfl ?_
          refine f_no rfl rfl ?_
          refine f_no rfl rfl ?_
          refine f_no rfl rfl ?_
          refine f_no rfl rfl ?_
          refine f_no rfl rfl ?_
          refine f_no rfl rfl ?_
          refine f_no rfl rfl ?_
          refine f_no rfl rfl ?_
          refine f_op rfl rfl (s_pickF (v := .bool false) rfl rfl) ?_
          refine f_nil ?_
          refine f_keep [0, 3, 6, 9, 10, 11, 32, 33, 34, 74] ?_
          exact s57_j3 _ (fun v1_ v2_ v3_ v4_ v5_ v6_ v7_ v8_ v9_ H_ => ih v1_ v2_ v3_ v4_ v5_ v6_ v7_ v8_ v9_ H_) v1 v2 v3 v4 v5 v6 v7 v8 v9 false H5
      · skip
        refine o_know 43 rfl (dec_false h8) ?_
        refine f_no rfl rfl ?_
        refine f_no rfl rfl ?_
        refine f_no rfl rfl ?_
        refine f_no rfl rfl ?_
        refine f_no rfl rfl ?_
        refine f_op rfl rfl (s_pickF (v := .bool false) rfl rfl) ?_
        refine f_op rfl rfl (s_mv (v := .bool false) rfl) ?_
        refine f_no rfl rfl ?_
        refine f_no rfl rfl ?_
        refine f_no rfl rfl ?_
        refine f_no rfl rfl ?_
        refine f_no rfl rfl ?_
        refine f_no rfl rfl ?_
        refine f_no rfl rfl ?_
        refine f_no rfl rfl ?_
        refine f_no rfl rfl ?_
        refine f_no rfl rfl ?_
        refine f_no rfl rfl ?_
        refine f_no rfl rfl ?_
        refine f_no rfl rfl ?_
        refine f_no rfl rfl ?_
        refine f_no rfl rfl ?_
        refine f_no rfl rfl ?_
        refine f_no rfl rfl ?_
        refine f_no rfl rfl ?_
        refine f_no rfl rfl ?_
        refine f_no rfl rfl ?_
        refine f_no rfl rfl ?_
        refine f_no rfl rfl ?_
        refine f_no rfl rfl ?_
        refine f_op rfl rfl (s_pickF (v := .bool false) rfl rfl) ?_
        refine f_nil ?_
        refine f_keep [0, 3, 6, 9, 10, 11, 32, 33, 34, 74] ?_
        exact s57_j3 _ (fun v1_ v2_ v3_ v4_ v5_ v6_ v7_ v8_ v9_ H_ => ih v1_ v2_ v3_ v4_ v5_ v6_ v7_ v8_ v9_ H_) v1 v2 v3 v4 v5 v6 v7 v8 v9 false H5
    · skip
      refine f_know 35 rfl (dec_false h1) ?_
      refine f_condF rfl ?_
      refine f_exit rfl ?_
      refine f_inBlock ?_
      refine f_region ?_
      refine f_op rfl rfl (s_add rfl rfl) ?_
      refine f_op rfl rfl (s_mv (v := .int .i64 (w64 (v6 + 1))) rfl) ?_
      refine f_nil ?_
      refine f_inLoop ?_
      refine f_keep [0, 3, 9, 10, 11] ?_
      exact hkt0 v1 v2 v4 v5 (w64 (v6 + 1)) H

theorem s57_j2 (kt0 : Sl → Nat → Sl → Int → Int → Hp → Option (Bool × Hp)) (hkt0 : ∀ (v1 : Sl) (v2 : Nat) (v3 : Sl) (v4 : Int) (v5 : Int) (H : Hp), Fin Try.prog Try.f57 ret57 77 (todoAt (bodyOf Try.f57) [1, 0, 1, 0, 0] []) [(0, .sl v1), (3, .ptr v2 0), (9, .sl v3), (10, .int .i64 v4), (11, .int .i64 v5)] H (kt0 v1 v2 v3 v4 v5 H)) (v1 : Sl) (v2 : Nat) (v3 : Nat) (v4 : Sl) (v5 : Int) (v6 : Int) (v7 : Bool) (H : Hp) : Fin Try.prog Try.f57 ret57 77 (todoAt (bodyOf Try.f57) [1, 0, 1, 0, 0, 1, 1, 0, 0, 1, 0, 1] []) [(0, .sl v1), (3, .ptr v2 0), (6, .ptr v3 0), (9, .sl v4), (10, .int .i64 v5), (11, .int .i64 v6), (31, .bool v7)] H (r57_j2 kt0 v1 v2 v3 v4 v5 v6 v7 H) := by
  unfold r57_j2
  refine f_if (fun h1 => ?_) (fun h1 => ?_)
  · skip
    refine f_know 31 rfl (bool_T h1) ?_
    refine f_condT rfl ?_
    refine f_seq ?_
    refine f_region ?_
    refine f_op rfl rfl (s_as (v := .bool false) rfl) ?_
    refine f_nil ?_
    exact f_ret (.tmp rfl (.nil)) rfl
  · skip
    refine f_know 31 rfl (bool_F h1) ?_
    refine f_condF rfl ?_
    refine f_skip ?_
    refine f_seq ?_
    refine f_region ?_
    refine f_op rfl rfl (s_mv (v := .sl v1) rfl) ?_
    refine f_op rfl rfl (s_lenS rfl Try.underlying35 rfl) ?_
    refine f_op rfl rfl (s_mv (v := .int .i64 0) rfl) ?_
    refine f_nil ?_
    refine f_block ?_
    refine f_loop ?_
    refine f_keep [0, 3, 6, 9, 10, 11, 32, 33, 34] ?_
    exact s57_l1 _ hkt0 FUEL v1 v2 v3 v4 v5 v6 v1 (v1.len : Int) 0 H

theorem s57_l0 : ∀ (k_ : Nat) (v1 : Sl) (v2 : Nat) (v3 : Sl) (v4 : Int) (v5 : Int) (H : Hp), Fin Try.prog Try.f57 ret57 77 (todoAt (bodyOf Try.f57) [1, 0, 1, 0, 0] []) [(0, .sl v1), (3, .ptr v2 0), (9, .sl v3), (10, .int .i64 v4), (11, .int .i64 v5)] H (r57_l0 k_ v1 v2 v3 v4 v5 H) := by
  intro k_
  induction k_ with
  | zero => intro _ _ _ _ _ _; exact f_none
  | succ k_ ih =>
    intro v1 v2 v3 v4 v5 H
    rw [r57_l0]
    refine f_seq ?_
    refine f_region ?_
    refine f_op rfl rfl (s_lss rfl rfl) ?_
    refine f_nil ?_
    refine f_seq ?_
    refine f_if (fun h1 => ?_) (fun h1 => ?_)
    · skip
      refine f_know 12 rfl (dec_true h1) ?_
      refine f_condT rfl ?_
      refine f_skip ?_
      refine f_seq ?_
      refine f_block ?_
      refine f_seq ?_
      refine f_region ?_
      refine o_ck fun g2 => ?_
      refine f_op rfl rfl (s_idx Try.underlying35 ty49 rfl rfl g2) ?_
      refine o_bind ?_; intro x3 hx3
      refine o_bind ?_; intro x4 hx4
      refine f_op rfl rfl (s_loads Try.underlying49 rfl ty49 rfl (lds_cons (ldI_eq hx3) (lds_cons (ldI_eq hx4) (lds_nil)))) ?_
      refine f_op rfl rfl (s_alloc (zs := [.int .i64 0, .int .i64 0]) ty49 rfl rfl) ?_
      refine o_bind ?_; intro H5 hH5
      refine f_op rfl rfl (s_stores ty49 rfl rfl rfl rfl hH5 (Nat.le_of_eq (sts_mono hH5).symm)) ?_
      refine f_nil ?_
      refine f_seq ?_
      refine f_seq ?_
      refine f_region ?_
      refine o_bind ?_; intro x6 hx6
      refine o_bind ?_; intro x7 hx7
      refine f_op rfl rfl (s_loads Try.underlying49 rfl ty49 rfl (lds_cons (ldI_eq hx6) (lds_cons (ldI_eq hx7) (lds_nil)))) ?_
      refine o_bind ?_; intro x8 hx8
      refine o_bind ?_; intro x9 hx9
      refine f_op rfl rfl (s_loads Try.underlying49 rfl ty49 rfl (lds_cons (ldI_eq hx8) (lds_cons (ldI_eq hx9) (lds_nil)))) ?_
      refine f_op rfl rfl (s_neArr eg49 Try.underlying49 Try.underlying3 ty3 rfl rfl rfl rfl rfl rfl) ?_
      refine f_op rfl rfl (s_mv (v := .bool (!(AV.keqs [.int .i64 x6, .int .i64 x7] [.int .i64 x8, .int .i64 x9]))) rfl) ?_
      refine o_if (fun h10 => ?_) (fun h10 => ?_)
      · skip
        refine o_know 18 rfl (bool_notT h10) ?_
        refine f_no rfl rfl ?_
        refine f_no rfl rfl ?_
        refine f_no rfl rfl ?_
        refine f_no rfl rfl ?_
        refine f_no rfl rfl ?_
        refine f_op rfl rfl (s_pickF (v := .bool false) rfl rfl) ?_
        refine f_op rfl rfl (s_mv (v := .bool false) rfl) ?_
        refine f_no rfl rfl ?_
        refine f_no rfl rfl ?_
        refine f_no rfl rfl ?_
        refine f_no rfl rfl ?_
        refine f_no rfl rfl ?_
        refine f_op rfl rfl (s_pickF (v := .bool false) rfl rfl) ?_
        refine f_nil ?_
        refine f_keep [0, 3, 6, 9, 10, 11, 31] ?_
        exact s57_j2 _ (fun v1_ v2_ v3_ v4_ v5_ H_ => ih v1_ v2_ v3_ v4_ v5_ H_) v1 v2 H.n v3 v4 v5 false H5
      · skip
        refine o_know 18 rfl (bool_notF h10) ?_
        refine f_op rfl rfl (s_idxA Try.underlying49 ty3 rfl rfl (by decide)) ?_
        refine o_bind ?_; intro x11 hx11
        refine f_op rfl rfl (s_load Try.underlying3 rfl rfl (ldI_eq hx11)) ?_
        refine f_op rfl rfl (s_idxA Try.underlying49 ty3 rfl rfl (by decide)) ?_
        refine o_bind ?_; intro x12 hx12
        refine f_op rfl rfl (s_load Try.underlying3 rfl rfl (ldI_eq hx12)) ?_
        refine f_op rfl rfl (s_geq rfl rfl) ?_
        refine f_op rfl rfl (s_pickT (v := .bool (decide (x12 ≤ x11))) rfl rfl) ?_
        refine f_op rfl rfl (s_mv (v := .bool (decide (x12 ≤ x11))) rfl) ?_
        refine o_if (fun h13 => ?_) (fun h13 => ?_)
        · skip
          refine o_know 25 rfl (dec_true h13) ?_
          refine f_op rfl rfl (s_idxA Try.underlying49 ty3 rfl rfl (by decide)) ?_
          refine o_bind ?_; intro x14 hx14
          refine f_op rfl rfl (s_load Try.underlying3 rfl rfl (ldI_eq hx14)) ?_
          refine f_op rfl rfl (s_idxA Try.underlying49 ty3 rfl rfl (by decide)) ?_
          refine o_bind ?_; intro x15 hx15
          refine f_op rfl rfl (s_load Try.underlying3 rfl rfl (ldI_eq hx15)) ?_
          refine f_op rfl rfl (s_geq rfl rfl) ?_
          refine f_op rfl rfl (s_pickT (v := .bool (decide (x15 ≤ x14))) rfl rfl) ?_
          refine f_nil ?_
          refine f_keep [0, 3, 6, 9, 10, 11, 31] ?_
          exact s57_j2 _ (fun v1_ v2_ v3_ v4_ v5_ H_ => ih v1_ v2_ v3_ v4_ v5_ H_) v1 v2 H.n v3 v4 v5 (decide (x15 ≤ x14)) H5
        · skip
          refine o_know 25 rfl (dec_false h13) ?_
          refine f_no rfl rfl ?_
          refine f_no rfl rfl ?_
          refine f_no rfl rfl ?_
          refine f_no rfl rfl ?_
          refine f_no rfl rfl ?_
          refine f_op rfl rfl (s_pickF (v := .bool false) rfl rfl) ?_
          refine f_nil ?_
          refine f_keep [0, 3, 6, 9, 10, 11, 31] ?_
          exact s57_j2 _ (fun v1_ v2_ v3_ v4_ v5_ H_ => ih v1_ v2_ v3_ v4_ v5_ H_) v1 v2 H.n v3 v4 v5 false H5
    · skip
      refine f_know 12 rfl (dec_false h1) ?_
      refine f_condF rfl ?_
      refine f_exit rfl ?_
      refine f_seq ?_
      refine f_region ?_
      refine f_op rfl rfl (s_as (v := .bool true) rfl) ?_
      refine f_nil ?_
      exact f_ret (.tmp rfl (.nil)) rfl

theorem sim57 {a0 : Sl} {a1_0 : Int} {a1_1 : Int} {H : Hp} {p : Bool × Hp} (h : r57 a0 a1_0 a1_1 H = some p) : CallSim Try.prog 57 [.sl a0, .agg [.int .i64 a1_0, .int .i64 a1_1]] H (.bool p.1) p.2 := by
  refine callSim (fn := Try.f57) (ret := ret57) Try.func57 rfl Try.ntmps57 rfl ?_ h
  unfold r57
  refine f_seq ?_
  refine f_region ?_
  refine f_op rfl rfl (s_box (v := .agg [.int .i64 a1_0, .int .i64 a1_1]) rfl rfl) ?_
  refine f_op rfl rfl (s_as (v := .bool false) rfl) ?_
  refine o_hp ?_; intro H1 hH1
  refine f_nil ?_
  refine f_seq ?_
  refine f_seq ?_
  refine f_region ?_
  refine f_op rfl rfl (s_mv (v := .sl a0) rfl) ?_
  refine f_op rfl rfl (s_lenS rfl Try.underlying35 rfl) ?_
  refine f_op rfl rfl (s_mv (v := .int .i64 0) rfl) ?_
  refine f_nil ?_
  refine f_block ?_
  refine f_loop ?_
  refine f_keep [0, 3, 9, 10, 11] ?_
  exact s57_l0 FUEL a0 H.n a0 (a0.len : Int) 0 H1

/- 31 congou/congouref05.Edge -/
theorem ok31 : FnOk Try.prog 31 := ⟨⟨Try.f31, Try.func31, by kernel_rfl, rfl⟩⟩
theorem s31_j3 (kt0 : Sl → Sl → Int → Hp → Option (Sl × Hp)) (hkt0 : ∀ (v1 : Sl) (v2 : Sl) (v3 : Int) (H : Hp), Fin Try.prog Try.f31 ret31 110 (todoAt (bodyOf Try.f31) [1, 1, 0, 1, 0, 0] []) [(0, .sl v1), (3, .sl v2), (16, .int .i64 v3)] H (kt0 v1 v2 v3 H)) (v1 : Sl) (v2 : Sl) (v3 : Int) (v4 : Int) (v5 : Int) (v6 : Bool) (H : Hp) : Fin Try.prog Try.f31 ret31 110 (todoAt (bodyOf Try.f31) [1, 1, 0, 1, 0, 0, 1, 1, 0, 0, 1, 1, 1, 1] []) [(0, .sl v1), (3, .sl v2), (4, .int .i64 v3), (5, .int .i64 v4), (16, .int .i64 v5), (42, .bool v6)] H (r31_j3 kt0 v1 v2 v3 v4 v5 v6 H) := by
  unfold r31_j3
  refine f_if (fun h1 => ?_) (fun h1 => ?_)
  · skip
    refine f_know 42 rfl (bool_T h1) ?_
    refine f_condT rfl ?_
    refine f_region ?_
    refine f_op rfl rfl (s_mv (v := .sl v2) rfl) ?_
    refine f_op rfl rfl (s_mv (v := .int .i64 v3) rfl) ?_
    refine f_op rfl rfl (s_mv (v := .int .i64 v4) rfl) ?_
    refine f_op rfl rfl (s_buildA (cs := [.int .i64 v3, .int .i64 v4]) Try.underlying49 ty49 ty3 rfl rfl) ?_
    refine f_op rfl rfl (s_buildSlice (cs := [.int .i64 v3, .int .i64 v4]) Try.underlying35 ty49 (by decide) (by decide) rfl (by decide) rfl) ?_
    refine o_bind ?_; intro x2 hx2
    refine f_op rfl rfl (s_ap rfl rfl Try.underlying35 Try.underlying35 ty49 rfl rfl rfl rfl rfl rfl rfl hx2) ?_
    refine f_op rfl rfl (s_as (v := .sl x2.1) rfl) ?_
    refine f_nil ?_
    refine f_inBlock ?_
    refine f_region ?_
    refine f_op rfl rfl (s_add rfl rfl) ?_
    refine f_op rfl rfl (s_mv (v := .int .i64 (w64 (v5 + 1))) rfl) ?_
    refine f_nil ?_
    refine f_inLoop ?_
    refine f_keep [0, 3, 16] ?_
    exact hkt0 v1 x2.1 (w64 (v5 + 1)) x2.2
  · skip
    refine f_know 42 rfl (bool_F h1) ?_
    refine f_condF rfl ?_
    refine f_skip ?_
    refine f_inBlock ?_
    refine f_region ?_
    refine f_op rfl rfl (s_add rfl rfl) ?_
    refine f_op rfl rfl (s_mv (v := .int .i64 (w64 (v5 + 1))) rfl) ?_
    refine f_nil ?_
    refine f_inLoop ?_
    refine f_keep [0, 3, 16] ?_
    exact hkt0 v1 v2 (w64 (v5 + 1)) H

theorem s31_l1 (kt0 : Sl → Sl → Int → Hp → Option (Sl × Hp)) (hkt0 : ∀ (v1 : Sl) (v2 : Sl) (v3 : Int) (H : Hp), Fin Try.prog Try.f31 ret31 110 (todoAt (bodyOf Try.f31) [1, 1, 0, 1, 0, 0] []) [(0, .sl v1), (3, .sl v2), (16, .int .i64 v3)] H (kt0 v1 v2 v3 H)) : ∀ (k_ : Nat) (v1 : Sl) (v2 : Sl) (v3 : Int) (v4 : Int) (v5 : Int) (v6 : Sl) (v7 : Int) (v8 : Int) (H : Hp), Fin Try.prog Try.f31 ret31 110 (todoAt (bodyOf Try.f31) [1, 1, 0, 1, 0, 0, 1, 1, 0, 0, 1, 1, 0, 1, 0, 0] []) [(0, .sl v1), (3, .sl v2), (4, .int .i64 v3), (5, .int .i64 v4), (16, .int .i64 v5), (19, .sl v6), (20, .int .i64 v7), (21, .int .i64 v8)] H (r31_l1 kt0 k_ v1 v2 v3 v4 v5 v6 v7 v8 H) := by
  intro k_
  induction k_ with
  | zero => intro _ _ _ _ _ _ _ _ _; exact f_none
  | succ k_ ih =>
    intro v1 v2 v3 v4 v5 v6 v7 v8 H
    rw [r31_l1]
    refine f_seq ?_
    refine f_region ?_
    refine f_op rfl rfl (s_lss rfl rfl) ?_
    refine f_nil ?_
    refine f_seq ?_
    refine f_if (fun h1 => ?_) (fun h1 => ?_)
    · skip
      refine f_know 22 rfl (dec_true h1) ?_
      refine f_condT rfl ?_
      refine f_skip ?_
      refine f_seq ?_
      refine f_block ?_
      refine f_seq ?_
      refine f_region ?_
      refine o_ck fun g2 => ?_
      refine f_op rfl rfl (s_idx Try.underlying35 ty49 rfl rfl g2) ?_
      refine o_bind ?_; intro x3 hx3
      refine o_bind ?_; intro x4 hx4
      refine f_op rfl rfl (s_loads Try.underlying49 rfl ty49 rfl (lds_cons (ldI_eq hx3) (lds_cons (ldI_eq hx4) (lds_nil)))) ?_
      refine f_op rfl rfl (s_alloc (zs := [.int .i64 0, .int .i64 0]) ty49 rfl rfl) ?_
      refine o_bind ?_; intro H5 hH5
      refine f_op rfl rfl (s_stores ty49 rfl rfl rfl rfl hH5 (Nat.le_of_eq (sts_mono hH5).symm)) ?_
      refine f_nil ?_
      refine f_seq ?_
      refine f_region ?_
      refine f_op rfl rfl (s_idxA Try.underlying49 ty3 rfl rfl (by decide)) ?_
      refine o_bind ?_; intro x6 hx6
      refine f_op rfl rfl (s_load Try.underlying3 rfl rfl (ldI_eq hx6)) ?_
      refine f_op rfl rfl (s_mv (v := .int .i64 v3) rfl) ?_
      refine f_op rfl rfl (s_eql rfl rfl) ?_
      refine f_nil ?_
      refine f_if (fun h7 => ?_) (fun h7 => ?_)
      · skip
        refine f_know 28 rfl (dec_true h7) ?_
        refine f_condT rfl ?_
        refine f_region ?_
        refine f_op rfl rfl (s_mv (v := .int .i64 v4) rfl) ?_
        refine f_op rfl rfl (s_idxA Try.underlying49 ty3 rfl rfl (by decide)) ?_
        refine o_bind ?_; intro x8 hx8
        refine f_op rfl rfl (s_load Try.underlying3 rfl rfl (ldI_eq hx8)) ?_
        refine f_op rfl rfl (s_max2 rfl rfl) ?_
        refine f_op rfl rfl (s_as (v := .int .i64 (if v4 < x8 then x8 else v4)) rfl) ?_
        refine f_nil ?_
        refine f_inBlock ?_
        refine f_region ?_
        refine f_op rfl rfl (s_add rfl rfl) ?_
        refine f_op rfl rfl (s_mv (v := .int .i64 (w64 (v8 + 1))) rfl) ?_
        refine f_nil ?_
        refine f_inLoop ?_
        refine f_keep [0, 3, 4, 5, 16, 19, 20, 21] ?_
        exact ih v1 v2 v3 (if v4 < x8 then x8 else v4) v5 v6 v7 (w64 (v8 + 1)) H5
      · skip
        refine f_know 28 rfl (dec_false h7) ?_
        refine f_condF rfl ?_
        refine f_skip ?_
        refine f_inBlock ?_
        refine f_region ?_
        refine f_op rfl rfl (s_add rfl rfl) ?_
        refine f_op rfl rfl (s_mv (v := .int .i64 (w64 (v8 + 1))) rfl) ?_
        refine f_nil ?_
        refine f_inLoop ?_
        refine f_keep [0, 3, 4, 5, 16, 19, 20, 21] ?_
        exact ih v1 v2 v3 v4 v5 v6 v7 (w64 (v8 + 1)) H5
    · skip
      refine f_know 22 rfl (dec_false h1) ?_
      refine f_condF rfl ?_
      refine f_exit rfl ?_
      refine f_seq ?_
      refine f_region ?_
      refine f_op rfl rfl (s_mv (v := .int .i64 v4) rfl) ?_
      refine f_op rfl rfl (s_geq rfl rfl) ?_
      refine f_op rfl rfl (s_mv (v := .bool (decide (0 ≤ v4))) rfl) ?_
      refine o_if (fun h9 => ?_) (fun h9 => ?_)
      · skip
        refine o_know 36 rfl (dec_true h9) ?_
        refine f_op rfl rfl (s_mv (v := .sl v1) rfl) ?_
        refine f_op rfl rfl (s_mv (v := .int .i64 v3) rfl) ?_
        refine f_op rfl rfl (s_mv (v := .int .i64 v4) rfl) ?_
        refine f_op rfl rfl (s_buildA (cs := [.int .i64 v3, .int .i64 v4]) Try.underlying49 ty49 ty3 rfl rfl) ?_
        refine o_bind ?_; intro p10 hp10
        refine f_op rfl rfl (s_callF rfl ok57 (sim57 hp10)) ?_
        refine f_op rfl rfl (s_pickT (v := .bool p10.1) rfl rfl) ?_
        refine f_nil ?_
        refine f_keep [0, 3, 4, 5, 16, 42] ?_
        exact s31_j3 _ hkt0 v1 v2 v3 v4 v5 p10.1 p10.2
      · skip
        refine o_know 36 rfl (dec_false h9) ?_
        refine f_no rfl rfl ?_
        refine f_no rfl rfl ?_
        refine f_no rfl rfl ?_
        refine f_no rfl rfl ?_
        refine f_no rfl rfl ?_
        refine f_op rfl rfl (s_pickF (v := .bool false) rfl rfl) ?_
        refine f_nil ?_
        refine f_keep [0, 3, 4, 5, 16, 42] ?_
        exact s31_j3 _ hkt0 v1 v2 v3 v4 v5 false H

theorem s31_l5 (kt4 : Sl → Sl → Int → Nat → Bool → Sl → Int → Int → Sl → Int → Int → Hp → Option (Sl × Hp)) (hkt4 : ∀ (v1 : Sl) (v2 : Sl) (v3 : Int) (v4 : Nat) (v5 : Bool) (v6 : Sl) (v7 : Int) (v8 : Int) (v9 : Sl) (v10 : Int) (v11 : Int) (H : Hp), Fin Try.prog Try.f31 ret31 110 (todoAt (bodyOf Try.f31) [1, 1, 1, 1, 0, 1, 0, 0, 1, 1, 0, 0, 1, 1, 0, 1, 0, 0] []) [(3, .sl v1), (8, .sl v2), (9, .int .i64 v3), (10, .ptr v4 0), (11, .bool v5), (50, .sl v6), (51, .int .i64 v7), (52, .int .i64 v8), (59, .sl v9), (60, .int .i64 v10), (61, .int .i64 v11)] H (kt4 v1 v2 v3 v4 v5 v6 v7 v8 v9 v10 v11 H)) : ∀ (k_ : Nat) (v1 : Sl) (v2 : Sl) (v3 : Int) (v4 : Nat) (v5 : Bool) (v6 : Nat) (v7 : Sl) (v8 : Int) (v9 : Int) (v10 : Sl) (v11 : Int) (v12 : Int) (v13 : Sl) (v14 : Int) (v15 : Int) (H : Hp), Fin Try.prog Try.f31 ret31 110 (todoAt (bodyOf Try.f31) [1, 1, 1, 1, 0, 1, 0, 0, 1, 1, 0, 0, 1, 1, 0, 1, 0, 0, 1, 1, 0, 0, 1, 1, 0, 0] []) [(3, .sl v1), (8, .sl v2), (9, .int .i64 v3), (10, .ptr v4 0), (11, .bool v5), (13, .ptr v6 0), (50, .sl v7), (51, .int .i64 v8), (52, .int .i64 v9), (59, .sl v10), (60, .int .i64 v11), (61, .int .i64 v12), (68, .sl v13), (69, .int .i64 v14), (70, .int .i64 v15)] H (r31_l5 kt4 k_ v1 v2 v3 v4 v5 v6 v7 v8 v9 v10 v11 v12 v13 v14 v15 H) := by
  intro k_
  induction k_ with
  | zero => intro _ _ _ _ _ _ _ _ _ _ _ _ _ _ _ _; exact f_none
  | succ k_ ih =>
    intro v1 v2 v3 v4 v5 v6 v7 v8 v9 v10 v11 v12 v13 v14 v15 H
    rw [r31_l5]
    refine f_seq ?_
    refine f_region ?_
    refine f_op rfl rfl (s_lss rfl rfl) ?_
    refine f_nil ?_
    refine f_seq ?_
    refine f_if (fun h1 => ?_) (fun h1 => ?_)
    · skip
      refine f_know 71 rfl (dec_true h1) ?_
      refine f_condT rfl ?_
      refine f_skip ?_
      refine f_seq ?_
      refine f_block ?_
      refine f_seq ?_
      refine f_region ?_
      refine o_ck fun g2 => ?_
      refine f_op rfl rfl (s_idx Try.underlying35 ty49 rfl rfl g2) ?_
      refine o_bind ?_; intro x3 hx3
      refine o_bind ?_; intro x4 hx4
      refine f_op rfl rfl (s_loads Try.underlying49 rfl ty49 rfl (lds_cons (ldI_eq hx3) (lds_cons (ldI_eq hx4) (lds_nil)))) ?_
      refine f_op rfl rfl (s_alloc (zs := [.int .i64 0, .int .i64 0]) ty49 rfl rfl) ?_
      refine o_bind ?_; intro H5 hH5
      refine f_op rfl rfl (s_stores ty49 rfl rfl rfl rfl hH5 (Nat.le_of_eq (sts_mono hH5).symm)) ?_
      refine f_nil ?_
      refine f_region ?_
      refine f_op rfl rfl (s_mv (v := .bool v5) rfl) ?_
      refine f_op rfl rfl (s_mv (v := .bool v5) rfl) ?_
      refine o_if (fun h6 => ?_) (fun h6 => ?_)
      · skip
        refine o_know 75 rfl (bool_T h6) ?_
        refine f_no rfl rfl ?_
        refine f_no rfl rfl ?_
        refine f_no rfl rfl ?_
        refine f_no rfl rfl ?_
        refine f_no rfl rfl ?_
        refine f_no rfl rfl ?_
        refine f_no rfl rfl ?_
        refine f_no rfl rfl ?_
        refine f_no rfl rfl ?_
        refine f_no rfl rfl ?_
        refine f_no rfl rfl ?_
        refine f_no rfl rfl ?_
        refine f_no rfl rfl ?_
        refine f_no rfl rfl ?_
        refine f_no rfl rfl ?_
        refine f_no rfl rfl ?_
        refine f_no rfl rfl ?_
        refine f_no rfl rfl ?_
        refine f_no rfl rfl ?_
        refine f_no rfl rfl ?_
        refine f_no rfl rfl ?_
        refine f_no rfl rfl ?_
        refine f_no rfl rfl ?_
        refine f_op rfl rfl (s_pickT (v := .bool true) rfl rfl) ?_
        refine f_op rfl rfl (s_as (v := .bool true) rfl) ?_
        refine f_nil ?_
        refine f_inBlock ?_
        refine f_region ?_
        refine f_op rfl rfl (s_add rfl rfl) ?_
        refine f_op rfl rfl (s_mv (v := .int .i64 (w64 (v15 + 1))) rfl) ?_
        refine f_nil ?_
        refine f_inLoop ?_
        refine f_keep [3, 8, 9, 10, 11, 13, 50, 51, 52, 59, 60, 61, 68, 69, 70] ?_
        exact ih v1 v2 v3 v4 true v6 v7 v8 v9 v10 v11 v12 v13 v14 (w64 (v15 + 1)) H5
      · skip
        refine o_know 75 rfl (bool_F h6) ?_
        refine f_op rfl rfl (s_idxA Try.underlying49 ty3 rfl rfl (by decide)) ?_
        refine o_bind ?_; intro x7 hx7
        refine f_op rfl rfl (s_load Try.underlying3 rfl rfl (ldI_eq hx7)) ?_
        refine f_op rfl rfl (s_idxA Try.underlying49 ty3 rfl rfl (by decide)) ?_
        refine o_bind ?_; intro x8 hx8
        refine f_op rfl rfl (s_load Try.underlying3 rfl rfl (ldI_eq hx8)) ?_
        refine f_op rfl rfl (s_sub rfl rfl) ?_
        refine f_op rfl rfl (s_idxA Try.underlying49 ty3 rfl rfl (by decide)) ?_
        refine o_bind ?_; intro x9 hx9
        refine f_op rfl rfl (s_load Try.underlying3 rfl rfl (ldI_eq hx9)) ?_
        refine f_op rfl rfl (s_idxA Try.underlying49 ty3 rfl rfl (by decide)) ?_
        refine o_bind ?_; intro x10 hx10
        refine f_op rfl rfl (s_load Try.underlying3 rfl rfl (ldI_eq hx10)) ?_
        refine f_op rfl rfl (s_sub rfl rfl) ?_
        refine f_op rfl rfl (s_mul rfl rfl) ?_
        refine f_op rfl rfl (s_idxA Try.underlying49 ty3 rfl rfl (by decide)) ?_
        refine o_bind ?_; intro x11 hx11
        refine f_op rfl rfl (s_load Try.underlying3 rfl rfl (ldI_eq hx11)) ?_
        refine f_op rfl rfl (s_idxA Try.underlying49 ty3 rfl rfl (by decide)) ?_
        refine o_bind ?_; intro x12 hx12
        refine f_op rfl rfl (s_load Try.underlying3 rfl rfl (ldI_eq hx12)) ?_
        refine f_op rfl rfl (s_sub rfl rfl) ?_
        refine f_op rfl rfl (s_idxA Try.underlying49 ty3 rfl rfl (by decide)) ?_
        refine o_bind ?_; intro x13 hx13
        refine f_op rfl rfl (s_load Try.underlying3 rfl rfl (ldI_eq hx13)) ?_
        refine f_op rfl rfl (s_idxA Try.underlying49 ty3 rfl rfl (by decide)) ?_
        refine o_bind ?_; intro x14 hx14
        refine f_op rfl rfl (s_load Try.underlying3 rfl rfl (ldI_eq hx14)) ?_
        refine f_op rfl rfl (s_sub rfl rfl) ?_
        refine f_op rfl rfl (s_mul rfl rfl) ?_
        refine f_op rfl rfl (s_eql rfl rfl) ?_
        refine f_op rfl rfl (s_pickF (v := .bool (decide ((w64 ((w64 (x7 - x8)) * (w64 (x9 - x10)))) = (w64 ((w64 (x11 - x12)) * (w64 (x13 - x14))))))) rfl rfl) ?_
        refine f_op rfl rfl (s_as (v := .bool (decide ((w64 ((w64 (x7 - x8)) * (w64 (x9 - x10)))) = (w64 ((w64 (x11 - x12)) * (w64 (x13 - x14))))))) rfl) ?_
        refine f_nil ?_
        refine f_inBlock ?_
        refine f_region ?_
        refine f_op rfl rfl (s_add rfl rfl) ?_
        refine f_op rfl rfl (s_mv (v := .int .i64 (w64 (v15 + 1))) rfl) ?_
        refine f_nil ?_
        refine f_inLoop ?_
        refine f_keep [3, 8, 9, 10, 11, 13, 50, 51, 52, 59, 60, 61, 68, 69, 70] ?_
        exact ih v1 v2 v3 v4 (decide ((w64 ((w64 (x7 - x8)) * (w64 (x9 - x10)))) = (w64 ((w64 (x11 - x12)) * (w64 (x13 - x14)))))) v6 v7 v8 v9 v10 v11 v12 v13 v14 (w64 (v15 + 1)) H5
    · skip
      refine f_know 71 rfl (dec_false h1) ?_
      refine f_condF rfl ?_
      refine f_exit rfl ?_
      refine f_inBlock ?_
      refine f_region ?_
      refine f_op rfl rfl (s_add rfl rfl) ?_
      refine f_op rfl rfl (s_mv (v := .int .i64 (w64 (v12 + 1))) rfl) ?_
      refine f_nil ?_
      refine f_inLoop ?_
      refine f_keep [3, 8, 9, 10, 11, 50, 51, 52, 59, 60, 61] ?_
      exact hkt4 v1 v2 v3 v4 v5 v7 v8 v9 v10 v11 (w64 (v12 + 1)) H

theorem s31_l4 (kt2 : Sl → Sl → Sl → Int → Int → Hp → Option (Sl × Hp)) (hkt2 : ∀ (v1 : Sl) (v2 : Sl) (v3 : Sl) (v4 : Int) (v5 : Int) (H : Hp), Fin Try.prog Try.f31 ret31 110 (todoAt (bodyOf Try.f31) [1, 1, 1, 1, 0, 1, 0, 0] []) [(3, .sl v1), (8, .sl v2), (50, .sl v3), (51, .int .i64 v4), (52, .int .i64 v5)] H (kt2 v1 v2 v3 v4 v5 H)) : ∀ (k_ : Nat) (v1 : Sl) (v2 : Sl) (v3 : Int) (v4 : Nat) (v5 : Bool) (v6 : Sl) (v7 : Int) (v8 : Int) (v9 : Sl) (v10 : Int) (v11 : Int) (H : Hp), Fin Try.prog Try.f31 ret31 110 (todoAt (bodyOf Try.f31) [1, 1, 1, 1, 0, 1, 0, 0, 1, 1, 0, 0, 1, 1, 0, 1, 0, 0] []) [(3, .sl v1), (8, .sl v2), (9, .int .i64 v3), (10, .ptr v4 0), (11, .bool v5), (50, .sl v6), (51, .int .i64 v7), (52, .int .i64 v8), (59, .sl v9), (60, .int .i64 v10), (61, .int .i64 v11)] H (r31_l4 kt2 k_ v1 v2 v3 v4 v5 v6 v7 v8 v9 v10 v11 H) := by
  intro k_
  induction k_ with
  | zero => intro _ _ _ _ _ _ _ _ _ _ _ _; exact f_none
  | succ k_ ih =>
    intro v1 v2 v3 v4 v5 v6 v7 v8 v9 v10 v11 H
    rw [r31_l4]
    refine f_seq ?_
    refine f_region ?_
    refine f_op rfl rfl (s_lss rfl rfl) ?_
    refine f_nil ?_
    refine f_seq ?_
    refine f_if (fun h1 => ?_) (fun h1 => ?_)
    · skip
      refine f_know 62 rfl (dec_true h1) ?_
      refine f_condT rfl ?_
      refine f_skip ?_
      refine f_seq ?_
      refine f_block ?_
      refine f_seq ?_
      refine f_region ?_
      refine o_ck fun g2 => ?_
      refine f_op rfl rfl (s_idx Try.underlying35 ty49 rfl rfl g2) ?_
      refine o_bind ?_; intro x3 hx3
      refine o_bind ?_; intro x4 hx4
      refine f_op rfl rfl (s_loads Try.underlying49 rfl ty49 rfl (lds_cons (ldI_eq hx3) (lds_cons (ldI_eq hx4) (lds_nil)))) ?_
      refine f_op rfl rfl (s_alloc (zs := [.int .i64 0, .int .i64 0]) ty49 rfl rfl) ?_
      refine o_bind ?_; intro H5 hH5
      refine f_op rfl rfl (s_stores ty49 rfl rfl rfl rfl hH5 (Nat.le_of_eq (sts_mono hH5).symm)) ?_
      refine f_nil ?_
      refine f_seq ?_
      refine f_region ?_
      refine f_op rfl rfl (s_mv (v := .sl v1) rfl) ?_
      refine f_op rfl rfl (s_mv (v := .int .i64 v3) rfl) ?_
      refine f_op rfl rfl (s_add rfl rfl) ?_
      refine o_ck fun g6 => ?_
      refine f_op rfl rfl (s_slice Try.underlying35 ty49 rfl rfl rfl g6.1 g6.2) ?_
      refine f_op rfl rfl (s_lenS rfl Try.underlying35 rfl) ?_
      refine f_op rfl rfl (s_mv (v := .int .i64 0) rfl) ?_
      refine f_nil ?_
      refine f_block ?_
      refine f_loop ?_
      refine f_keep [3, 8, 9, 10, 11, 13, 50, 51, 52, 59, 60, 61, 68, 69, 70] ?_
      exact s31_l5 _ (fun v1_ v2_ v3_ v4_ v5_ v6_ v7_ v8_ v9_ v10_ v11_ H_ => ih v1_ v2_ v3_ v4_ v5_ v6_ v7_ v8_ v9_ v10_ v11_ H_) FUEL v1 v2 v3 v4 v5 H.n v6 v7 v8 v9 v10 v11 (v1.cut 2 (w64 (v3 + 1) : Int).toNat ((v1.len : Int) : Int).toNat) ((v1.cut 2 (w64 (v3 + 1) : Int).toNat ((v1.len : Int) : Int).toNat).len : Int) 0 H5
    · skip
      refine f_know 62 rfl (dec_false h1) ?_
      refine f_condF rfl ?_
      refine f_exit rfl ?_
      refine f_seq ?_
      refine f_region ?_
      refine f_op rfl rfl (s_mv (v := .bool v5) rfl) ?_
      refine f_op rfl rfl (s_not rfl) ?_
      refine f_nil ?_
      refine f_if (fun h7 => ?_) (fun h7 => ?_)
      · skip
        refine f_know 103 rfl (bool_notT h7) ?_
        refine f_condF rfl ?_
        refine f_skip ?_
        refine f_inBlock ?_
        refine f_region ?_
        refine f_op rfl rfl (s_add rfl rfl) ?_
        refine f_op rfl rfl (s_mv (v := .int .i64 (w64 (v8 + 1))) rfl) ?_
        refine f_nil ?_
        refine f_inLoop ?_
        refine f_keep [3, 8, 50, 51, 52] ?_
        exact hkt2 v1 v2 v6 v7 (w64 (v8 + 1)) H
      · skip
        refine f_know 103 rfl (bool_notF h7) ?_
        refine f_condT rfl ?_
        refine f_region ?_
        refine f_op rfl rfl (s_mv (v := .sl v2) rfl) ?_
        refine o_bind ?_; intro x8 hx8
        refine o_bind ?_; intro x9 hx9
        refine f_op rfl rfl (s_loads Try.underlying49 rfl ty49 rfl (lds_cons (ldI_eq hx8) (lds_cons (ldI_eq hx9) (lds_nil)))) ?_
        refine f_op rfl rfl (s_buildSlice (cs := [.int .i64 x8, .int .i64 x9]) Try.underlying35 ty49 (by decide) (by decide) rfl (by decide) rfl) ?_
        refine o_bind ?_; intro x10 hx10
        refine f_op rfl rfl (s_ap rfl rfl Try.underlying35 Try.underlying35 ty49 rfl rfl rfl rfl rfl rfl rfl hx10) ?_
        refine f_op rfl rfl (s_as (v := .sl x10.1) rfl) ?_
        refine f_nil ?_
        refine f_inBlock ?_
        refine f_region ?_
        refine f_op rfl rfl (s_add rfl rfl) ?_
        refine f_op rfl rfl (s_mv (v := .int .i64 (w64 (v8 + 1))) rfl) ?_
        refine f_nil ?_
        refine f_inLoop ?_
        refine f_keep [3, 8, 50, 51, 52] ?_
        exact hkt2 v1 x10.1 v6 v7 (w64 (v8 + 1)) x10.2

theorem s31_l2 : ∀ (k_ : Nat) (v1 : Sl) (v2 : Sl) (v3 : Sl) (v4 : Int) (v5 : Int) (H : Hp), Fin Try.prog Try.f31 ret31 110 (todoAt (bodyOf Try.f31) [1, 1, 1, 1, 0, 1, 0, 0] []) [(3, .sl v1), (8, .sl v2), (50, .sl v3), (51, .int .i64 v4), (52, .int .i64 v5)] H (r31_l2 k_ v1 v2 v3 v4 v5 H) := by
  intro k_
  induction k_ with
  | zero => intro _ _ _ _ _ _; exact f_none
  | succ k_ ih =>
    intro v1 v2 v3 v4 v5 H
    rw [r31_l2]
    refine f_seq ?_
    refine f_region ?_
    refine f_op rfl rfl (s_lss rfl rfl) ?_
    refine f_nil ?_
    refine f_seq ?_
    refine f_if (fun h1 => ?_) (fun h1 => ?_)
    · skip
      refine f_know 53 rfl (dec_true h1) ?_
      refine f_condT rfl ?_
      refine f_skip ?_
      refine f_seq ?_
      refine f_block ?_
      refine f_seq ?_
      refine f_region ?_
      refine f_op rfl rfl (s_mv (v := .int .i64 v5) rfl) ?_
      refine o_ck fun g2 => ?_
      refine f_op rfl rfl (s_idx Try.underlying35 ty49 rfl rfl g2) ?_
      refine o_bind ?_; intro x3 hx3
      refine o_bind ?_; intro x4 hx4
      refine f_op rfl rfl (s_loads Try.underlying49 rfl ty49 rfl (lds_cons (ldI_eq hx3) (lds_cons (ldI_eq hx4) (lds_nil)))) ?_
      refine f_op rfl rfl (s_alloc (zs := [.int .i64 0, .int .i64 0]) ty49 rfl rfl) ?_
      refine f_op rfl rfl (s_as (v := .int .i64 v5) rfl) ?_
      refine o_bind ?_; intro H5 hH5
      refine f_op rfl rfl (s_stores ty49 rfl rfl rfl rfl hH5 (Nat.le_of_eq (sts_mono hH5).symm)) ?_
      refine f_nil ?_
      refine f_seq ?_
      refine f_region ?_
      refine f_op rfl rfl (s_as (v := .bool false) rfl) ?_
      refine f_nil ?_
      refine f_seq ?_
      refine f_seq ?_
      refine f_region ?_
      refine f_op rfl rfl (s_mv (v := .sl v1) rfl) ?_
      refine f_op rfl rfl (s_mv (v := .int .i64 v5) rfl) ?_
      refine o_ck fun g6 => ?_
      refine f_op rfl rfl (s_slice Try.underlying35 ty49 rfl rfl rfl g6.1 g6.2) ?_
      refine f_op rfl rfl (s_lenS rfl Try.underlying35 rfl) ?_
      refine f_op rfl rfl (s_mv (v := .int .i64 0) rfl) ?_
      refine f_nil ?_
      refine f_block ?_
      refine f_loop ?_
      refine f_keep [3, 8, 9, 10, 11, 50, 51, 52, 59, 60, 61] ?_
      exact s31_l4 _ (fun v1_ v2_ v3_ v4_ v5_ H_ => ih v1_ v2_ v3_ v4_ v5_ H_) FUEL v1 v2 v5 H.n false v3 v4 v5 (v1.cut 2 (0 : Int).toNat (v5 : Int).toNat) ((v1.cut 2 (0 : Int).toNat (v5 : Int).toNat).len : Int) 0 H5
    · skip
      refine f_know 53 rfl (dec_false h1) ?_
      refine f_condF rfl ?_
      refine f_exit rfl ?_
      refine f_seq ?_
      refine f_region ?_
      refine f_op rfl rfl (s_mv (v := .sl v2) rfl) ?_
      refine f_op rfl rfl (s_as (v := .sl v2) rfl) ?_
      refine f_nil ?_
      exact f_ret (.tmp rfl (.nil)) rfl

theorem s31_l0 : ∀ (k_ : Nat) (v1 : Sl) (v2 : Sl) (v3 : Int) (H : Hp), Fin Try.prog Try.f31 ret31 110 (todoAt (bodyOf Try.f31) [1, 1, 0, 1, 0, 0] []) [(0, .sl v1), (3, .sl v2), (16, .int .i64 v3)] H (r31_l0 k_ v1 v2 v3 H) := by
  intro k_
  induction k_ with
  | zero => intro _ _ _ _; exact f_none
  | succ k_ ih =>
    intro v1 v2 v3 H
    rw [r31_l0]
    refine f_seq ?_
    refine f_region ?_
    refine f_op rfl rfl (s_lss rfl rfl) ?_
    refine f_nil ?_
    refine f_seq ?_
    refine f_if (fun h1 => ?_) (fun h1 => ?_)
    · skip
      refine f_know 17 rfl (dec_true h1) ?_
      refine f_condT rfl ?_
      refine f_skip ?_
      refine f_seq ?_
      refine f_block ?_
      refine f_seq ?_
      refine f_region ?_
      refine f_op rfl rfl (s_mv (v := .int .i64 v3) rfl) ?_
      refine f_op rfl rfl (s_as (v := .int .i64 v3) rfl) ?_
      refine f_nil ?_
      refine f_seq ?_
      refine f_region ?_
      refine f_op rfl rfl (s_as (v := .int .i64 (-1)) rfl) ?_
      refine f_nil ?_
      refine f_seq ?_
      refine f_seq ?_
      refine f_region ?_
      refine f_op rfl rfl (s_mv (v := .sl v1) rfl) ?_
      refine f_op rfl rfl (s_lenS rfl Try.underlying35 rfl) ?_
      refine f_op rfl rfl (s_mv (v := .int .i64 0) rfl) ?_
      refine f_nil ?_
      refine f_block ?_
      refine f_loop ?_
      refine f_keep [0, 3, 4, 5, 16, 19, 20, 21] ?_
      exact s31_l1 _ (fun v1_ v2_ v3_ H_ => ih v1_ v2_ v3_ H_) FUEL v1 v2 v3 (-1) v3 v1 (v1.len : Int) 0 H
    · skip
      refine f_know 17 rfl (dec_false h1) ?_
      refine f_condF rfl ?_
      refine f_exit rfl ?_
      refine f_seq ?_
      refine f_region ?_
      refine f_op rfl rfl (s_as (v := .sl ⟨true, 0, 0, 0, 0, 0⟩) rfl) ?_
      refine f_nil ?_
      refine f_seq ?_
      refine f_seq ?_
      refine f_region ?_
      refine f_op rfl rfl (s_mv (v := .sl v2) rfl) ?_
      refine f_op rfl rfl (s_lenS rfl Try.underlying35 rfl) ?_
      refine f_op rfl rfl (s_mv (v := .int .i64 0) rfl) ?_
      refine f_nil ?_
      refine f_block ?_
      refine f_loop ?_
      refine f_keep [3, 8, 50, 51, 52] ?_
      exact s31_l2 FUEL v2 ⟨true, 0, 0, 0, 0, 0⟩ v2 (v2.len : Int) 0 H

theorem sim31 {a0 : Sl} {H : Hp} {p : Sl × Hp} (h : r31 a0 H = some p) : CallSim Try.prog 31 [.sl a0] H (.sl p.1) p.2 := by
  refine callSim (fn := Try.f31) (ret := ret31) Try.func31 rfl Try.ntmps31 rfl ?_ h
  unfold r31
  refine f_seq ?_
  refine f_region ?_
  refine f_op rfl rfl (s_as (v := .sl ⟨true, 0, 0, 0, 0, 0⟩) rfl) ?_
  refine f_nil ?_
  refine f_seq ?_
  refine f_region ?_
  refine f_op rfl rfl (s_as (v := .sl ⟨true, 0, 0, 0, 0, 0⟩) rfl) ?_
  refine f_nil ?_
  refine f_seq ?_
  refine f_seq ?_
  refine f_region ?_
  refine f_op rfl rfl (s_mv (v := .int .i64 0) rfl) ?_
  refine f_nil ?_
  refine f_block ?_
  refine f_loop ?_
  refine f_keep [0, 3, 16] ?_
  exact s31_l0 FUEL a0 ⟨true, 0, 0, 0, 0, 0⟩ 0 H

/- 6 congou/congoulaw05.DealsEdges -/
theorem ok6 : FnOk Try.prog 6 := ⟨⟨Try.f6, Try.func6, by kernel_rfl, rfl⟩⟩
theorem sim6 {app : App} (happ : AppSim Try.prog app) {a0 : Sl} {H : Hp} {p : Bool × Hp} (h : r6 app a0 H = some p) : CallSim Try.prog 6 [.sl a0] H (.bool p.1) p.2 := by
  refine callSim (fn := Try.f6) (ret := ret6) Try.func6 rfl Try.ntmps6 rfl ?_ h
  unfold r6
  refine f_seq ?_
  refine f_region ?_
  refine f_op rfl rfl (s_as (v := .bool false) rfl) ?_
  refine f_nil ?_
  refine f_seq ?_
  refine f_region ?_
  refine f_op rfl rfl (s_mv (v := .sl a0) rfl) ?_
  refine o_bind ?_; intro p1 hp1
  refine f_op rfl rfl (s_callF rfl ok24 (sim24 hp1)) ?_
  refine o_bind ?_; intro p2 hp2
  refine f_op rfl rfl (s_callF rfl ok29 (sim29 happ hp2)) ?_
  refine f_op rfl rfl (s_mv (v := .tup [.sl p2.1.1, .int .i64 p2.1.2]) rfl) ?_
  refine f_op rfl rfl (s_extract (r := .sl p2.1.1) rfl rfl) ?_
  refine f_op rfl rfl (s_extract (r := .int .i64 p2.1.2) rfl rfl) ?_
  refine f_op rfl rfl (s_as (v := .sl p2.1.1) rfl) ?_
  refine f_op rfl rfl (s_as (v := .int .i64 p2.1.2) rfl) ?_
  refine f_nil ?_
  refine f_seq ?_
  refine f_seq ?_
  refine f_region ?_
  refine f_op rfl rfl (s_mv (v := .sl a0) rfl) ?_
  refine o_bind ?_; intro p3 hp3
  refine f_op rfl rfl (s_callF rfl ok26 (sim26 hp3)) ?_
  refine f_op rfl rfl (s_not rfl) ?_
  refine f_nil ?_
  refine f_if (fun h4 => ?_) (fun h4 => ?_)
  · skip
    refine f_know 13 rfl (bool_notT h4) ?_
    refine f_condF rfl ?_
    refine f_skip ?_
    refine f_seq ?_
    refine f_region ?_
    refine f_op rfl rfl (s_mv (v := .sl p2.1.1) rfl) ?_
    refine f_op rfl rfl (s_mv (v := .sl a0) rfl) ?_
    refine o_bind ?_; intro p5 hp5
    refine f_op rfl rfl (s_callF rfl ok31 (sim31 hp5)) ?_
    refine o_bind ?_; intro p6 hp6
    refine f_op rfl rfl (s_callF rfl ok30 (sim30 hp6)) ?_
    refine f_op rfl rfl (s_mv (v := .bool p6.1) rfl) ?_
    refine o_if (fun h7 => ?_) (fun h7 => ?_)
    · skip
      refine o_know 28 rfl (bool_T h7) ?_
      refine f_op rfl rfl (s_mv (v := .int .i64 p2.1.2) rfl) ?_
      refine f_op rfl rfl (s_eql rfl rfl) ?_
      refine f_op rfl rfl (s_pickT (v := .bool (decide (p2.1.2 = 0))) rfl rfl) ?_
      refine f_op rfl rfl (s_mv (v := .bool (decide (p2.1.2 = 0))) rfl) ?_
      refine o_if (fun h8 => ?_) (fun h8 => ?_)
      · skip
        refine o_know 32 rfl (dec_true h8) ?_
        refine o_bind ?_; intro p9 hp9
        refine o_bind ?_; intro x10 hx10
        refine f_op rfl rfl (s_callA happ rfl hp9) ?_
        refine o_know 33 rfl (asB_eq hx10) ?_
        refine f_op rfl rfl (s_pickT (v := .bool x10) rfl rfl) ?_
        refine f_op rfl rfl (s_as (v := .bool x10) rfl) ?_
        refine f_nil ?_
        exact f_ret (.tmp rfl (.nil)) rfl
      · skip
        refine o_know 32 rfl (dec_false h8) ?_
        refine f_no rfl rfl ?_
        refine f_op rfl rfl (s_pickF (v := .bool false) rfl rfl) ?_
        refine f_op rfl rfl (s_as (v := .bool false) rfl) ?_
        refine f_nil ?_
        exact f_ret (.tmp rfl (.nil)) rfl
    · skip
      refine o_know 28 rfl (bool_F h7) ?_
      refine f_no rfl rfl ?_
      refine f_no rfl rfl ?_
      refine f_op rfl rfl (s_pickF (v := .bool false) rfl rfl) ?_
      refine f_op rfl rfl (s_mv (v := .bool false) rfl) ?_
      refine f_no rfl rfl ?_
      refine f_op rfl rfl (s_pickF (v := .bool false) rfl rfl) ?_
      refine f_op rfl rfl (s_as (v := .bool false) rfl) ?_
      refine f_nil ?_
      exact f_ret (.tmp rfl (.nil)) rfl
  · skip
    refine f_know 13 rfl (bool_notF h4) ?_
    refine f_condT rfl ?_
    refine f_seq ?_
    refine f_region ?_
    refine f_op rfl rfl (s_mv (v := .sl p2.1.1) rfl) ?_
    refine f_op rfl rfl (s_lenS rfl Try.underlying35 rfl) ?_
    refine f_op rfl rfl (s_eql rfl rfl) ?_
    refine f_op rfl rfl (s_mv (v := .bool (decide ((p2.1.1.len : Int) = 0))) rfl) ?_
    refine o_if (fun h11 => ?_) (fun h11 => ?_)
    · skip
      refine o_know 17 rfl (dec_true h11) ?_
      refine f_op rfl rfl (s_mv (v := .int .i64 p2.1.2) rfl) ?_
      refine f_op rfl rfl (s_eql rfl rfl) ?_
      refine f_op rfl rfl (s_pickT (v := .bool (decide (p2.1.2 = 2))) rfl rfl) ?_
      refine f_op rfl rfl (s_mv (v := .bool (decide (p2.1.2 = 2))) rfl) ?_
      refine o_if (fun h12 => ?_) (fun h12 => ?_)
      · skip
        refine o_know 21 rfl (dec_true h12) ?_
        refine o_bind ?_; intro p13 hp13
        refine o_bind ?_; intro x14 hx14
        refine f_op rfl rfl (s_callA happ rfl hp13) ?_
        refine o_know 22 rfl (asB_eq hx14) ?_
        refine f_op rfl rfl (s_pickT (v := .bool x14) rfl rfl) ?_
        refine f_op rfl rfl (s_as (v := .bool x14) rfl) ?_
        refine f_nil ?_
        exact f_ret (.tmp rfl (.nil)) rfl
      · skip
        refine o_know 21 rfl (dec_false h12) ?_
        refine f_no rfl rfl ?_
        refine f_op rfl rfl (s_pickF (v := .bool false) rfl rfl) ?_
        refine f_op rfl rfl (s_as (v := .bool false) rfl) ?_
        refine f_nil ?_
        exact f_ret (.tmp rfl (.nil)) rfl
    · skip
      refine o_know 17 rfl (dec_false h11) ?_
      refine f_no rfl rfl ?_
      refine f_no rfl rfl ?_
      refine f_op rfl rfl (s_pickF (v := .bool false) rfl rfl) ?_
      refine f_op rfl rfl (s_mv (v := .bool false) rfl) ?_
      refine f_no rfl rfl ?_
      refine f_op rfl rfl (s_pickF (v := .bool false) rfl rfl) ?_
      refine f_op rfl rfl (s_as (v := .bool false) rfl) ?_
      refine f_nil ?_
      exact f_ret (.tmp rfl (.nil)) rfl

/- 84 slices.Values[congou/deals.offers,[2]int]$1 -/
theorem ok84 : FnOk Try.prog 84 := ⟨⟨Try.f84, Try.func84, by kernel_rfl, rfl⟩⟩
theorem s84_l0 {app : App} (happ : AppSim Try.prog app) : ∀ (k_ : Nat) (v1 : AV) (v2 : Sl) (v3 : Int) (v4 : Int) (H : Hp), Fin Try.prog Try.f84 ret84 16 (todoAt (bodyOf Try.f84) [1, 0, 0] []) [(0, v1), (5, .sl v2), (6, .int .i64 v3), (7, .int .i64 v4)] H (r84_l0 app k_ v1 v2 v3 v4 H) := by
  intro k_
  induction k_ with
  | zero => intro _ _ _ _ _; exact f_none
  | succ k_ ih =>
    intro v1 v2 v3 v4 H
    rw [r84_l0]
    refine f_seq ?_
    refine f_region ?_
    refine f_op rfl rfl (s_lss rfl rfl) ?_
    refine f_nil ?_
    refine f_seq ?_
    refine f_if (fun h1 => ?_) (fun h1 => ?_)
    · skip
      refine f_know 8 rfl (dec_true h1) ?_
      refine f_condT rfl ?_
      refine f_skip ?_
      refine f_seq ?_
      refine f_block ?_
      refine f_seq ?_
      refine f_region ?_
      refine o_ck fun g2 => ?_
      refine f_op rfl rfl (s_idx Try.underlying72 ty49 rfl rfl g2) ?_
      refine o_bind ?_; intro x3 hx3
      refine o_bind ?_; intro x4 hx4
      refine f_op rfl rfl (s_loads Try.underlying49 rfl ty49 rfl (lds_cons (ldI_eq hx3) (lds_cons (ldI_eq hx4) (lds_nil)))) ?_
      refine f_op rfl rfl (s_alloc (zs := [.int .i64 0, .int .i64 0]) ty49 rfl rfl) ?_
      refine o_bind ?_; intro H5 hH5
      refine f_op rfl rfl (s_stores ty49 rfl rfl rfl rfl hH5 (Nat.le_of_eq (sts_mono hH5).symm)) ?_
      refine f_nil ?_
      refine f_seq ?_
      refine f_region ?_
      refine f_op rfl rfl (s_mv (v := v1) rfl) ?_
      refine o_bind ?_; intro x6 hx6
      refine o_bind ?_; intro x7 hx7
      refine f_op rfl rfl (s_loads Try.underlying49 rfl ty49 rfl (lds_cons (ldI_eq hx6) (lds_cons (ldI_eq hx7) (lds_nil)))) ?_
      refine o_bind ?_; intro p8 hp8
      refine o_bind ?_; intro x9 hx9
      refine f_op rfl rfl (s_callv happ rfl rfl hp8) ?_
      refine o_know 13 rfl (asB_eq hx9) ?_
      refine f_op rfl rfl (s_not rfl) ?_
      refine f_nil ?_
      refine f_if (fun h10 => ?_) (fun h10 => ?_)
      · skip
        refine f_know 14 rfl (bool_notT h10) ?_
        refine f_condF rfl ?_
        refine f_skip ?_
        refine f_inBlock ?_
        refine f_region ?_
        refine f_op rfl rfl (s_add rfl rfl) ?_
        refine f_op rfl rfl (s_mv (v := .int .i64 (w64 (v4 + 1))) rfl) ?_
        refine f_nil ?_
        refine f_inLoop ?_
        refine f_keep [0, 5, 6, 7] ?_
        exact ih v1 v2 v3 (w64 (v4 + 1)) p8.2
      · skip
        refine f_know 14 rfl (bool_notF h10) ?_
        refine f_condT rfl ?_
        exact f_ret (.nil) rfl
    · skip
      refine f_know 8 rfl (dec_false h1) ?_
      refine f_condF rfl ?_
      refine f_exit rfl ?_
      exact f_end (.nil) rfl

theorem sim84 {app : App} (happ : AppSim Try.prog app) {a0 : AV} {c0 : Nat} {H : Hp} {p : Unit × Hp} (h : r84 app a0 c0 H = some p) : CallSim Try.prog 84 [a0, .ptr c0 0] H (.tup []) p.2 := by
  refine callSim (fn := Try.f84) (ret := ret84) Try.func84 rfl Try.ntmps84 rfl ?_ h
  unfold r84
  refine f_seq ?_
  refine f_region ?_
  refine o_bind ?_; intro x1 hx1
  refine f_op rfl rfl (s_load Try.underlying72 rfl rfl (ldSl_eq hx1)) ?_
  refine f_op rfl rfl (s_lenS rfl Try.underlying72 rfl) ?_
  refine f_op rfl rfl (s_mv (v := .int .i64 0) rfl) ?_
  refine f_nil ?_
  refine f_block ?_
  refine f_loop ?_
  refine f_keep [0, 5, 6, 7] ?_
  exact s84_l0 happ FUEL a0 x1 (x1.len : Int) 0 H

end Go.Lt.P5
