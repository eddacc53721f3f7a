/- PRINTED BY A PROGRAM OF OURS: what each function that 'PairsSplits' reaches computes on the abstract heap, and that the translated code does just that. Nothing is asked of the input. -/
import Derived.Test.YthmhdbmpeepmaaaG9P0
set_option linter.unusedVariables false
set_option linter.unusedSimpArgs false
set_option maxRecDepth 100000
set_option maxHeartbeats 4000000
namespace Go.Lt.P8
open Go Go.Lt Go.Proofs
/- 82 congou/pairs.arePins -/
theorem ok82 : FnOk Try.prog 82 := ⟨⟨Try.f82, Try.func82, by kernel_rfl, rfl⟩⟩
theorem s82_j3 (kt2 : Sl → Nat → Int → Int → Sl → Int → Int → Sl → Int → Int → Hp → Option (Bool × Hp)) (hkt2 : ∀ (v1 : Sl) (v2 : Nat) (v3 : Int) (v4 : Int) (v5 : Sl) (v6 : Int) (v7 : Int) (v8 : Sl) (v9 : Int) (v10 : Int) (H : Hp), Fin Try.prog Try.f82 ret82 53 (todoAt (bodyOf Try.f82) [1, 1, 0, 1, 0, 0, 1, 1, 0, 0, 1, 1, 1, 0, 0] []) [(0, .sl v1), (3, .map v2), (4, .int .i64 v3), (5, .int .i64 v4), (10, .sl v5), (11, .int .i64 v6), (12, .int .i64 v7), (27, .sl v8), (28, .int .i64 v9), (29, .int .i64 v10)] H (kt2 v1 v2 v3 v4 v5 v6 v7 v8 v9 v10 H)) (v1 : Sl) (v2 : Nat) (v3 : Int) (v4 : Int) (v5 : Nat) (v6 : Sl) (v7 : Int) (v8 : Int) (v9 : Sl) (v10 : Int) (v11 : Int) (v12 : Bool) (H : Hp) : Fin Try.prog Try.f82 ret82 53 (todoAt (bodyOf Try.f82) [1, 1, 0, 1, 0, 0, 1, 1, 0, 0, 1, 1, 1, 0, 0, 1, 1, 0, 0, 1, 1, 0, 1] []) [(0, .sl v1), (3, .map v2), (4, .int .i64 v3), (5, .int .i64 v4), (8, .ptr v5 0), (10, .sl v6), (11, .int .i64 v7), (12, .int .i64 v8), (27, .sl v9), (28, .int .i64 v10), (29, .int .i64 v11), (48, .bool v12)] H (r82_j3 kt2 v1 v2 v3 v4 v5 v6 v7 v8 v9 v10 v11 v12 H) := by
  unfold r82_j3
  refine f_if (fun h1 => ?_) (fun h1 => ?_)
  · skip
    refine f_know 48 rfl (bool_T h1) ?_
    refine f_condT rfl ?_
    refine f_seq ?_
    refine f_region ?_
    refine f_op rfl rfl (s_as (v := .bool false) rfl) ?_
    refine f_nil ?_
    exact f_ret (.tmp rfl (.nil)) rfl
  · skip
    refine f_know 48 rfl (bool_F h1) ?_
    refine f_condF rfl ?_
    refine f_skip ?_
    refine f_region ?_
    refine f_op rfl rfl (s_mv (v := .map v2) rfl) ?_
    refine o_bind ?_; intro x2 hx2
    refine o_bind ?_; intro x3 hx3
    refine f_op rfl rfl (s_loads Try.underlying43 rfl ty43 rfl (lds_cons (ldI_eq hx2) (lds_cons (ldI_eq hx3) (lds_nil)))) ?_
    refine o_bind ?_; intro H4 hH4
    refine f_op rfl rfl (s_mapUpdate (kt := (.arr 2 .i64)) Try.underlying99 ⟨3, _, _, Try.underlying43, Try.underlying3, ty3⟩ rfl rfl rfl (msetT_eq hH4).1 (msetT_eq hH4).2) ?_
    refine f_nil ?_
    refine f_inBlock ?_
    refine f_region ?_
    refine f_op rfl rfl (s_add rfl rfl) ?_
    refine f_op rfl rfl (s_mv (v := .int .i64 (w64 (v11 + 1))) rfl) ?_
    refine f_nil ?_
    refine f_inLoop ?_
    refine f_keep [0, 3, 4, 5, 10, 11, 12, 27, 28, 29] ?_
    exact hkt2 v1 v2 v3 v4 v6 v7 v8 v9 v10 (w64 (v11 + 1)) H4

theorem s82_l2 (kt0 : Sl → Nat → Sl → Int → Int → Hp → Option (Bool × Hp)) (hkt0 : ∀ (v1 : Sl) (v2 : Nat) (v3 : Sl) (v4 : Int) (v5 : Int) (H : Hp), Fin Try.prog Try.f82 ret82 53 (todoAt (bodyOf Try.f82) [1, 1, 0, 1, 0, 0] []) [(0, .sl v1), (3, .map v2), (10, .sl v3), (11, .int .i64 v4), (12, .int .i64 v5)] H (kt0 v1 v2 v3 v4 v5 H)) : ∀ (k_ : Nat) (v1 : Sl) (v2 : Nat) (v3 : Int) (v4 : Int) (v5 : Sl) (v6 : Int) (v7 : Int) (v8 : Sl) (v9 : Int) (v10 : Int) (H : Hp), Fin Try.prog Try.f82 ret82 53 (todoAt (bodyOf Try.f82) [1, 1, 0, 1, 0, 0, 1, 1, 0, 0, 1, 1, 1, 0, 0] []) [(0, .sl v1), (3, .map v2), (4, .int .i64 v3), (5, .int .i64 v4), (10, .sl v5), (11, .int .i64 v6), (12, .int .i64 v7), (27, .sl v8), (28, .int .i64 v9), (29, .int .i64 v10)] H (r82_l2 kt0 k_ v1 v2 v3 v4 v5 v6 v7 v8 v9 v10 H) := by
  intro k_
  induction k_ with
  | zero => intro _ _ _ _ _ _ _ _ _ _ _; exact f_none
  | succ k_ ih =>
    intro v1 v2 v3 v4 v5 v6 v7 v8 v9 v10 H
    rw [r82_l2]
    refine f_seq ?_
    refine f_region ?_
    refine f_op rfl rfl (s_lss rfl rfl) ?_
    refine f_nil ?_
    refine f_seq ?_
    refine f_if (fun h1 => ?_) (fun h1 => ?_)
    · skip
      refine f_know 30 rfl (dec_true h1) ?_
      refine f_condT rfl ?_
      refine f_skip ?_
      refine f_seq ?_
      refine f_block ?_
      refine f_seq ?_
      refine f_region ?_
      refine f_op rfl rfl (s_mv (v := .int .i64 v10) rfl) ?_
      refine o_ck fun g2 => ?_
      refine f_op rfl rfl (s_idx Try.underlying22 ty3 rfl rfl g2) ?_
      refine o_bind ?_; intro x3 hx3
      refine f_op rfl rfl (s_load Try.underlying3 rfl rfl (ldI_eq hx3)) ?_
      refine f_op rfl rfl (s_as (v := .int .i64 v10) rfl) ?_
      refine f_op rfl rfl (s_as (v := .int .i64 x3) rfl) ?_
      refine f_nil ?_
      refine f_seq ?_
      refine f_region ?_
      refine f_op rfl rfl (s_mv (v := .int .i64 v3) rfl) ?_
      refine f_op rfl rfl (s_mv (v := .int .i64 v10) rfl) ?_
      refine f_op rfl rfl (s_sub rfl rfl) ?_
      refine f_op rfl rfl (s_mv (v := .int .i64 v4) rfl) ?_
      refine f_op rfl rfl (s_mv (v := .int .i64 x3) rfl) ?_
      refine f_op rfl rfl (s_sub rfl rfl) ?_
      refine f_op rfl rfl (s_buildA (cs := [.int .i64 (w64 (v3 - v10)), .int .i64 (w64 (v4 - x3))]) Try.underlying43 ty43 ty3 rfl rfl) ?_
      refine f_op rfl rfl (s_alloc (zs := [.int .i64 0, .int .i64 0]) ty43 rfl rfl) ?_
      refine o_bind ?_; intro H4 hH4
      refine f_op rfl rfl (s_stores ty43 rfl rfl rfl rfl hH4 (Nat.le_of_eq (sts_mono hH4).symm)) ?_
      refine f_nil ?_
      refine f_seq ?_
      refine f_seq ?_
      refine f_region ?_
      refine f_op rfl rfl (s_mv (v := .int .i64 v4) rfl) ?_
      refine f_op rfl rfl (s_mv (v := .int .i64 x3) rfl) ?_
      refine f_op rfl rfl (s_eql rfl rfl) ?_
      refine f_op rfl rfl (s_mv (v := .bool (decide (v4 = x3))) rfl) ?_
      refine o_if (fun h5 => ?_) (fun h5 => ?_)
      · skip
        refine o_know 44 rfl (dec_true h5) ?_
        refine f_no rfl rfl ?_
        refine f_no rfl rfl ?_
        refine f_no rfl rfl ?_
        refine f_op rfl rfl (s_pickT (v := .bool true) rfl rfl) ?_
        refine f_nil ?_
        refine f_keep [0, 3, 4, 5, 8, 10, 11, 12, 27, 28, 29, 48] ?_
        exact s82_j3 _ (fun v1_ v2_ v3_ v4_ v5_ v6_ v7_ v8_ v9_ v10_ H_ => ih v1_ v2_ v3_ v4_ v5_ v6_ v7_ v8_ v9_ v10_ H_) v1 v2 v3 v4 H.n v5 v6 v7 v8 v9 v10 true H4
      · skip
        refine o_know 44 rfl (dec_false h5) ?_
        refine f_op rfl rfl (s_mv (v := .map v2) rfl) ?_
        refine o_bind ?_; intro x6 hx6
        refine o_bind ?_; intro x7 hx7
        refine f_op rfl rfl (s_loads Try.underlying43 rfl ty43 rfl (lds_cons (ldI_eq hx6) (lds_cons (ldI_eq hx7) (lds_nil)))) ?_
        refine o_bind ?_; intro x8 hx8
        refine o_bind ?_; intro x9 hx9
        refine f_op rfl rfl (s_lookup (kt := (.arr 2 .i64)) (ok := false) Try.underlying99 ⟨3, _, _, Try.underlying43, Try.underlying3, ty3⟩ ty4 rfl rfl (mgetT_eq hx8).1 (mgetT_eq hx8).2) ?_
        refine o_know 47 rfl (asB_eq hx9) ?_
        refine f_op rfl rfl (s_pickF (v := .bool x9) rfl rfl) ?_
        refine f_nil ?_
        refine f_keep [0, 3, 4, 5, 8, 10, 11, 12, 27, 28, 29, 48] ?_
        exact s82_j3 _ (fun v1_ v2_ v3_ v4_ v5_ v6_ v7_ v8_ v9_ v10_ H_ => ih v1_ v2_ v3_ v4_ v5_ v6_ v7_ v8_ v9_ v10_ H_) v1 v2 v3 v4 H.n v5 v6 v7 v8 v9 v10 x9 H4
    · skip
      refine f_know 30 rfl (dec_false h1) ?_
      refine f_condF rfl ?_
      refine f_exit rfl ?_
      refine f_inBlock ?_
      refine f_region ?_
      refine f_op rfl rfl (s_add rfl rfl) ?_
      refine f_op rfl rfl (s_mv (v := .int .i64 (w64 (v7 + 1))) rfl) ?_
      refine f_nil ?_
      refine f_inLoop ?_
      refine f_keep [0, 3, 10, 11, 12] ?_
      exact hkt0 v1 v2 v5 v6 (w64 (v7 + 1)) H

theorem s82_j1 (kt0 : Sl → Nat → Sl → Int → Int → Hp → Option (Bool × Hp)) (hkt0 : ∀ (v1 : Sl) (v2 : Nat) (v3 : Sl) (v4 : Int) (v5 : Int) (H : Hp), Fin Try.prog Try.f82 ret82 53 (todoAt (bodyOf Try.f82) [1, 1, 0, 1, 0, 0] []) [(0, .sl v1), (3, .map v2), (10, .sl v3), (11, .int .i64 v4), (12, .int .i64 v5)] H (kt0 v1 v2 v3 v4 v5 H)) (v1 : Sl) (v2 : Nat) (v3 : Int) (v4 : Int) (v5 : Sl) (v6 : Int) (v7 : Int) (v8 : Bool) (H : Hp) : Fin Try.prog Try.f82 ret82 53 (todoAt (bodyOf Try.f82) [1, 1, 0, 1, 0, 0, 1, 1, 0, 0, 1, 0, 1] []) [(0, .sl v1), (3, .map v2), (4, .int .i64 v3), (5, .int .i64 v4), (10, .sl v5), (11, .int .i64 v6), (12, .int .i64 v7), (24, .bool v8)] H (r82_j1 kt0 v1 v2 v3 v4 v5 v6 v7 v8 H) := by
  unfold r82_j1
  refine f_if (fun h1 => ?_) (fun h1 => ?_)
  · skip
    refine f_know 24 rfl (bool_T h1) ?_
    refine f_condT rfl ?_
    refine f_seq ?_
    refine f_region ?_
    refine f_op rfl rfl (s_as (v := .bool false) rfl) ?_
    refine f_nil ?_
    exact f_ret (.tmp rfl (.nil)) rfl
  · skip
    refine f_know 24 rfl (bool_F h1) ?_
    refine f_condF rfl ?_
    refine f_skip ?_
    refine f_seq ?_
    refine f_region ?_
    refine f_op rfl rfl (s_mv (v := .sl v1) rfl) ?_
    refine f_op rfl rfl (s_mv (v := .int .i64 v3) rfl) ?_
    refine o_ck fun g2 => ?_
    refine f_op rfl rfl (s_slice Try.underlying22 ty3 rfl rfl rfl g2.1 g2.2) ?_
    refine f_op rfl rfl (s_lenS rfl Try.underlying22 rfl) ?_
    refine f_op rfl rfl (s_mv (v := .int .i64 0) rfl) ?_
    refine f_nil ?_
    refine f_block ?_
    refine f_loop ?_
    refine f_keep [0, 3, 4, 5, 10, 11, 12, 27, 28, 29] ?_
    exact s82_l2 _ hkt0 FUEL v1 v2 v3 v4 v5 v6 v7 (v1.cut 1 (0 : Int).toNat (v3 : Int).toNat) ((v1.cut 1 (0 : Int).toNat (v3 : Int).toNat).len : Int) 0 H

theorem s82_l0 : ∀ (k_ : Nat) (v1 : Sl) (v2 : Nat) (v3 : Sl) (v4 : Int) (v5 : Int) (H : Hp), Fin Try.prog Try.f82 ret82 53 (todoAt (bodyOf Try.f82) [1, 1, 0, 1, 0, 0] []) [(0, .sl v1), (3, .map v2), (10, .sl v3), (11, .int .i64 v4), (12, .int .i64 v5)] H (r82_l0 k_ v1 v2 v3 v4 v5 H) := by
  intro k_
  induction k_ with
  | zero => intro _ _ _ _ _ _; exact f_none
  | succ k_ ih =>
    intro v1 v2 v3 v4 v5 H
    rw [r82_l0]
    refine f_seq ?_
    refine f_region ?_
    refine f_op rfl rfl (s_lss rfl rfl) ?_
    refine f_nil ?_
    refine f_seq ?_
    refine f_if (fun h1 => ?_) (fun h1 => ?_)
    · skip
      refine f_know 13 rfl (dec_true h1) ?_
      refine f_condT rfl ?_
      refine f_skip ?_
      refine f_seq ?_
      refine f_block ?_
      refine f_seq ?_
      refine f_region ?_
      refine f_op rfl rfl (s_mv (v := .int .i64 v5) rfl) ?_
      refine o_ck fun g2 => ?_
      refine f_op rfl rfl (s_idx Try.underlying22 ty3 rfl rfl g2) ?_
      refine o_bind ?_; intro x3 hx3
      refine f_op rfl rfl (s_load Try.underlying3 rfl rfl (ldI_eq hx3)) ?_
      refine f_op rfl rfl (s_as (v := .int .i64 v5) rfl) ?_
      refine f_op rfl rfl (s_as (v := .int .i64 x3) rfl) ?_
      refine f_nil ?_
      refine f_seq ?_
      refine f_seq ?_
      refine f_region ?_
      refine f_op rfl rfl (s_mv (v := .int .i64 x3) rfl) ?_
      refine f_op rfl rfl (s_lss rfl rfl) ?_
      refine f_op rfl rfl (s_mv (v := .bool (decide (x3 < 0))) rfl) ?_
      refine o_if (fun h4 => ?_) (fun h4 => ?_)
      · skip
        refine o_know 19 rfl (dec_true h4) ?_
        refine f_no rfl rfl ?_
        refine f_no rfl rfl ?_
        refine f_no rfl rfl ?_
        refine f_no rfl rfl ?_
        refine f_op rfl rfl (s_pickT (v := .bool true) rfl rfl) ?_
        refine f_nil ?_
        refine f_keep [0, 3, 4, 5, 10, 11, 12, 24] ?_
        exact s82_j1 _ (fun v1_ v2_ v3_ v4_ v5_ H_ => ih v1_ v2_ v3_ v4_ v5_ H_) v1 v2 v5 x3 v3 v4 v5 true H
      · skip
        refine o_know 19 rfl (dec_false h4) ?_
        refine f_op rfl rfl (s_mv (v := .int .i64 x3) rfl) ?_
        refine f_op rfl rfl (s_mv (v := .sl v1) rfl) ?_
        refine f_op rfl rfl (s_lenS rfl Try.underlying22 rfl) ?_
        refine f_op rfl rfl (s_geq rfl rfl) ?_
        refine f_op rfl rfl (s_pickF (v := .bool (decide ((v1.len : Int) ≤ x3))) rfl rfl) ?_
        refine f_nil ?_
        refine f_keep [0, 3, 4, 5, 10, 11, 12, 24] ?_
        exact s82_j1 _ (fun v1_ v2_ v3_ v4_ v5_ H_ => ih v1_ v2_ v3_ v4_ v5_ H_) v1 v2 v5 x3 v3 v4 v5 (decide ((v1.len : Int) ≤ x3)) H
    · skip
      refine f_know 13 rfl (dec_false h1) ?_
      refine f_condF rfl ?_
      refine f_exit rfl ?_
      refine f_seq ?_
      refine f_region ?_
      refine f_op rfl rfl (s_as (v := .bool true) rfl) ?_
      refine f_nil ?_
      exact f_ret (.tmp rfl (.nil)) rfl

theorem sim82 {a0 : Sl} {H : Hp} {p : Bool × Hp} (h : r82 a0 H = some p) : CallSim Try.prog 82 [.sl a0] H (.bool p.1) p.2 := by
  refine callSim (fn := Try.f82) (ret := ret82) Try.func82 rfl Try.ntmps82 rfl ?_ h
  unfold r82
  refine f_seq ?_
  refine f_region ?_
  refine f_op rfl rfl (s_as (v := .bool false) rfl) ?_
  refine f_nil ?_
  refine f_seq ?_
  refine f_region ?_
  refine f_op rfl rfl (s_makeMap (.arr 2 .i64) rfl) ?_
  refine f_op rfl rfl (s_as (v := .map H.n) rfl) ?_
  refine o_hp ?_; intro H1 hH1
  refine f_nil ?_
  refine f_seq ?_
  refine f_seq ?_
  refine f_region ?_
  refine f_op rfl rfl (s_mv (v := .sl a0) rfl) ?_
  refine f_op rfl rfl (s_lenS rfl Try.underlying22 rfl) ?_
  refine f_op rfl rfl (s_mv (v := .int .i64 0) rfl) ?_
  refine f_nil ?_
  refine f_block ?_
  refine f_loop ?_
  refine f_keep [0, 3, 10, 11, 12] ?_
  exact s82_l0 FUEL a0 H.n a0 (a0.len : Int) 0 H1

/- 39 congou/pairs.Quarter -/
theorem ok39 : FnOk Try.prog 39 := ⟨⟨Try.f39, Try.func39, by kernel_rfl, rfl⟩⟩
theorem s39_l1 : ∀ (k_ : Nat) (v1 : Sl) (v2 : Sl) (v3 : Sl) (v4 : Int) (v5 : Int) (H : Hp), Fin Try.prog Try.f39 ret39 40 (todoAt (bodyOf Try.f39) [1, 1, 1, 0, 1, 0, 0] []) [(0, .sl v1), (4, .sl v2), (23, .sl v3), (24, .int .i64 v4), (25, .int .i64 v5)] H (r39_l1 k_ v1 v2 v3 v4 v5 H) := by
  intro k_
  induction k_ with
  | zero => intro _ _ _ _ _ _; exact f_none
  | succ k_ ih =>
    intro v1 v2 v3 v4 v5 H
    rw [r39_l1]
    refine f_seq ?_
    refine f_region ?_
    refine f_op rfl rfl (s_lss rfl rfl) ?_
    refine f_nil ?_
    refine f_seq ?_
    refine f_if (fun h1 => ?_) (fun h1 => ?_)
    · skip
      refine f_know 26 rfl (dec_true h1) ?_
      refine f_condT rfl ?_
      refine f_skip ?_
      refine f_seq ?_
      refine f_block ?_
      refine f_seq ?_
      refine f_region ?_
      refine f_op rfl rfl (s_mv (v := .int .i64 v5) rfl) ?_
      refine o_ck fun g2 => ?_
      refine f_op rfl rfl (s_idx Try.underlying22 ty3 rfl rfl g2) ?_
      refine o_bind ?_; intro x3 hx3
      refine f_op rfl rfl (s_load Try.underlying3 rfl rfl (ldI_eq hx3)) ?_
      refine f_op rfl rfl (s_as (v := .int .i64 v5) rfl) ?_
      refine f_op rfl rfl (s_as (v := .int .i64 x3) rfl) ?_
      refine f_nil ?_
      refine f_region ?_
      refine f_op rfl rfl (s_mv (v := .sl v2) rfl) ?_
      refine f_op rfl rfl (s_mv (v := .int .i64 x3) rfl) ?_
      refine f_op rfl rfl (s_mv (v := .sl v1) rfl) ?_
      refine f_op rfl rfl (s_lenS rfl Try.underlying22 rfl) ?_
      refine f_op rfl rfl (s_sub rfl rfl) ?_
      refine f_op rfl rfl (s_mv (v := .int .i64 v5) rfl) ?_
      refine f_op rfl rfl (s_sub rfl rfl) ?_
      refine o_ck fun g4 => ?_
      refine f_op rfl rfl (s_idx Try.underlying22 ty3 rfl rfl g4) ?_
      refine o_bind ?_; intro H5 hH5
      refine f_op rfl rfl (s_store (s := 1) ty3 rfl rfl rfl hH5) ?_
      refine f_nil ?_
      refine f_inBlock ?_
      refine f_region ?_
      refine f_op rfl rfl (s_add rfl rfl) ?_
      refine f_op rfl rfl (s_mv (v := .int .i64 (w64 (v5 + 1))) rfl) ?_
      refine f_nil ?_
      refine f_inLoop ?_
      refine f_keep [0, 4, 23, 24, 25] ?_
      exact ih v1 v2 v3 v4 (w64 (v5 + 1)) H5
    · skip
      refine f_know 26 rfl (dec_false h1) ?_
      refine f_condF rfl ?_
      refine f_exit rfl ?_
      refine f_seq ?_
      refine f_region ?_
      refine f_op rfl rfl (s_mv (v := .sl v2) rfl) ?_
      refine f_op rfl rfl (s_as (v := .sl v2) rfl) ?_
      refine f_op rfl rfl (s_as (v := .int .i64 0) rfl) ?_
      refine f_nil ?_
      exact f_ret (.tmp rfl (.tmp rfl (.nil))) rfl

theorem s39_j0 (v1 : Sl) (v2 : Bool) (H : Hp) : Fin Try.prog Try.f39 ret39 40 (todoAt (bodyOf Try.f39) [1, 0, 1] []) [(0, .sl v1), (19, .bool v2)] H (r39_j0 v1 v2 H) := by
  unfold r39_j0
  refine f_if (fun h1 => ?_) (fun h1 => ?_)
  · skip
    refine f_know 19 rfl (bool_T h1) ?_
    refine f_condT rfl ?_
    refine f_seq ?_
    refine f_region ?_
    refine f_op rfl rfl (s_as (v := .sl ⟨true, 0, 0, 0, 0, 0⟩) rfl) ?_
    refine f_op rfl rfl (s_as (v := .int .i64 2) rfl) ?_
    refine f_nil ?_
    exact f_ret (.tmp rfl (.tmp rfl (.nil))) rfl
  · skip
    refine f_know 19 rfl (bool_F h1) ?_
    refine f_condF rfl ?_
    refine f_skip ?_
    refine f_seq ?_
    refine f_region ?_
    refine f_op rfl rfl (s_mv (v := .sl v1) rfl) ?_
    refine f_op rfl rfl (s_lenS rfl Try.underlying22 rfl) ?_
    refine o_ck fun g2 => ?_
    refine f_op rfl rfl (s_makeSlice Try.underlying22 ty3 rfl rfl (by decide) (by decide) rfl rfl g2) ?_
    refine f_op rfl rfl (s_as (v := .sl ⟨false, H.n, 0, ((v1.len : Int) : Int).toNat, ((v1.len : Int) : Int).toNat, 0⟩) rfl) ?_
    refine o_hp ?_; intro H3 hH3
    refine f_nil ?_
    refine f_seq ?_
    refine f_seq ?_
    refine f_region ?_
    refine f_op rfl rfl (s_mv (v := .sl v1) rfl) ?_
    refine f_op rfl rfl (s_lenS rfl Try.underlying22 rfl) ?_
    refine f_op rfl rfl (s_mv (v := .int .i64 0) rfl) ?_
    refine f_nil ?_
    refine f_block ?_
    refine f_loop ?_
    refine f_keep [0, 4, 23, 24, 25] ?_
    exact s39_l1 FUEL v1 ⟨false, H.n, 0, ((v1.len : Int) : Int).toNat, ((v1.len : Int) : Int).toNat, 0⟩ v1 (v1.len : Int) 0 H3

theorem sim39 {a0 : Sl} {H : Hp} {p : (Sl × Int) × Hp} (h : r39 a0 H = some p) : CallSim Try.prog 39 [.sl a0] H (.tup [.sl p.1.1, .int .i64 p.1.2]) p.2 := by
  refine callSim (fn := Try.f39) (ret := ret39) Try.func39 rfl Try.ntmps39 rfl ?_ h
  unfold r39
  refine f_seq ?_
  refine f_region ?_
  refine f_op rfl rfl (s_as (v := .sl ⟨true, 0, 0, 0, 0, 0⟩) rfl) ?_
  refine f_op rfl rfl (s_as (v := .int .i64 0) rfl) ?_
  refine f_nil ?_
  refine f_seq ?_
  refine f_seq ?_
  refine f_region ?_
  refine f_op rfl rfl (s_mv (v := .sl a0) rfl) ?_
  refine f_op rfl rfl (s_lenS rfl Try.underlying22 rfl) ?_
  refine f_op rfl rfl (s_lss rfl rfl) ?_
  refine f_op rfl rfl (s_mv (v := .bool (decide ((a0.len : Int) < 1))) rfl) ?_
  refine o_if (fun h1 => ?_) (fun h1 => ?_)
  · skip
    refine o_know 10 rfl (dec_true h1) ?_
    refine f_no rfl rfl ?_
    refine f_no rfl rfl ?_
    refine f_no rfl rfl ?_
    refine f_op rfl rfl (s_pickT (v := .bool true) rfl rfl) ?_
    refine f_op rfl rfl (s_mv (v := .bool true) rfl) ?_
    refine f_no rfl rfl ?_
    refine f_no rfl rfl ?_
    refine f_no rfl rfl ?_
    refine f_op rfl rfl (s_pickT (v := .bool true) rfl rfl) ?_
    refine f_nil ?_
    refine f_keep [0, 19] ?_
    exact s39_j0 a0 true H
  · skip
    refine o_know 10 rfl (dec_false h1) ?_
    refine f_op rfl rfl (s_mv (v := .sl a0) rfl) ?_
    refine f_op rfl rfl (s_lenS rfl Try.underlying22 rfl) ?_
    refine f_op rfl rfl (s_gtr rfl rfl) ?_
    refine f_op rfl rfl (s_pickF (v := .bool (decide (6 < (a0.len : Int)))) rfl rfl) ?_
    refine f_op rfl rfl (s_mv (v := .bool (decide (6 < (a0.len : Int)))) rfl) ?_
    refine o_if (fun h2 => ?_) (fun h2 => ?_)
    · skip
      refine o_know 15 rfl (dec_true h2) ?_
      refine f_no rfl rfl ?_
      refine f_no rfl rfl ?_
      refine f_no rfl rfl ?_
      refine f_op rfl rfl (s_pickT (v := .bool true) rfl rfl) ?_
      refine f_nil ?_
      refine f_keep [0, 19] ?_
      exact s39_j0 a0 true H
    · skip
      refine o_know 15 rfl (dec_false h2) ?_
      refine f_op rfl rfl (s_mv (v := .sl a0) rfl) ?_
      refine o_bind ?_; intro p3 hp3
      refine f_op rfl rfl (s_callF rfl ok82 (sim82 hp3)) ?_
      refine f_op rfl rfl (s_not rfl) ?_
      refine f_op rfl rfl (s_pickF (v := .bool (!p3.1)) rfl rfl) ?_
      refine f_nil ?_
      refine f_keep [0, 19] ?_
      exact s39_j0 a0 (!p3.1) p3.2

/- 40 slices.Reverse[[]int,int] -/
theorem ok40 : FnOk Try.prog 40 := ⟨⟨Try.f40, Try.func40, by kernel_rfl, rfl⟩⟩
theorem s40_l0 : ∀ (k_ : Nat) (v1 : Sl) (v2 : Int) (v3 : Int) (H : Hp), Fin Try.prog Try.f40 ret40 28 (todoAt (bodyOf Try.f40) [1, 0, 0] []) [(0, .sl v1), (2, .int .i64 v2), (3, .int .i64 v3)] H (r40_l0 k_ v1 v2 v3 H) := by
  intro k_
  induction k_ with
  | zero => intro _ _ _ _; exact f_none
  | succ k_ ih =>
    intro v1 v2 v3 H
    rw [r40_l0]
    refine f_seq ?_
    refine f_seq ?_
    refine f_region ?_
    refine f_op rfl rfl (s_mv (v := .int .i64 v2) rfl) ?_
    refine f_op rfl rfl (s_mv (v := .int .i64 v3) rfl) ?_
    refine f_op rfl rfl (s_lss rfl rfl) ?_
    refine f_nil ?_
    refine f_if (fun h1 => ?_) (fun h1 => ?_)
    · skip
      refine f_know 9 rfl (dec_true h1) ?_
      refine f_condT rfl ?_
      refine f_skip ?_
      refine f_seq ?_
      refine f_block ?_
      refine f_ck fun g2 => ?_
      refine f_bind ?_; intro x3 hx3
      refine f_ck fun g4 => ?_
      refine f_bind ?_; intro x5 hx5
      refine f_ck fun g6 => ?_
      refine f_bind ?_; intro H7 hH7
      refine f_ck fun g8 => ?_
      refine f_bind ?_; intro H9 hH9
      refine f_draw (Φ := fun _ => True) [0, 0, 0, 0, 0, 0, 0, 1, 0, 0, 0, 1, 0, 2, 0, 2] (Trc.pure rfl rfl rfl (fun _ _ => s_mv (v := .sl v1) rfl) (Trc.pure rfl rfl rfl (fun _ _ => s_mv (v := .int .i64 v2) rfl) (Trc.pure rfl rfl rfl (fun _ _ => s_mv (v := .sl v1) rfl) (Trc.pure rfl rfl rfl (fun _ _ => s_mv (v := .int .i64 v3) rfl) (Trc.pure rfl rfl rfl (fun _ _ => s_mv (v := .sl v1) rfl) (Trc.pure rfl rfl rfl (fun _ _ => s_mv (v := .int .i64 v3) rfl) (Trc.pure rfl rfl rfl (fun _ _ => s_idx Try.underlying22 ty3 rfl rfl g2) (Trc.read rfl rfl rfl (s_load Try.underlying3 rfl rfl (ldI_eq hx3)) (Trc.pure rfl rfl rfl (fun _ _ => s_mv (v := .sl v1) rfl) (Trc.pure rfl rfl rfl (fun _ _ => s_mv (v := .int .i64 v2) rfl) (Trc.pure rfl rfl rfl (fun _ _ => s_idx Try.underlying22 ty3 rfl rfl g4) (Trc.read rfl rfl rfl (s_load Try.underlying3 rfl rfl (ldI_eq hx5)) (Trc.pure rfl rfl rfl (fun _ _ => s_idx Try.underlying22 ty3 rfl rfl g6) (Trc.eff rfl rfl rfl (trivial) (s_store (s := 1) ty3 rfl rfl rfl hH7) (Trc.pure rfl rfl rfl (fun _ _ => s_idx Try.underlying22 ty3 rfl rfl g8) (Trc.eff rfl rfl rfl (trivial) (s_store (s := 1) ty3 rfl rfl rfl hH9) (Trc.nil (trivial)))))))))))))))))) rfl (by decide +kernel) mixed ?_
      refine f_inBlock ?_
      refine f_region ?_
      refine f_op rfl rfl (s_mv (v := .int .i64 v2) rfl) ?_
      refine f_op rfl rfl (s_add rfl rfl) ?_
      refine f_op rfl rfl (s_mv (v := .int .i64 v3) rfl) ?_
      refine f_op rfl rfl (s_sub rfl rfl) ?_
      refine f_op rfl rfl (s_as (v := .int .i64 (w64 (v2 + 1))) rfl) ?_
      refine f_op rfl rfl (s_as (v := .int .i64 (w64 (v3 - 1))) rfl) ?_
      refine f_nil ?_
      refine f_inLoop ?_
      refine f_keep [0, 2, 3] ?_
      exact ih v1 (w64 (v2 + 1)) (w64 (v3 - 1)) H9
    · skip
      refine f_know 9 rfl (dec_false h1) ?_
      refine f_condF rfl ?_
      refine f_exit rfl ?_
      exact f_end (.nil) rfl

theorem sim40 {a0 : Sl} {H : Hp} {p : Unit × Hp} (h : r40 a0 H = some p) : CallSim Try.prog 40 [.sl a0] H (.tup []) p.2 := by
  refine callSim (fn := Try.f40) (ret := ret40) Try.func40 rfl Try.ntmps40 rfl ?_ h
  unfold r40
  refine f_seq ?_
  refine f_region ?_
  refine f_op rfl rfl (s_mv (v := .sl a0) rfl) ?_
  refine f_op rfl rfl (s_lenS rfl Try.underlying22 rfl) ?_
  refine f_op rfl rfl (s_sub rfl rfl) ?_
  refine f_op rfl rfl (s_as (v := .int .i64 0) rfl) ?_
  refine f_op rfl rfl (s_as (v := .int .i64 (w64 ((a0.len : Int) - 1))) rfl) ?_
  refine f_nil ?_
  refine f_block ?_
  refine f_loop ?_
  refine f_keep [0, 2, 3] ?_
  exact s40_l0 FUEL a0 0 (w64 ((a0.len : Int) - 1)) H

/- 41 congou/pairs.Turn -/
theorem ok41 : FnOk Try.prog 41 := ⟨⟨Try.f41, Try.func41, by kernel_rfl, rfl⟩⟩
theorem sim41 {a0 : Int} {a1 : Sl} {H : Hp} {p : (Sl × Int) × Hp} (h : r41 a0 a1 H = some p) : CallSim Try.prog 41 [.int .i64 a0, .sl a1] H (.tup [.sl p.1.1, .int .i64 p.1.2]) p.2 := by
  refine callSim (fn := Try.f41) (ret := ret41) Try.func41 rfl Try.ntmps41 rfl ?_ h
  unfold r41
  refine f_seq ?_
  refine f_region ?_
  refine f_op rfl rfl (s_as (v := .sl ⟨true, 0, 0, 0, 0, 0⟩) rfl) ?_
  refine f_op rfl rfl (s_as (v := .int .i64 0) rfl) ?_
  refine f_nil ?_
  refine f_seq ?_
  refine f_seq ?_
  refine f_region ?_
  refine f_op rfl rfl (s_mv (v := .int .i64 a0) rfl) ?_
  refine f_op rfl rfl (s_mv (v := .sl a1) rfl) ?_
  refine o_bind ?_; intro p1 hp1
  refine f_op rfl rfl (s_callF rfl ok81 (sim81 hp1)) ?_
  refine f_op rfl rfl (s_mv (v := .tup [.sl p1.1.1, .bool p1.1.2]) rfl) ?_
  refine f_op rfl rfl (s_extract (r := .sl p1.1.1) rfl rfl) ?_
  refine f_op rfl rfl (s_extract (r := .bool p1.1.2) rfl rfl) ?_
  refine f_op rfl rfl (s_as (v := .sl p1.1.1) rfl) ?_
  refine f_op rfl rfl (s_as (v := .bool p1.1.2) rfl) ?_
  refine f_nil ?_
  refine f_seq ?_
  refine f_region ?_
  refine f_op rfl rfl (s_mv (v := .bool p1.1.2) rfl) ?_
  refine f_op rfl rfl (s_not rfl) ?_
  refine f_nil ?_
  refine f_if (fun h2 => ?_) (fun h2 => ?_)
  · skip
    refine f_know 16 rfl (bool_notT h2) ?_
    refine f_condF rfl ?_
    refine f_skip ?_
    refine f_seq ?_
    refine f_region ?_
    refine f_op rfl rfl (s_mv (v := .sl a1) rfl) ?_
    refine o_bind ?_; intro p3 hp3
    refine f_op rfl rfl (s_callF rfl ok36 (sim36 hp3)) ?_
    refine f_op rfl rfl (s_as (v := .sl p3.1) rfl) ?_
    refine f_nil ?_
    refine f_seq ?_
    refine f_region ?_
    refine f_op rfl rfl (s_mv (v := .sl p3.1) rfl) ?_
    refine o_bind ?_; intro p4 hp4
    refine f_op rfl rfl (s_callF rfl ok40 (sim40 hp4)) ?_
    refine f_nil ?_
    refine f_seq ?_
    refine f_region ?_
    refine f_op rfl rfl (s_mv (v := .sl p3.1) rfl) ?_
    refine f_op rfl rfl (s_as (v := .sl p3.1) rfl) ?_
    refine f_op rfl rfl (s_as (v := .int .i64 0) rfl) ?_
    refine f_nil ?_
    exact f_ret (.tmp rfl (.tmp rfl (.nil))) rfl
  · skip
    refine f_know 16 rfl (bool_notF h2) ?_
    refine f_condT rfl ?_
    refine f_seq ?_
    refine f_region ?_
    refine f_op rfl rfl (s_as (v := .sl ⟨true, 0, 0, 0, 0, 0⟩) rfl) ?_
    refine f_op rfl rfl (s_as (v := .int .i64 2) rfl) ?_
    refine f_nil ?_
    exact f_ret (.tmp rfl (.tmp rfl (.nil))) rfl

/- 42 slices.Equal[[][2]int,[2]int] -/
theorem ok42 : FnOk Try.prog 42 := ⟨⟨Try.f42, Try.func42, by kernel_rfl, rfl⟩⟩
theorem s42_l0 : ∀ (k_ : Nat) (v1 : Sl) (v2 : Sl) (v3 : Int) (v4 : Int) (H : Hp), Fin Try.prog Try.f42 ret42 26 (todoAt (bodyOf Try.f42) [1, 1, 0, 1, 0, 0] []) [(0, .sl v1), (1, .sl v2), (12, .int .i64 v3), (13, .int .i64 v4)] H (r42_l0 k_ v1 v2 v3 v4 H) := by
  intro k_
  induction k_ with
  | zero => intro _ _ _ _ _; exact f_none
  | succ k_ ih =>
    intro v1 v2 v3 v4 H
    rw [r42_l0]
    refine f_seq ?_
    refine f_region ?_
    refine f_op rfl rfl (s_lss rfl rfl) ?_
    refine f_nil ?_
    refine f_seq ?_
    refine f_if (fun h1 => ?_) (fun h1 => ?_)
    · skip
      refine f_know 14 rfl (dec_true h1) ?_
      refine f_condT rfl ?_
      refine f_skip ?_
      refine f_seq ?_
      refine f_block ?_
      refine f_seq ?_
      refine f_region ?_
      refine f_op rfl rfl (s_mv (v := .int .i64 v4) rfl) ?_
      refine f_op rfl rfl (s_as (v := .int .i64 v4) rfl) ?_
      refine f_nil ?_
      refine f_seq ?_
      refine f_ck fun g2 => ?_
      refine f_bind ?_; intro x3 hx3
      refine f_bind ?_; intro x4 hx4
      refine f_ck fun g5 => ?_
      refine f_bind ?_; intro x6 hx6
      refine f_bind ?_; intro x7 hx7
      refine f_draw (Φ := fun _ => True) [0, 0, 0, 1, 0, 0, 0, 1, 0] (Trc.pure rfl rfl rfl (fun _ _ => s_mv (v := .sl v1) rfl) (Trc.pure rfl rfl rfl (fun _ _ => s_mv (v := .int .i64 v4) rfl) (Trc.pure rfl rfl rfl (fun _ _ => s_idx Try.underlying40 ty43 rfl rfl g2) (Trc.read rfl rfl rfl (s_loads Try.underlying43 rfl ty43 rfl (lds_cons (ldI_eq hx3) (lds_cons (ldI_eq hx4) (lds_nil)))) (Trc.pure rfl rfl rfl (fun _ _ => s_mv (v := .sl v2) rfl) (Trc.pure rfl rfl rfl (fun _ _ => s_mv (v := .int .i64 v4) rfl) (Trc.pure rfl rfl rfl (fun _ _ => s_idx Try.underlying40 ty43 rfl rfl g5) (Trc.read rfl rfl rfl (s_loads Try.underlying43 rfl ty43 rfl (lds_cons (ldI_eq hx6) (lds_cons (ldI_eq hx7) (lds_nil)))) (Trc.pure rfl rfl rfl (fun _ _ => s_neArr eg43 Try.underlying43 Try.underlying3 ty3 rfl rfl rfl rfl rfl rfl) (Trc.nil (trivial))))))))))) rfl (by decide +kernel) mixed ?_
      refine f_if (fun h8 => ?_) (fun h8 => ?_)
      · skip
        refine f_know 24 rfl (bool_notT h8) ?_
        refine f_condF rfl ?_
        refine f_skip ?_
        refine f_inBlock ?_
        refine f_region ?_
        refine f_op rfl rfl (s_add rfl rfl) ?_
        refine f_op rfl rfl (s_mv (v := .int .i64 (w64 (v4 + 1))) rfl) ?_
        refine f_nil ?_
        refine f_inLoop ?_
        refine f_keep [0, 1, 12, 13] ?_
        exact ih v1 v2 v3 (w64 (v4 + 1)) H
      · skip
        refine f_know 24 rfl (bool_notF h8) ?_
        refine f_condT rfl ?_
        refine f_seq ?_
        refine f_region ?_
        refine f_op rfl rfl (s_as (v := .bool false) rfl) ?_
        refine f_nil ?_
        exact f_ret (.tmp rfl (.nil)) rfl
    · skip
      refine f_know 14 rfl (dec_false h1) ?_
      refine f_condF rfl ?_
      refine f_exit rfl ?_
      refine f_seq ?_
      refine f_region ?_
      refine f_op rfl rfl (s_as (v := .bool true) rfl) ?_
      refine f_nil ?_
      exact f_ret (.tmp rfl (.nil)) rfl

theorem sim42 {a0 : Sl} {a1 : Sl} {H : Hp} {p : Bool × Hp} (h : r42 a0 a1 H = some p) : CallSim Try.prog 42 [.sl a0, .sl a1] H (.bool p.1) p.2 := by
  refine callSim (fn := Try.f42) (ret := ret42) Try.func42 rfl Try.ntmps42 rfl ?_ h
  unfold r42
  refine f_seq ?_
  refine f_region ?_
  refine f_op rfl rfl (s_as (v := .bool false) rfl) ?_
  refine f_nil ?_
  refine f_seq ?_
  refine f_seq ?_
  refine f_region ?_
  refine f_op rfl rfl (s_mv (v := .sl a0) rfl) ?_
  refine f_op rfl rfl (s_lenS rfl Try.underlying40 rfl) ?_
  refine f_op rfl rfl (s_mv (v := .sl a1) rfl) ?_
  refine f_op rfl rfl (s_lenS rfl Try.underlying40 rfl) ?_
  refine f_op rfl rfl (s_neq rfl rfl) ?_
  refine f_nil ?_
  refine f_if (fun h1 => ?_) (fun h1 => ?_)
  · skip
    refine f_know 10 rfl (dec_true h1) ?_
    refine f_condT rfl ?_
    refine f_seq ?_
    refine f_region ?_
    refine f_op rfl rfl (s_as (v := .bool false) rfl) ?_
    refine f_nil ?_
    exact f_ret (.tmp rfl (.nil)) rfl
  · skip
    refine f_know 10 rfl (dec_false h1) ?_
    refine f_condF rfl ?_
    refine f_skip ?_
    refine f_seq ?_
    refine f_seq ?_
    refine f_region ?_
    refine f_op rfl rfl (s_mv (v := .sl a0) rfl) ?_
    refine f_op rfl rfl (s_lenS rfl Try.underlying40 rfl) ?_
    refine f_op rfl rfl (s_mv (v := .int .i64 0) rfl) ?_
    refine f_nil ?_
    refine f_block ?_
    refine f_loop ?_
    refine f_keep [0, 1, 12, 13] ?_
    exact s42_l0 FUEL a0 a1 (a0.len : Int) 0 H

/- 43 congou/congouref08.Split -/
theorem ok43 : FnOk Try.prog 43 := ⟨⟨Try.f43, Try.func43, by kernel_rfl, rfl⟩⟩
theorem s43_l0 : ∀ (k_ : Nat) (v1 : Sl) (v2 : Sl) (v3 : Int) (v4 : Int) (H : Hp), Fin Try.prog Try.f43 ret43 30 (todoAt (bodyOf Try.f43) [1, 1, 0, 1, 0, 0] []) [(0, .sl v1), (3, .sl v2), (8, .int .i64 v3), (9, .int .i64 v4)] H (r43_l0 k_ v1 v2 v3 v4 H) := by
  intro k_
  induction k_ with
  | zero => intro _ _ _ _ _; exact f_none
  | succ k_ ih =>
    intro v1 v2 v3 v4 H
    rw [r43_l0]
    refine f_seq ?_
    refine f_region ?_
    refine f_op rfl rfl (s_lss rfl rfl) ?_
    refine f_nil ?_
    refine f_seq ?_
    refine f_if (fun h1 => ?_) (fun h1 => ?_)
    · skip
      refine f_know 10 rfl (dec_true h1) ?_
      refine f_condT rfl ?_
      refine f_skip ?_
      refine f_seq ?_
      refine f_block ?_
      refine f_seq ?_
      refine f_region ?_
      refine f_op rfl rfl (s_mv (v := .int .i64 v4) rfl) ?_
      refine f_op rfl rfl (s_as (v := .int .i64 v4) rfl) ?_
      refine f_nil ?_
      refine f_seq ?_
      refine f_region ?_
      refine f_op rfl rfl (s_mv (v := .sl v1) rfl) ?_
      refine f_op rfl rfl (s_mv (v := .int .i64 v4) rfl) ?_
      refine f_op rfl rfl (s_add rfl rfl) ?_
      refine o_bind ?_; intro p2 hp2
      refine f_op rfl rfl (s_callF rfl ok78 (sim78 hp2)) ?_
      refine f_op rfl rfl (s_as (v := .sl p2.1) rfl) ?_
      refine f_nil ?_
      refine f_ck fun g3 => ?_
      refine f_bind ?_; intro x4 hx4
      refine f_ck fun g5 => ?_
      refine f_bind ?_; intro x6 hx6
      refine f_bind ?_; intro x7 hx7
      refine f_draw (Φ := fun _ => True) [0, 0, 0, 1, 0, 0, 0, 1, 0, 0, 2, 2, 0] (Trc.pure rfl rfl rfl (fun _ _ => s_mv (v := .sl v2) rfl) (Trc.pure rfl rfl rfl (fun _ _ => s_mv (v := .sl p2.1) rfl) (Trc.pure rfl rfl rfl (fun _ _ => s_idx Try.underlying22 ty3 rfl rfl g3) (Trc.read rfl rfl rfl (s_load Try.underlying3 rfl rfl (ldI_eq hx4)) (Trc.pure rfl rfl rfl (fun _ _ => s_add rfl rfl) (Trc.pure rfl rfl rfl (fun _ _ => s_mv (v := .sl p2.1) rfl) (Trc.pure rfl rfl rfl (fun _ _ => s_idx Try.underlying22 ty3 rfl rfl g5) (Trc.read rfl rfl rfl (s_load Try.underlying3 rfl rfl (ldI_eq hx6)) (Trc.pure rfl rfl rfl (fun _ _ => s_add rfl rfl) (Trc.pure rfl rfl rfl (fun _ _ => s_buildA (cs := [.int .i64 (w64 (x4 + 1)), .int .i64 (w64 (x6 + 1))]) Try.underlying43 ty43 ty3 rfl rfl) (Trc.eff rfl rfl rfl (trivial) (s_buildSlice (cs := [.int .i64 (w64 (x4 + 1)), .int .i64 (w64 (x6 + 1))]) Try.underlying40 ty43 (by decide) (by decide) rfl (by decide) rfl) (Trc.eff rfl rfl rfl (trivial) (s_ap rfl rfl Try.underlying40 Try.underlying40 ty43 rfl rfl rfl rfl rfl rfl rfl hx7) (Trc.pure rfl rfl rfl (fun _ _ => s_as (v := .sl x7.1) rfl) (Trc.nil (trivial))))))))))))))) rfl (by decide +kernel) mixed ?_
      refine f_inBlock ?_
      refine f_region ?_
      refine f_op rfl rfl (s_add rfl rfl) ?_
      refine f_op rfl rfl (s_mv (v := .int .i64 (w64 (v4 + 1))) rfl) ?_
      refine f_nil ?_
      refine f_inLoop ?_
      refine f_keep [0, 3, 8, 9] ?_
      exact ih v1 x7.1 v3 (w64 (v4 + 1)) x7.2
    · skip
      refine f_know 10 rfl (dec_false h1) ?_
      refine f_condF rfl ?_
      refine f_exit rfl ?_
      refine f_seq ?_
      refine f_region ?_
      refine f_op rfl rfl (s_mv (v := .sl v2) rfl) ?_
      refine f_op rfl rfl (s_as (v := .sl v2) rfl) ?_
      refine f_nil ?_
      exact f_ret (.tmp rfl (.nil)) rfl

theorem sim43 {a0 : Sl} {H : Hp} {p : Sl × Hp} (h : r43 a0 H = some p) : CallSim Try.prog 43 [.sl a0] H (.sl p.1) p.2 := by
  refine callSim (fn := Try.f43) (ret := ret43) Try.func43 rfl Try.ntmps43 rfl ?_ h
  unfold r43
  refine f_seq ?_
  refine f_region ?_
  refine f_op rfl rfl (s_as (v := .sl ⟨true, 0, 0, 0, 0, 0⟩) rfl) ?_
  refine f_nil ?_
  refine f_seq ?_
  refine f_region ?_
  refine f_op rfl rfl (s_as (v := .sl ⟨true, 0, 0, 0, 0, 0⟩) rfl) ?_
  refine f_nil ?_
  refine f_seq ?_
  refine f_seq ?_
  refine f_region ?_
  refine f_op rfl rfl (s_mv (v := .sl a0) rfl) ?_
  refine f_op rfl rfl (s_lenS rfl Try.underlying22 rfl) ?_
  refine f_op rfl rfl (s_quo rfl rfl (by decide)) ?_
  refine f_op rfl rfl (s_mv (v := .int .i64 0) rfl) ?_
  refine f_nil ?_
  refine f_block ?_
  refine f_loop ?_
  refine f_keep [0, 3, 8, 9] ?_
  exact s43_l0 FUEL a0 ⟨true, 0, 0, 0, 0, 0⟩ (w64 (Int.tdiv (a0.len : Int) 2)) 0 H

/- 44 congou/congouref08.Turn -/
theorem ok44 : FnOk Try.prog 44 := ⟨⟨Try.f44, Try.func44, by kernel_rfl, rfl⟩⟩
theorem s44_l0 : ∀ (k_ : Nat) (v1 : Sl) (v2 : Sl) (v3 : Int) (H : Hp), Fin Try.prog Try.f44 ret44 20 (todoAt (bodyOf Try.f44) [1, 1, 0, 1, 0, 0] []) [(0, .sl v1), (3, .sl v2), (4, .int .i64 v3)] H (r44_l0 k_ v1 v2 v3 H) := by
  intro k_
  induction k_ with
  | zero => intro _ _ _ _; exact f_none
  | succ k_ ih =>
    intro v1 v2 v3 H
    rw [r44_l0]
    refine f_seq ?_
    refine f_seq ?_
    refine f_region ?_
    refine f_op rfl rfl (s_mv (v := .int .i64 v3) rfl) ?_
    refine f_op rfl rfl (s_geq rfl rfl) ?_
    refine f_nil ?_
    refine f_if (fun h1 => ?_) (fun h1 => ?_)
    · skip
      refine f_know 9 rfl (dec_true h1) ?_
      refine f_condT rfl ?_
      refine f_skip ?_
      refine f_seq ?_
      refine f_block ?_
      refine f_region ?_
      refine f_op rfl rfl (s_mv (v := .sl v2) rfl) ?_
      refine f_op rfl rfl (s_mv (v := .sl v1) rfl) ?_
      refine f_op rfl rfl (s_mv (v := .int .i64 v3) rfl) ?_
      refine o_ck fun g2 => ?_
      refine f_op rfl rfl (s_idx Try.underlying22 ty3 rfl rfl g2) ?_
      refine o_bind ?_; intro x3 hx3
      refine f_op rfl rfl (s_load Try.underlying3 rfl rfl (ldI_eq hx3)) ?_
      refine f_op rfl rfl (s_buildSlice (cs := [.int .i64 x3]) Try.underlying22 ty3 (by decide) (by decide) rfl (by decide) rfl) ?_
      refine o_bind ?_; intro x4 hx4
      refine f_op rfl rfl (s_ap rfl rfl Try.underlying22 Try.underlying22 ty3 rfl rfl rfl rfl rfl rfl rfl hx4) ?_
      refine f_op rfl rfl (s_as (v := .sl x4.1) rfl) ?_
      refine f_nil ?_
      refine f_inBlock ?_
      refine f_region ?_
      refine f_op rfl rfl (s_mv (v := .int .i64 v3) rfl) ?_
      refine f_op rfl rfl (s_sub rfl rfl) ?_
      refine f_op rfl rfl (s_as (v := .int .i64 (w64 (v3 - 1))) rfl) ?_
      refine f_nil ?_
      refine f_inLoop ?_
      refine f_keep [0, 3, 4] ?_
      exact ih v1 x4.1 (w64 (v3 - 1)) x4.2
    · skip
      refine f_know 9 rfl (dec_false h1) ?_
      refine f_condF rfl ?_
      refine f_exit rfl ?_
      refine f_seq ?_
      refine f_region ?_
      refine f_op rfl rfl (s_mv (v := .sl v2) rfl) ?_
      refine f_op rfl rfl (s_as (v := .sl v2) rfl) ?_
      refine f_nil ?_
      exact f_ret (.tmp rfl (.nil)) rfl

theorem sim44 {a0 : Sl} {H : Hp} {p : Sl × Hp} (h : r44 a0 H = some p) : CallSim Try.prog 44 [.sl a0] H (.sl p.1) p.2 := by
  refine callSim (fn := Try.f44) (ret := ret44) Try.func44 rfl Try.ntmps44 rfl ?_ h
  unfold r44
  refine f_seq ?_
  refine f_region ?_
  refine f_op rfl rfl (s_as (v := .sl ⟨true, 0, 0, 0, 0, 0⟩) rfl) ?_
  refine f_nil ?_
  refine f_seq ?_
  refine f_region ?_
  refine f_op rfl rfl (s_as (v := .sl ⟨true, 0, 0, 0, 0, 0⟩) rfl) ?_
  refine f_nil ?_
  refine f_seq ?_
  refine f_seq ?_
  refine f_region ?_
  refine f_op rfl rfl (s_mv (v := .sl a0) rfl) ?_
  refine f_op rfl rfl (s_lenS rfl Try.underlying22 rfl) ?_
  refine f_op rfl rfl (s_sub rfl rfl) ?_
  refine f_op rfl rfl (s_as (v := .int .i64 (w64 ((a0.len : Int) - 1))) rfl) ?_
  refine f_nil ?_
  refine f_block ?_
  refine f_loop ?_
  refine f_keep [0, 3, 4] ?_
  exact s44_l0 FUEL a0 ⟨true, 0, 0, 0, 0, 0⟩ (w64 ((a0.len : Int) - 1)) H

/- 65 congou/congouref08.All -/
theorem ok65 : FnOk Try.prog 65 := ⟨⟨Try.f65, Try.func65, by kernel_rfl, rfl⟩⟩
theorem s65_l0 : ∀ (k_ : Nat) (v1 : Sl) (v2 : Int) (v3 : Int) (v4 : Int) (H : Hp), Fin Try.prog Try.f65 ret65 20 (todoAt (bodyOf Try.f65) [1, 0, 1, 0, 0] []) [(0, .sl v1), (1, .int .i64 v2), (6, .int .i64 v3), (7, .int .i64 v4)] H (r65_l0 k_ v1 v2 v3 v4 H) := by
  intro k_
  induction k_ with
  | zero => intro _ _ _ _ _; exact f_none
  | succ k_ ih =>
    intro v1 v2 v3 v4 H
    rw [r65_l0]
    refine f_seq ?_
    refine f_region ?_
    refine f_op rfl rfl (s_lss rfl rfl) ?_
    refine f_nil ?_
    refine f_seq ?_
    refine f_if (fun h1 => ?_) (fun h1 => ?_)
    · skip
      refine f_know 8 rfl (dec_true h1) ?_
      refine f_condT rfl ?_
      refine f_skip ?_
      refine f_seq ?_
      refine f_block ?_
      refine f_seq ?_
      refine f_region ?_
      refine f_op rfl rfl (s_mv (v := .int .i64 v4) rfl) ?_
      refine f_op rfl rfl (s_as (v := .int .i64 v4) rfl) ?_
      refine f_nil ?_
      refine f_seq ?_
      refine f_region ?_
      refine f_op rfl rfl (s_mv (v := .sl v1) rfl) ?_
      refine f_op rfl rfl (s_mv (v := .int .i64 v4) rfl) ?_
      refine o_bind ?_; intro p2 hp2
      refine f_op rfl rfl (s_callF rfl ok78 (sim78 hp2)) ?_
      refine f_op rfl rfl (s_lenS rfl Try.underlying22 rfl) ?_
      refine f_op rfl rfl (s_neq rfl rfl) ?_
      refine f_nil ?_
      refine f_if (fun h3 => ?_) (fun h3 => ?_)
      · skip
        refine f_know 14 rfl (dec_true h3) ?_
        refine f_condT rfl ?_
        refine f_seq ?_
        refine f_region ?_
        refine f_op rfl rfl (s_as (v := .bool false) rfl) ?_
        refine f_nil ?_
        exact f_ret (.tmp rfl (.nil)) rfl
      · skip
        refine f_know 14 rfl (dec_false h3) ?_
        refine f_condF rfl ?_
        refine f_skip ?_
        refine f_inBlock ?_
        refine f_region ?_
        refine f_op rfl rfl (s_add rfl rfl) ?_
        refine f_op rfl rfl (s_mv (v := .int .i64 (w64 (v4 + 1))) rfl) ?_
        refine f_nil ?_
        refine f_inLoop ?_
        refine f_keep [0, 1, 6, 7] ?_
        exact ih v1 v2 v3 (w64 (v4 + 1)) p2.2
    · skip
      refine f_know 8 rfl (dec_false h1) ?_
      refine f_condF rfl ?_
      refine f_exit rfl ?_
      refine f_seq ?_
      refine f_region ?_
      refine f_op rfl rfl (s_mv (v := .sl v1) rfl) ?_
      refine f_op rfl rfl (s_lenS rfl Try.underlying22 rfl) ?_
      refine f_op rfl rfl (s_mv (v := .int .i64 v2) rfl) ?_
      refine f_op rfl rfl (s_eql rfl rfl) ?_
      refine f_op rfl rfl (s_as (v := .bool (decide ((v1.len : Int) = v2))) rfl) ?_
      refine f_nil ?_
      exact f_ret (.tmp rfl (.nil)) rfl

theorem sim65 {a0 : Sl} {a1 : Int} {H : Hp} {p : Bool × Hp} (h : r65 a0 a1 H = some p) : CallSim Try.prog 65 [.sl a0, .int .i64 a1] H (.bool p.1) p.2 := by
  refine callSim (fn := Try.f65) (ret := ret65) Try.func65 rfl Try.ntmps65 rfl ?_ h
  unfold r65
  refine f_seq ?_
  refine f_region ?_
  refine f_op rfl rfl (s_as (v := .bool false) rfl) ?_
  refine f_nil ?_
  refine f_seq ?_
  refine f_seq ?_
  refine f_region ?_
  refine f_op rfl rfl (s_mv (v := .int .i64 a1) rfl) ?_
  refine f_op rfl rfl (s_mv (v := .int .i64 0) rfl) ?_
  refine f_nil ?_
  refine f_block ?_
  refine f_loop ?_
  refine f_keep [0, 1, 6, 7] ?_
  exact s65_l0 FUEL a0 a1 a1 0 H

/- 45 congou/congouref08.IsPins -/
theorem ok45 : FnOk Try.prog 45 := ⟨⟨Try.f45, Try.func45, by kernel_rfl, rfl⟩⟩
theorem s45_l2 (kt1 : Sl → Int → Int → Int → Hp → Option (Bool × Hp)) (hkt1 : ∀ (v1 : Sl) (v2 : Int) (v3 : Int) (v4 : Int) (H : Hp), Fin Try.prog Try.f45 ret45 53 (todoAt (bodyOf Try.f45) [1, 1, 0, 1, 0, 0, 1, 0, 0, 1, 0, 0] []) [(0, .sl v1), (3, .int .i64 v2), (20, .int .i64 v3), (21, .int .i64 v4)] H (kt1 v1 v2 v3 v4 H)) : ∀ (k_ : Nat) (v1 : Sl) (v2 : Int) (v3 : Int) (v4 : Int) (v5 : Int) (v6 : Int) (v7 : Int) (H : Hp), Fin Try.prog Try.f45 ret45 53 (todoAt (bodyOf Try.f45) [1, 1, 0, 1, 0, 0, 1, 0, 0, 1, 0, 0, 1, 1, 0, 0, 1, 1, 0, 0] []) [(0, .sl v1), (3, .int .i64 v2), (4, .int .i64 v3), (20, .int .i64 v4), (21, .int .i64 v5), (24, .int .i64 v6), (25, .int .i64 v7)] H (r45_l2 kt1 k_ v1 v2 v3 v4 v5 v6 v7 H) := by
  intro k_
  induction k_ with
  | zero => intro _ _ _ _ _ _ _ _; exact f_none
  | succ k_ ih =>
    intro v1 v2 v3 v4 v5 v6 v7 H
    rw [r45_l2]
    refine f_seq ?_
    refine f_region ?_
    refine f_op rfl rfl (s_lss rfl rfl) ?_
    refine f_nil ?_
    refine f_seq ?_
    refine f_if (fun h1 => ?_) (fun h1 => ?_)
    · skip
      refine f_know 26 rfl (dec_true h1) ?_
      refine f_condT rfl ?_
      refine f_skip ?_
      refine f_seq ?_
      refine f_block ?_
      refine f_seq ?_
      refine f_region ?_
      refine f_op rfl rfl (s_mv (v := .int .i64 v7) rfl) ?_
      refine f_op rfl rfl (s_as (v := .int .i64 v7) rfl) ?_
      refine f_nil ?_
      refine f_seq ?_
      refine f_ck fun g2 => ?_
      refine f_bind ?_; intro x3 hx3
      refine f_ck fun g4 => ?_
      refine f_bind ?_; intro x5 hx5
      refine f_ck fun g6 => ?_
      refine f_bind ?_; intro x7 hx7
      refine f_ck fun g8 => ?_
      refine f_bind ?_; intro x9 hx9
      refine f_draw (Φ := fun _ => True) [0, 0, 0, 0, 0, 1, 0, 0, 0, 1, 0, 0, 0, 0, 0, 0, 1, 0, 0, 0, 1, 0, 0] (Trc.pure rfl rfl rfl (fun _ _ => s_mv (v := .sl v1) rfl) (Trc.pure rfl rfl rfl (fun _ _ => s_mv (v := .int .i64 v3) rfl) (Trc.pure rfl rfl rfl (fun _ _ => s_mv (v := .int .i64 v2) rfl) (Trc.pure rfl rfl rfl (fun _ _ => s_add rfl rfl) (Trc.pure rfl rfl rfl (fun _ _ => s_idx Try.underlying22 ty3 rfl rfl g2) (Trc.read rfl rfl rfl (s_load Try.underlying3 rfl rfl (ldI_eq hx3)) (Trc.pure rfl rfl rfl (fun _ _ => s_mv (v := .sl v1) rfl) (Trc.pure rfl rfl rfl (fun _ _ => s_mv (v := .int .i64 v3) rfl) (Trc.pure rfl rfl rfl (fun _ _ => s_idx Try.underlying22 ty3 rfl rfl g4) (Trc.read rfl rfl rfl (s_load Try.underlying3 rfl rfl (ldI_eq hx5)) (Trc.pure rfl rfl rfl (fun _ _ => s_sub rfl rfl) (Trc.pure rfl rfl rfl (fun _ _ => s_mv (v := .sl v1) rfl) (Trc.pure rfl rfl rfl (fun _ _ => s_mv (v := .int .i64 v7) rfl) (Trc.pure rfl rfl rfl (fun _ _ => s_mv (v := .int .i64 v2) rfl) (Trc.pure rfl rfl rfl (fun _ _ => s_add rfl rfl) (Trc.pure rfl rfl rfl (fun _ _ => s_idx Try.underlying22 ty3 rfl rfl g6) (Trc.read rfl rfl rfl (s_load Try.underlying3 rfl rfl (ldI_eq hx7)) (Trc.pure rfl rfl rfl (fun _ _ => s_mv (v := .sl v1) rfl) (Trc.pure rfl rfl rfl (fun _ _ => s_mv (v := .int .i64 v7) rfl) (Trc.pure rfl rfl rfl (fun _ _ => s_idx Try.underlying22 ty3 rfl rfl g8) (Trc.read rfl rfl rfl (s_load Try.underlying3 rfl rfl (ldI_eq hx9)) (Trc.pure rfl rfl rfl (fun _ _ => s_sub rfl rfl) (Trc.pure rfl rfl rfl (fun _ _ => s_eql rfl rfl) (Trc.nil (trivial))))))))))))))))))))))))) rfl (by decide +kernel) mixed ?_
      refine f_if (fun h10 => ?_) (fun h10 => ?_)
      · skip
        refine f_know 50 rfl (dec_true h10) ?_
        refine f_condT rfl ?_
        refine f_seq ?_
        refine f_region ?_
        refine f_op rfl rfl (s_as (v := .bool false) rfl) ?_
        refine f_nil ?_
        exact f_ret (.tmp rfl (.nil)) rfl
      · skip
        refine f_know 50 rfl (dec_false h10) ?_
        refine f_condF rfl ?_
        refine f_skip ?_
        refine f_inBlock ?_
        refine f_region ?_
        refine f_op rfl rfl (s_add rfl rfl) ?_
        refine f_op rfl rfl (s_mv (v := .int .i64 (w64 (v7 + 1))) rfl) ?_
        refine f_nil ?_
        refine f_inLoop ?_
        refine f_keep [0, 3, 4, 20, 21, 24, 25] ?_
        exact ih v1 v2 v3 v4 v5 v6 (w64 (v7 + 1)) H
    · skip
      refine f_know 26 rfl (dec_false h1) ?_
      refine f_condF rfl ?_
      refine f_exit rfl ?_
      refine f_inBlock ?_
      refine f_region ?_
      refine f_op rfl rfl (s_add rfl rfl) ?_
      refine f_op rfl rfl (s_mv (v := .int .i64 (w64 (v5 + 1))) rfl) ?_
      refine f_nil ?_
      refine f_inLoop ?_
      refine f_keep [0, 3, 20, 21] ?_
      exact hkt1 v1 v2 v4 (w64 (v5 + 1)) H

theorem s45_l1 (kt0 : Sl → Int → Hp → Option (Bool × Hp)) (hkt0 : ∀ (v1 : Sl) (v2 : Int) (H : Hp), Fin Try.prog Try.f45 ret45 53 (todoAt (bodyOf Try.f45) [1, 1, 0, 1, 0, 0] []) [(0, .sl v1), (3, .int .i64 v2)] H (kt0 v1 v2 H)) : ∀ (k_ : Nat) (v1 : Sl) (v2 : Int) (v3 : Int) (v4 : Int) (H : Hp), Fin Try.prog Try.f45 ret45 53 (todoAt (bodyOf Try.f45) [1, 1, 0, 1, 0, 0, 1, 0, 0, 1, 0, 0] []) [(0, .sl v1), (3, .int .i64 v2), (20, .int .i64 v3), (21, .int .i64 v4)] H (r45_l1 kt0 k_ v1 v2 v3 v4 H) := by
  intro k_
  induction k_ with
  | zero => intro _ _ _ _ _; exact f_none
  | succ k_ ih =>
    intro v1 v2 v3 v4 H
    rw [r45_l1]
    refine f_seq ?_
    refine f_region ?_
    refine f_op rfl rfl (s_lss rfl rfl) ?_
    refine f_nil ?_
    refine f_seq ?_
    refine f_if (fun h1 => ?_) (fun h1 => ?_)
    · skip
      refine f_know 22 rfl (dec_true h1) ?_
      refine f_condT rfl ?_
      refine f_skip ?_
      refine f_seq ?_
      refine f_block ?_
      refine f_seq ?_
      refine f_region ?_
      refine f_op rfl rfl (s_mv (v := .int .i64 v4) rfl) ?_
      refine f_op rfl rfl (s_as (v := .int .i64 v4) rfl) ?_
      refine f_nil ?_
      refine f_seq ?_
      refine f_region ?_
      refine f_op rfl rfl (s_mv (v := .int .i64 v4) rfl) ?_
      refine f_op rfl rfl (s_mv (v := .int .i64 0) rfl) ?_
      refine f_nil ?_
      refine f_block ?_
      refine f_loop ?_
      refine f_keep [0, 3, 4, 20, 21, 24, 25] ?_
      exact s45_l2 _ (fun v1_ v2_ v3_ v4_ H_ => ih v1_ v2_ v3_ v4_ H_) FUEL v1 v2 v4 v3 v4 v4 0 H
    · skip
      refine f_know 22 rfl (dec_false h1) ?_
      refine f_condF rfl ?_
      refine f_exit rfl ?_
      refine f_inBlock ?_
      refine f_region ?_
      refine f_op rfl rfl (s_mv (v := .int .i64 v2) rfl) ?_
      refine f_op rfl rfl (s_add rfl rfl) ?_
      refine f_op rfl rfl (s_as (v := .int .i64 (w64 (v2 + 1))) rfl) ?_
      refine f_nil ?_
      refine f_inLoop ?_
      refine f_keep [0, 3] ?_
      exact hkt0 v1 (w64 (v2 + 1)) H

theorem s45_l0 : ∀ (k_ : Nat) (v1 : Sl) (v2 : Int) (H : Hp), Fin Try.prog Try.f45 ret45 53 (todoAt (bodyOf Try.f45) [1, 1, 0, 1, 0, 0] []) [(0, .sl v1), (3, .int .i64 v2)] H (r45_l0 k_ v1 v2 H) := by
  intro k_
  induction k_ with
  | zero => intro _ _ _; exact f_none
  | succ k_ ih =>
    intro v1 v2 H
    rw [r45_l0]
    refine f_seq ?_
    refine f_seq ?_
    refine f_region ?_
    refine f_op rfl rfl (s_mv (v := .int .i64 v2) rfl) ?_
    refine f_op rfl rfl (s_mv (v := .sl v1) rfl) ?_
    refine f_op rfl rfl (s_lenS rfl Try.underlying22 rfl) ?_
    refine f_op rfl rfl (s_lss rfl rfl) ?_
    refine f_nil ?_
    refine f_if (fun h1 => ?_) (fun h1 => ?_)
    · skip
      refine f_know 14 rfl (dec_true h1) ?_
      refine f_condT rfl ?_
      refine f_skip ?_
      refine f_seq ?_
      refine f_block ?_
      refine f_seq ?_
      refine f_region ?_
      refine f_op rfl rfl (s_mv (v := .sl v1) rfl) ?_
      refine f_op rfl rfl (s_lenS rfl Try.underlying22 rfl) ?_
      refine f_op rfl rfl (s_mv (v := .int .i64 v2) rfl) ?_
      refine f_op rfl rfl (s_sub rfl rfl) ?_
      refine f_op rfl rfl (s_mv (v := .int .i64 0) rfl) ?_
      refine f_nil ?_
      refine f_block ?_
      refine f_loop ?_
      refine f_keep [0, 3, 20, 21] ?_
      exact s45_l1 _ (fun v1_ v2_ H_ => ih v1_ v2_ H_) FUEL v1 v2 (w64 ((v1.len : Int) - v2)) 0 H
    · skip
      refine f_know 14 rfl (dec_false h1) ?_
      refine f_condF rfl ?_
      refine f_exit rfl ?_
      refine f_seq ?_
      refine f_region ?_
      refine f_op rfl rfl (s_as (v := .bool true) rfl) ?_
      refine f_nil ?_
      exact f_ret (.tmp rfl (.nil)) rfl

theorem sim45 {a0 : Sl} {H : Hp} {p : Bool × Hp} (h : r45 a0 H = some p) : CallSim Try.prog 45 [.sl a0] H (.bool p.1) p.2 := by
  refine callSim (fn := Try.f45) (ret := ret45) Try.func45 rfl Try.ntmps45 rfl ?_ h
  unfold r45
  refine f_seq ?_
  refine f_region ?_
  refine f_op rfl rfl (s_as (v := .bool false) rfl) ?_
  refine f_nil ?_
  refine f_seq ?_
  refine f_seq ?_
  refine f_region ?_
  refine f_op rfl rfl (s_mv (v := .sl a0) rfl) ?_
  refine f_op rfl rfl (s_mv (v := .sl a0) rfl) ?_
  refine f_op rfl rfl (s_lenS rfl Try.underlying22 rfl) ?_
  refine o_bind ?_; intro p1 hp1
  refine f_op rfl rfl (s_callF rfl ok65 (sim65 hp1)) ?_
  refine f_op rfl rfl (s_not rfl) ?_
  refine f_nil ?_
  refine f_if (fun h2 => ?_) (fun h2 => ?_)
  · skip
    refine f_know 10 rfl (bool_notT h2) ?_
    refine f_condF rfl ?_
    refine f_skip ?_
    refine f_seq ?_
    refine f_seq ?_
    refine f_region ?_
    refine f_op rfl rfl (s_as (v := .int .i64 1) rfl) ?_
    refine f_nil ?_
    refine f_block ?_
    refine f_loop ?_
    refine f_keep [0, 3] ?_
    exact s45_l0 FUEL a0 1 p1.2
  · skip
    refine f_know 10 rfl (bool_notF h2) ?_
    refine f_condT rfl ?_
    refine f_seq ?_
    refine f_region ?_
    refine f_op rfl rfl (s_as (v := .bool false) rfl) ?_
    refine f_nil ?_
    exact f_ret (.tmp rfl (.nil)) rfl

/- 46 congou/congouref08.Quarter -/
theorem ok46 : FnOk Try.prog 46 := ⟨⟨Try.f46, Try.func46, by kernel_rfl, rfl⟩⟩
theorem s46_l0 : ∀ (k_ : Nat) (v1 : Sl) (v2 : Sl) (v3 : Sl) (v4 : Int) (v5 : Int) (H : Hp), Fin Try.prog Try.f46 ret46 26 (todoAt (bodyOf Try.f46) [1, 1, 0, 1, 0, 0] []) [(0, .sl v1), (3, .sl v2), (9, .sl v3), (10, .int .i64 v4), (11, .int .i64 v5)] H (r46_l0 k_ v1 v2 v3 v4 v5 H) := by
  intro k_
  induction k_ with
  | zero => intro _ _ _ _ _ _; exact f_none
  | succ k_ ih =>
    intro v1 v2 v3 v4 v5 H
    rw [r46_l0]
    refine f_seq ?_
    refine f_region ?_
    refine f_op rfl rfl (s_lss rfl rfl) ?_
    refine f_nil ?_
    refine f_seq ?_
    refine f_if (fun h1 => ?_) (fun h1 => ?_)
    · skip
      refine f_know 12 rfl (dec_true h1) ?_
      refine f_condT rfl ?_
      refine f_skip ?_
      refine f_seq ?_
      refine f_block ?_
      refine f_seq ?_
      refine f_region ?_
      refine f_op rfl rfl (s_mv (v := .int .i64 v5) rfl) ?_
      refine o_ck fun g2 => ?_
      refine f_op rfl rfl (s_idx Try.underlying22 ty3 rfl rfl g2) ?_
      refine o_bind ?_; intro x3 hx3
      refine f_op rfl rfl (s_load Try.underlying3 rfl rfl (ldI_eq hx3)) ?_
      refine f_op rfl rfl (s_as (v := .int .i64 v5) rfl) ?_
      refine f_op rfl rfl (s_as (v := .int .i64 x3) rfl) ?_
      refine f_nil ?_
      refine f_region ?_
      refine f_op rfl rfl (s_mv (v := .sl v2) rfl) ?_
      refine f_op rfl rfl (s_mv (v := .int .i64 x3) rfl) ?_
      refine f_op rfl rfl (s_mv (v := .sl v1) rfl) ?_
      refine f_op rfl rfl (s_lenS rfl Try.underlying22 rfl) ?_
      refine f_op rfl rfl (s_sub rfl rfl) ?_
      refine f_op rfl rfl (s_mv (v := .int .i64 v5) rfl) ?_
      refine f_op rfl rfl (s_sub rfl rfl) ?_
      refine o_ck fun g4 => ?_
      refine f_op rfl rfl (s_idx Try.underlying22 ty3 rfl rfl g4) ?_
      refine o_bind ?_; intro H5 hH5
      refine f_op rfl rfl (s_store (s := 1) ty3 rfl rfl rfl hH5) ?_
      refine f_nil ?_
      refine f_inBlock ?_
      refine f_region ?_
      refine f_op rfl rfl (s_add rfl rfl) ?_
      refine f_op rfl rfl (s_mv (v := .int .i64 (w64 (v5 + 1))) rfl) ?_
      refine f_nil ?_
      refine f_inLoop ?_
      refine f_keep [0, 3, 9, 10, 11] ?_
      exact ih v1 v2 v3 v4 (w64 (v5 + 1)) H5
    · skip
      refine f_know 12 rfl (dec_false h1) ?_
      refine f_condF rfl ?_
      refine f_exit rfl ?_
      refine f_seq ?_
      refine f_region ?_
      refine f_op rfl rfl (s_mv (v := .sl v2) rfl) ?_
      refine f_op rfl rfl (s_as (v := .sl v2) rfl) ?_
      refine f_nil ?_
      exact f_ret (.tmp rfl (.nil)) rfl

theorem sim46 {a0 : Sl} {H : Hp} {p : Sl × Hp} (h : r46 a0 H = some p) : CallSim Try.prog 46 [.sl a0] H (.sl p.1) p.2 := by
  refine callSim (fn := Try.f46) (ret := ret46) Try.func46 rfl Try.ntmps46 rfl ?_ h
  unfold r46
  refine f_seq ?_
  refine f_region ?_
  refine f_op rfl rfl (s_as (v := .sl ⟨true, 0, 0, 0, 0, 0⟩) rfl) ?_
  refine f_nil ?_
  refine f_seq ?_
  refine f_region ?_
  refine f_op rfl rfl (s_mv (v := .sl a0) rfl) ?_
  refine f_op rfl rfl (s_lenS rfl Try.underlying22 rfl) ?_
  refine o_ck fun g1 => ?_
  refine f_op rfl rfl (s_makeSlice Try.underlying22 ty3 rfl rfl (by decide) (by decide) rfl rfl g1) ?_
  refine f_op rfl rfl (s_as (v := .sl ⟨false, H.n, 0, ((a0.len : Int) : Int).toNat, ((a0.len : Int) : Int).toNat, 0⟩) rfl) ?_
  refine o_hp ?_; intro H2 hH2
  refine f_nil ?_
  refine f_seq ?_
  refine f_seq ?_
  refine f_region ?_
  refine f_op rfl rfl (s_mv (v := .sl a0) rfl) ?_
  refine f_op rfl rfl (s_lenS rfl Try.underlying22 rfl) ?_
  refine f_op rfl rfl (s_mv (v := .int .i64 0) rfl) ?_
  refine f_nil ?_
  refine f_block ?_
  refine f_loop ?_
  refine f_keep [0, 3, 9, 10, 11] ?_
  exact s46_l0 FUEL a0 ⟨false, H.n, 0, ((a0.len : Int) : Int).toNat, ((a0.len : Int) : Int).toNat, 0⟩ a0 (a0.len : Int) 0 H2

end Go.Lt.P8
