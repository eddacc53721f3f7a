/- PRINTED BY A PROGRAM OF OURS: what each function that 'PairsThrees' reaches computes on the abstract heap, and that the translated code does just that. Nothing is asked of the input. -/
import Derived.Test.YthmhdbmpeepmaaaG14P1
set_option linter.unusedVariables false
set_option linter.unusedSimpArgs false
set_option maxRecDepth 100000
set_option maxHeartbeats 4000000
namespace Go.Lt.P8
open Go Go.Lt Go.Proofs
/- 54 congou/congouref08.IsThrees -/
theorem ok54 : FnOk Try.prog 54 := ⟨⟨Try.f54, Try.func54, by kernel_rfl, rfl⟩⟩
theorem s54_j1 (kt0 : Int → Sl → Nat → Sl → Int → Int → Hp → Option (Bool × Hp)) (hkt0 : ∀ (v1 : Int) (v2 : Sl) (v3 : Nat) (v4 : Sl) (v5 : Int) (v6 : Int) (H : Hp), Fin Try.prog Try.f54 ret54 101 (todoAt (bodyOf Try.f54) [1, 1, 0, 1, 0, 0] []) [(0, .int .i64 v1), (1, .sl v2), (5, .ptr v3 0), (10, .sl v4), (11, .int .i64 v5), (12, .int .i64 v6)] H (kt0 v1 v2 v3 v4 v5 v6 H)) (v1 : Int) (v2 : Sl) (v3 : Nat) (v4 : Nat) (v5 : Sl) (v6 : Int) (v7 : Int) (v8 : Bool) (H : Hp) : Fin Try.prog Try.f54 ret54 101 (todoAt (bodyOf Try.f54) [1, 1, 0, 1, 0, 0, 1, 1, 0, 0, 1, 0, 1] []) [(0, .int .i64 v1), (1, .sl v2), (5, .ptr v3 0), (7, .ptr v4 0), (10, .sl v5), (11, .int .i64 v6), (12, .int .i64 v7), (53, .bool v8)] H (r54_j1 kt0 v1 v2 v3 v4 v5 v6 v7 v8 H) := by
  unfold r54_j1
  refine f_if (fun h1 => ?_) (fun h1 => ?_)
  · skip
    refine f_know 53 rfl (bool_T h1) ?_
    refine f_condT rfl ?_
    refine f_seq ?_
    refine f_region ?_
    refine f_op rfl rfl (s_as (v := .bool false) rfl) ?_
    refine f_nil ?_
    exact f_ret (.tmp rfl (.nil)) rfl
  · skip
    refine f_know 53 rfl (bool_F h1) ?_
    refine f_condF rfl ?_
    refine f_skip ?_
    refine f_seq ?_
    refine f_bind ?_; intro x2 hx2
    refine f_bind ?_; intro x3 hx3
    refine f_ck fun g4 => ?_
    refine f_ck fun g5 => ?_
    refine f_bind ?_; intro x6 hx6
    refine f_ck fun g7 => ?_
    refine f_ck fun g8 => ?_
    refine f_bind ?_; intro H9 hH9
    refine f_draw (Φ := fun _ => True) [0, 1, 0, 1, 0, 0, 1, 0, 0, 0, 2] (Trc.pure rfl rfl rfl (fun _ _ => s_idxA Try.underlying63 ty3 rfl rfl (by decide)) (Trc.read rfl rfl rfl (s_load Try.underlying3 rfl rfl (ldI_eq hx2)) (Trc.pure rfl rfl rfl (fun _ _ => s_idxA Try.underlying63 ty3 rfl rfl (by decide)) (Trc.read rfl rfl rfl (s_load Try.underlying3 rfl rfl (ldI_eq hx3)) (Trc.pure rfl rfl rfl (fun _ _ => s_idxA Try.underlying96 ty95 rfl rfl g4) (Trc.pure rfl rfl rfl (fun _ _ => s_idxA Try.underlying95 ty3 rfl rfl g5) (Trc.read rfl rfl rfl (s_load Try.underlying3 rfl rfl (ldI_eq hx6)) (Trc.pure rfl rfl rfl (fun _ _ => s_add rfl rfl) (Trc.pure rfl rfl rfl (fun _ _ => s_idxA Try.underlying96 ty95 rfl rfl g7) (Trc.pure rfl rfl rfl (fun _ _ => s_idxA Try.underlying95 ty3 rfl rfl g8) (Trc.eff rfl rfl rfl (trivial) (s_store (s := 1) ty3 rfl rfl rfl hH9) (Trc.nil (trivial))))))))))))) rfl (by decide +kernel) mixed ?_
    refine f_seq ?_
    refine f_bind ?_; intro x10 hx10
    refine f_bind ?_; intro x11 hx11
    refine f_ck fun g12 => ?_
    refine f_ck fun g13 => ?_
    refine f_bind ?_; intro x14 hx14
    refine f_ck fun g15 => ?_
    refine f_ck fun g16 => ?_
    refine f_bind ?_; intro H17 hH17
    refine f_draw (Φ := fun _ => True) [0, 1, 0, 1, 0, 0, 1, 0, 0, 0, 2] (Trc.pure rfl rfl rfl (fun _ _ => s_idxA Try.underlying63 ty3 rfl rfl (by decide)) (Trc.read rfl rfl rfl (s_load Try.underlying3 rfl rfl (ldI_eq hx10)) (Trc.pure rfl rfl rfl (fun _ _ => s_idxA Try.underlying63 ty3 rfl rfl (by decide)) (Trc.read rfl rfl rfl (s_load Try.underlying3 rfl rfl (ldI_eq hx11)) (Trc.pure rfl rfl rfl (fun _ _ => s_idxA Try.underlying96 ty95 rfl rfl g12) (Trc.pure rfl rfl rfl (fun _ _ => s_idxA Try.underlying95 ty3 rfl rfl g13) (Trc.read rfl rfl rfl (s_load Try.underlying3 rfl rfl (ldI_eq hx14)) (Trc.pure rfl rfl rfl (fun _ _ => s_add rfl rfl) (Trc.pure rfl rfl rfl (fun _ _ => s_idxA Try.underlying96 ty95 rfl rfl g15) (Trc.pure rfl rfl rfl (fun _ _ => s_idxA Try.underlying95 ty3 rfl rfl g16) (Trc.eff rfl rfl rfl (trivial) (s_store (s := 1) ty3 rfl rfl rfl hH17) (Trc.nil (trivial))))))))))))) rfl (by decide +kernel) mixed ?_
    refine f_bind ?_; intro x18 hx18
    refine f_bind ?_; intro x19 hx19
    refine f_ck fun g20 => ?_
    refine f_ck fun g21 => ?_
    refine f_bind ?_; intro x22 hx22
    refine f_ck fun g23 => ?_
    refine f_ck fun g24 => ?_
    refine f_bind ?_; intro H25 hH25
    refine f_draw (Φ := fun _ => True) [0, 1, 0, 1, 0, 0, 1, 0, 0, 0, 2] (Trc.pure rfl rfl rfl (fun _ _ => s_idxA Try.underlying63 ty3 rfl rfl (by decide)) (Trc.read rfl rfl rfl (s_load Try.underlying3 rfl rfl (ldI_eq hx18)) (Trc.pure rfl rfl rfl (fun _ _ => s_idxA Try.underlying63 ty3 rfl rfl (by decide)) (Trc.read rfl rfl rfl (s_load Try.underlying3 rfl rfl (ldI_eq hx19)) (Trc.pure rfl rfl rfl (fun _ _ => s_idxA Try.underlying96 ty95 rfl rfl g20) (Trc.pure rfl rfl rfl (fun _ _ => s_idxA Try.underlying95 ty3 rfl rfl g21) (Trc.read rfl rfl rfl (s_load Try.underlying3 rfl rfl (ldI_eq hx22)) (Trc.pure rfl rfl rfl (fun _ _ => s_add rfl rfl) (Trc.pure rfl rfl rfl (fun _ _ => s_idxA Try.underlying96 ty95 rfl rfl g23) (Trc.pure rfl rfl rfl (fun _ _ => s_idxA Try.underlying95 ty3 rfl rfl g24) (Trc.eff rfl rfl rfl (trivial) (s_store (s := 1) ty3 rfl rfl rfl hH25) (Trc.nil (trivial))))))))))))) rfl (by decide +kernel) mixed ?_
    refine f_inBlock ?_
    refine f_region ?_
    refine f_op rfl rfl (s_add rfl rfl) ?_
    refine f_op rfl rfl (s_mv (v := .int .i64 (w64 (v7 + 1))) rfl) ?_
    refine f_nil ?_
    refine f_inLoop ?_
    refine f_keep [0, 1, 5, 10, 11, 12] ?_
    exact hkt0 v1 v2 v3 v5 v6 (w64 (v7 + 1)) H25

theorem s54_l3 (kt2 : Nat → Int → Int → Hp → Option (Bool × Hp)) (hkt2 : ∀ (v1 : Nat) (v2 : Int) (v3 : Int) (H : Hp), Fin Try.prog Try.f54 ret54 101 (todoAt (bodyOf Try.f54) [1, 1, 1, 0, 1, 0, 0] []) [(5, .ptr v1 0), (85, .int .i64 v2), (86, .int .i64 v3)] H (kt2 v1 v2 v3 H)) : ∀ (k_ : Nat) (v1 : Nat) (v2 : Int) (v3 : Int) (v4 : Int) (v5 : Int) (v6 : Int) (H : Hp), Fin Try.prog Try.f54 ret54 101 (todoAt (bodyOf Try.f54) [1, 1, 1, 0, 1, 0, 0, 1, 1, 0, 0, 1, 1, 0, 0] []) [(5, .ptr v1 0), (8, .int .i64 v2), (85, .int .i64 v3), (86, .int .i64 v4), (89, .int .i64 v5), (90, .int .i64 v6)] H (r54_l3 kt2 k_ v1 v2 v3 v4 v5 v6 H) := by
  intro k_
  induction k_ with
  | zero => intro _ _ _ _ _ _ _; exact f_none
  | succ k_ ih =>
    intro v1 v2 v3 v4 v5 v6 H
    rw [r54_l3]
    refine f_seq ?_
    refine f_region ?_
    refine f_op rfl rfl (s_lss rfl rfl) ?_
    refine f_nil ?_
    refine f_seq ?_
    refine f_if (fun h1 => ?_) (fun h1 => ?_)
    · skip
      refine f_know 91 rfl (dec_true h1) ?_
      refine f_condT rfl ?_
      refine f_skip ?_
      refine f_seq ?_
      refine f_block ?_
      refine f_seq ?_
      refine f_region ?_
      refine f_op rfl rfl (s_mv (v := .int .i64 v6) rfl) ?_
      refine f_op rfl rfl (s_as (v := .int .i64 v6) rfl) ?_
      refine f_nil ?_
      refine f_seq ?_
      refine f_region ?_
      refine f_op rfl rfl (s_mv (v := .int .i64 v6) rfl) ?_
      refine f_op rfl rfl (s_mv (v := .int .i64 v2) rfl) ?_
      refine o_ck fun g2 => ?_
      refine f_op rfl rfl (s_idxA Try.underlying96 ty95 rfl rfl g2) ?_
      refine o_ck fun g3 => ?_
      refine f_op rfl rfl (s_idxA Try.underlying95 ty3 rfl rfl g3) ?_
      refine o_bind ?_; intro x4 hx4
      refine f_op rfl rfl (s_load Try.underlying3 rfl rfl (ldI_eq hx4)) ?_
      refine f_op rfl rfl (s_neq rfl rfl) ?_
      refine f_nil ?_
      refine f_if (fun h5 => ?_) (fun h5 => ?_)
      · skip
        refine f_know 98 rfl (dec_true h5) ?_
        refine f_condT rfl ?_
        refine f_seq ?_
        refine f_region ?_
        refine f_op rfl rfl (s_as (v := .bool false) rfl) ?_
        refine f_nil ?_
        exact f_ret (.tmp rfl (.nil)) rfl
      · skip
        refine f_know 98 rfl (dec_false h5) ?_
        refine f_condF rfl ?_
        refine f_skip ?_
        refine f_inBlock ?_
        refine f_region ?_
        refine f_op rfl rfl (s_add rfl rfl) ?_
        refine f_op rfl rfl (s_mv (v := .int .i64 (w64 (v6 + 1))) rfl) ?_
        refine f_nil ?_
        refine f_inLoop ?_
        refine f_keep [5, 8, 85, 86, 89, 90] ?_
        exact ih v1 v2 v3 v4 v5 (w64 (v6 + 1)) H
    · skip
      refine f_know 91 rfl (dec_false h1) ?_
      refine f_condF rfl ?_
      refine f_exit rfl ?_
      refine f_inBlock ?_
      refine f_region ?_
      refine f_op rfl rfl (s_add rfl rfl) ?_
      refine f_op rfl rfl (s_mv (v := .int .i64 (w64 (v4 + 1))) rfl) ?_
      refine f_nil ?_
      refine f_inLoop ?_
      refine f_keep [5, 85, 86] ?_
      exact hkt2 v1 v3 (w64 (v4 + 1)) H

theorem s54_l2 : ∀ (k_ : Nat) (v1 : Nat) (v2 : Int) (v3 : Int) (H : Hp), Fin Try.prog Try.f54 ret54 101 (todoAt (bodyOf Try.f54) [1, 1, 1, 0, 1, 0, 0] []) [(5, .ptr v1 0), (85, .int .i64 v2), (86, .int .i64 v3)] H (r54_l2 k_ v1 v2 v3 H) := by
  intro k_
  induction k_ with
  | zero => intro _ _ _ _; exact f_none
  | succ k_ ih =>
    intro v1 v2 v3 H
    rw [r54_l2]
    refine f_seq ?_
    refine f_region ?_
    refine f_op rfl rfl (s_lss rfl rfl) ?_
    refine f_nil ?_
    refine f_seq ?_
    refine f_if (fun h1 => ?_) (fun h1 => ?_)
    · skip
      refine f_know 87 rfl (dec_true h1) ?_
      refine f_condT rfl ?_
      refine f_skip ?_
      refine f_seq ?_
      refine f_block ?_
      refine f_seq ?_
      refine f_region ?_
      refine f_op rfl rfl (s_mv (v := .int .i64 v3) rfl) ?_
      refine f_op rfl rfl (s_as (v := .int .i64 v3) rfl) ?_
      refine f_nil ?_
      refine f_seq ?_
      refine f_region ?_
      refine f_op rfl rfl (s_mv (v := .int .i64 v3) rfl) ?_
      refine f_op rfl rfl (s_mv (v := .int .i64 0) rfl) ?_
      refine f_nil ?_
      refine f_block ?_
      refine f_loop ?_
      refine f_keep [5, 8, 85, 86, 89, 90] ?_
      exact s54_l3 _ (fun v1_ v2_ v3_ H_ => ih v1_ v2_ v3_ H_) FUEL v1 v3 v2 v3 v3 0 H
    · skip
      refine f_know 87 rfl (dec_false h1) ?_
      refine f_condF rfl ?_
      refine f_exit rfl ?_
      refine f_seq ?_
      refine f_region ?_
      refine f_op rfl rfl (s_as (v := .bool true) rfl) ?_
      refine f_nil ?_
      exact f_ret (.tmp rfl (.nil)) rfl

theorem s54_l0 : ∀ (k_ : Nat) (v1 : Int) (v2 : Sl) (v3 : Nat) (v4 : Sl) (v5 : Int) (v6 : Int) (H : Hp), Fin Try.prog Try.f54 ret54 101 (todoAt (bodyOf Try.f54) [1, 1, 0, 1, 0, 0] []) [(0, .int .i64 v1), (1, .sl v2), (5, .ptr v3 0), (10, .sl v4), (11, .int .i64 v5), (12, .int .i64 v6)] H (r54_l0 k_ v1 v2 v3 v4 v5 v6 H) := by
  intro k_
  induction k_ with
  | zero => intro _ _ _ _ _ _ _; exact f_none
  | succ k_ ih =>
    intro v1 v2 v3 v4 v5 v6 H
    rw [r54_l0]
    refine f_seq ?_
    refine f_region ?_
    refine f_op rfl rfl (s_lss rfl rfl) ?_
    refine f_nil ?_
    refine f_seq ?_
    refine f_if (fun h1 => ?_) (fun h1 => ?_)
    · skip
      refine f_know 13 rfl (dec_true h1) ?_
      refine f_condT rfl ?_
      refine f_skip ?_
      refine f_seq ?_
      refine f_block ?_
      refine f_seq ?_
      refine f_region ?_
      refine f_op rfl rfl (s_mv (v := .int .i64 v6) rfl) ?_
      refine o_ck fun g2 => ?_
      refine f_op rfl rfl (s_idx Try.underlying58 ty63 rfl rfl g2) ?_
      refine o_bind ?_; intro x3 hx3
      refine o_bind ?_; intro x4 hx4
      refine o_bind ?_; intro x5 hx5
      refine f_op rfl rfl (s_loads Try.underlying63 rfl ty63 rfl (lds_cons (ldI_eq hx3) (lds_cons (ldI_eq hx4) (lds_cons (ldI_eq hx5) (lds_nil))))) ?_
      refine f_op rfl rfl (s_alloc (zs := [.int .i64 0, .int .i64 0, .int .i64 0]) ty63 rfl rfl) ?_
      refine f_op rfl rfl (s_as (v := .int .i64 v6) rfl) ?_
      refine o_bind ?_; intro H6 hH6
      refine f_op rfl rfl (s_stores ty63 rfl rfl rfl rfl hH6 (Nat.le_of_eq (sts_mono hH6).symm)) ?_
      refine f_nil ?_
      refine f_seq ?_
      refine f_seq ?_
      refine f_bind ?_; intro x7 hx7
      refine f_if (fun h8 => ?_) (fun h8 => ?_)
      · skip
        refine f_draw (Φ := fun _ => True) [0, 1, 0, 0, 0, 0, 0, 0, 0, 0, 0, 0, 0, 0, 0, 0, 0, 0, 0, 0, 0, 0, 0, 0, 0, 0, 0, 0, 0, 0, 0, 0, 0, 0, 0, 0, 0] (Trc.pure rfl rfl rfl (fun _ _ => s_idxA Try.underlying63 ty3 rfl rfl (by decide)) (Trc.read rfl rfl rfl (s_load Try.underlying3 rfl rfl (ldI_eq hx7)) (Trc.pure rfl rfl rfl (fun _ _ => s_lss rfl rfl) (Trc.pure rfl rfl rfl (fun _ _ => s_mv (v := .bool (decide (x7 < 0))) rfl) (Trc.know 20 rfl (dec_true h8) (Trc.no rfl rfl rfl (Trc.no rfl rfl rfl (Trc.no rfl rfl rfl (Trc.no rfl rfl rfl (Trc.no rfl rfl rfl (Trc.pure rfl rfl rfl (fun _ _ => s_pickT (v := .bool true) rfl rfl) (Trc.pure rfl rfl rfl (fun _ _ => s_mv (v := .bool true) rfl) (Trc.no rfl rfl rfl (Trc.no rfl rfl rfl (Trc.no rfl rfl rfl (Trc.no rfl rfl rfl (Trc.no rfl rfl rfl (Trc.pure rfl rfl rfl (fun _ _ => s_pickT (v := .bool true) rfl rfl) (Trc.pure rfl rfl rfl (fun _ _ => s_mv (v := .bool true) rfl) (Trc.no rfl rfl rfl (Trc.no rfl rfl rfl (Trc.no rfl rfl rfl (Trc.no rfl rfl rfl (Trc.pure rfl rfl rfl (fun _ _ => s_pickT (v := .bool true) rfl rfl) (Trc.pure rfl rfl rfl (fun _ _ => s_mv (v := .bool true) rfl) (Trc.no rfl rfl rfl (Trc.no rfl rfl rfl (Trc.no rfl rfl rfl (Trc.no rfl rfl rfl (Trc.no rfl rfl rfl (Trc.no rfl rfl rfl (Trc.no rfl rfl rfl (Trc.no rfl rfl rfl (Trc.no rfl rfl rfl (Trc.no rfl rfl rfl (Trc.no rfl rfl rfl (Trc.no rfl rfl rfl (Trc.pure rfl rfl rfl (fun _ _ => s_pickT (v := .bool true) rfl rfl) (Trc.nil (trivial)))))))))))))))))))))))))))))))))))))))) rfl (by decide +kernel) mixed ?_
        refine f_keep [0, 1, 5, 7, 10, 11, 12, 53] ?_
        exact s54_j1 _ (fun v1_ v2_ v3_ v4_ v5_ v6_ H_ => ih v1_ v2_ v3_ v4_ v5_ v6_ H_) v1 v2 v3 H.n v4 v5 v6 true H6
      · skip
        refine f_bind ?_; intro x9 hx9
        refine f_bind ?_; intro x10 hx10
        refine f_if (fun h11 => ?_) (fun h11 => ?_)
        · skip
          refine f_draw (Φ := fun _ => True) [0, 1, 0, 0, 0, 1, 0, 1, 0, 0, 0, 0, 0, 0, 0, 0, 0, 0, 0, 0, 0, 0, 0, 0, 0, 0, 0, 0, 0, 0, 0, 0, 0, 0, 0, 0, 0] (Trc.pure rfl rfl rfl (fun _ _ => s_idxA Try.underlying63 ty3 rfl rfl (by decide)) (Trc.read rfl rfl rfl (s_load Try.underlying3 rfl rfl (ldI_eq hx7)) (Trc.pure rfl rfl rfl (fun _ _ => s_lss rfl rfl) (Trc.pure rfl rfl rfl (fun _ _ => s_mv (v := .bool (decide (x7 < 0))) rfl) (Trc.know 20 rfl (dec_false h8) (Trc.pure rfl rfl rfl (fun _ _ => s_idxA Try.underlying63 ty3 rfl rfl (by decide)) (Trc.read rfl rfl rfl (s_load Try.underlying3 rfl rfl (ldI_eq hx9)) (Trc.pure rfl rfl rfl (fun _ _ => s_idxA Try.underlying63 ty3 rfl rfl (by decide)) (Trc.read rfl rfl rfl (s_load Try.underlying3 rfl rfl (ldI_eq hx10)) (Trc.pure rfl rfl rfl (fun _ _ => s_geq rfl rfl) (Trc.pure rfl rfl rfl (fun _ _ => s_pickF (v := .bool (decide (x10 ≤ x9))) rfl rfl) (Trc.pure rfl rfl rfl (fun _ _ => s_mv (v := .bool (decide (x10 ≤ x9))) rfl) (Trc.know 27 rfl (dec_true h11) (Trc.no rfl rfl rfl (Trc.no rfl rfl rfl (Trc.no rfl rfl rfl (Trc.no rfl rfl rfl (Trc.no rfl rfl rfl (Trc.pure rfl rfl rfl (fun _ _ => s_pickT (v := .bool true) rfl rfl) (Trc.pure rfl rfl rfl (fun _ _ => s_mv (v := .bool true) rfl) (Trc.no rfl rfl rfl (Trc.no rfl rfl rfl (Trc.no rfl rfl rfl (Trc.no rfl rfl rfl (Trc.pure rfl rfl rfl (fun _ _ => s_pickT (v := .bool true) rfl rfl) (Trc.pure rfl rfl rfl (fun _ _ => s_mv (v := .bool true) rfl) (Trc.no rfl rfl rfl (Trc.no rfl rfl rfl (Trc.no rfl rfl rfl (Trc.no rfl rfl rfl (Trc.no rfl rfl rfl (Trc.no rfl rfl rfl (Trc.no rfl rfl rfl (Trc.no rfl rfl rfl (Trc.no rfl rfl rfl (Trc.no rfl rfl rfl (Trc.no rfl rfl rfl (Trc.no rfl rfl rfl (Trc.pure rfl rfl rfl (fun _ _ => s_pickT (v := .bool true) rfl rfl) (Trc.nil (trivial))))))))))))))))))))))))))))))))))))))))) rfl (by decide +kernel) mixed ?_
          refine f_keep [0, 1, 5, 7, 10, 11, 12, 53] ?_
          exact s54_j1 _ (fun v1_ v2_ v3_ v4_ v5_ v6_ H_ => ih v1_ v2_ v3_ v4_ v5_ v6_ H_) v1 v2 v3 H.n v4 v5 v6 true H6
        · skip
          refine f_bind ?_; intro x12 hx12
          refine f_bind ?_; intro x13 hx13
          refine f_if (fun h14 => ?_) (fun h14 => ?_)
          · skip
            refine f_draw (Φ := fun _ => True) [0, 1, 0, 0, 0, 1, 0, 1, 0, 0, 0, 0, 1, 0, 1, 0, 0, 0, 0, 0, 0, 0, 0, 0, 0, 0, 0, 0, 0, 0, 0, 0, 0, 0, 0, 0, 0] (Trc.pure rfl rfl rfl (fun _ _ => s_idxA Try.underlying63 ty3 rfl rfl (by decide)) (Trc.read rfl rfl rfl (s_load Try.underlying3 rfl rfl (ldI_eq hx7)) (Trc.pure rfl rfl rfl (fun _ _ => s_lss rfl rfl) (Trc.pure rfl rfl rfl (fun _ _ => s_mv (v := .bool (decide (x7 < 0))) rfl) (Trc.know 20 rfl (dec_false h8) (Trc.pure rfl rfl rfl (fun _ _ => s_idxA Try.underlying63 ty3 rfl rfl (by decide)) (Trc.read rfl rfl rfl (s_load Try.underlying3 rfl rfl (ldI_eq hx9)) (Trc.pure rfl rfl rfl (fun _ _ => s_idxA Try.underlying63 ty3 rfl rfl (by decide)) (Trc.read rfl rfl rfl (s_load Try.underlying3 rfl rfl (ldI_eq hx10)) (Trc.pure rfl rfl rfl (fun _ _ => s_geq rfl rfl) (Trc.pure rfl rfl rfl (fun _ _ => s_pickF (v := .bool (decide (x10 ≤ x9))) rfl rfl) (Trc.pure rfl rfl rfl (fun _ _ => s_mv (v := .bool (decide (x10 ≤ x9))) rfl) (Trc.know 27 rfl (dec_false h11) (Trc.pure rfl rfl rfl (fun _ _ => s_idxA Try.underlying63 ty3 rfl rfl (by decide)) (Trc.read rfl rfl rfl (s_load Try.underlying3 rfl rfl (ldI_eq hx12)) (Trc.pure rfl rfl rfl (fun _ _ => s_idxA Try.underlying63 ty3 rfl rfl (by decide)) (Trc.read rfl rfl rfl (s_load Try.underlying3 rfl rfl (ldI_eq hx13)) (Trc.pure rfl rfl rfl (fun _ _ => s_geq rfl rfl) (Trc.pure rfl rfl rfl (fun _ _ => s_pickF (v := .bool (decide (x13 ≤ x12))) rfl rfl) (Trc.pure rfl rfl rfl (fun _ _ => s_mv (v := .bool (decide (x13 ≤ x12))) rfl) (Trc.know 34 rfl (dec_true h14) (Trc.no rfl rfl rfl (Trc.no rfl rfl rfl (Trc.no rfl rfl rfl (Trc.no rfl rfl rfl (Trc.pure rfl rfl rfl (fun _ _ => s_pickT (v := .bool true) rfl rfl) (Trc.pure rfl rfl rfl (fun _ _ => s_mv (v := .bool true) rfl) (Trc.no rfl rfl rfl (Trc.no rfl rfl rfl (Trc.no rfl rfl rfl (Trc.no rfl rfl rfl (Trc.no rfl rfl rfl (Trc.no rfl rfl rfl (Trc.no rfl rfl rfl (Trc.no rfl rfl rfl (Trc.no rfl rfl rfl (Trc.no rfl rfl rfl (Trc.no rfl rfl rfl (Trc.no rfl rfl rfl (Trc.pure rfl rfl rfl (fun _ _ => s_pickT (v := .bool true) rfl rfl) (Trc.nil (trivial)))))))))))))))))))))))))))))))))))))))))) rfl (by decide +kernel) mixed ?_
            refine f_keep [0, 1, 5, 7, 10, 11, 12, 53] ?_
            exact s54_j1 _ (fun v1_ v2_ v3_ v4_ v5_ v6_ H_ => ih v1_ v2_ v3_ v4_ v5_ v6_ H_) v1 v2 v3 H.n v4 v5 v6 true H6
          · skip
            refine f_bind ?_; intro x15 hx15
            refine f_if (fun h16 => ?_) (fun h16 => ?_)
            · skip
              refine f_draw (Φ := fun _ => True) [0, 1, 0, 0, 0, 1, 0, 1, 0, 0, 0, 0, 1, 0, 1, 0, 0, 0, 0, 1, 0, 0, 0, 0, 0, 0, 0, 0, 0, 0, 0, 0, 0, 0, 0, 0, 0] (Trc.pure rfl rfl rfl (fun _ _ => s_idxA Try.underlying63 ty3 rfl rfl (by decide)) (Trc.read rfl rfl rfl (s_load Try.underlying3 rfl rfl (ldI_eq hx7)) (Trc.pure rfl rfl rfl (fun _ _ => s_lss rfl rfl) (Trc.pure rfl rfl rfl (fun _ _ => s_mv (v := .bool (decide (x7 < 0))) rfl) (Trc.know 20 rfl (dec_false h8) (Trc.pure rfl rfl rfl (fun _ _ => s_idxA Try.underlying63 ty3 rfl rfl (by decide)) (Trc.read rfl rfl rfl (s_load Try.underlying3 rfl rfl (ldI_eq hx9)) (Trc.pure rfl rfl rfl (fun _ _ => s_idxA Try.underlying63 ty3 rfl rfl (by decide)) (Trc.read rfl rfl rfl (s_load Try.underlying3 rfl rfl (ldI_eq hx10)) (Trc.pure rfl rfl rfl (fun _ _ => s_geq rfl rfl) (Trc.pure rfl rfl rfl (fun _ _ => s_pickF (v := .bool (decide (x10 ≤ x9))) rfl rfl) (Trc.pure rfl rfl rfl (fun _ _ => s_mv (v := .bool (decide (x10 ≤ x9))) rfl) (Trc.know 27 rfl (dec_false h11) (Trc.pure rfl rfl rfl (fun _ _ => s_idxA Try.underlying63 ty3 rfl rfl (by decide)) (Trc.read rfl rfl rfl (s_load Try.underlying3 rfl rfl (ldI_eq hx12)) (Trc.pure rfl rfl rfl (fun _ _ => s_idxA Try.underlying63 ty3 rfl rfl (by decide)) (Trc.read rfl rfl rfl (s_load Try.underlying3 rfl rfl (ldI_eq hx13)) (Trc.pure rfl rfl rfl (fun _ _ => s_geq rfl rfl) (Trc.pure rfl rfl rfl (fun _ _ => s_pickF (v := .bool (decide (x13 ≤ x12))) rfl rfl) (Trc.pure rfl rfl rfl (fun _ _ => s_mv (v := .bool (decide (x13 ≤ x12))) rfl) (Trc.know 34 rfl (dec_false h14) (Trc.pure rfl rfl rfl (fun _ _ => s_idxA Try.underlying63 ty3 rfl rfl (by decide)) (Trc.read rfl rfl rfl (s_load Try.underlying3 rfl rfl (ldI_eq hx15)) (Trc.pure rfl rfl rfl (fun _ _ => s_mv (v := .int .i64 v1) rfl) (Trc.pure rfl rfl rfl (fun _ _ => s_geq rfl rfl) (Trc.pure rfl rfl rfl (fun _ _ => s_pickF (v := .bool (decide (v1 ≤ x15))) rfl rfl) (Trc.pure rfl rfl rfl (fun _ _ => s_mv (v := .bool (decide (v1 ≤ x15))) rfl) (Trc.know 40 rfl (dec_true h16) (Trc.no rfl rfl rfl (Trc.no rfl rfl rfl (Trc.no rfl rfl rfl (Trc.no rfl rfl rfl (Trc.no rfl rfl rfl (Trc.no rfl rfl rfl (Trc.no rfl rfl rfl (Trc.no rfl rfl rfl (Trc.no rfl rfl rfl (Trc.no rfl rfl rfl (Trc.no rfl rfl rfl (Trc.no rfl rfl rfl (Trc.pure rfl rfl rfl (fun _ _ => s_pickT (v := .bool true) rfl rfl) (Trc.nil (trivial))))))))))))))))))))))))))))))))))))))))))) rfl (by decide +kernel) mixed ?_
              refine f_keep [0, 1, 5, 7, 10, 11, 12, 53] ?_
              exact s54_j1 _ (fun v1_ v2_ v3_ v4_ v5_ v6_ H_ => ih v1_ v2_ v3_ v4_ v5_ v6_ H_) v1 v2 v3 H.n v4 v5 v6 true H6
            · skip
              refine f_if (fun h17 => ?_) (fun h17 => ?_)
              · skip
                refine f_ck fun g18 => ?_
                refine f_bind ?_; intro x19 hx19
                refine f_bind ?_; intro x20 hx20
                refine f_bind ?_; intro x21 hx21
                refine f_bind ?_; intro x22 hx22
                refine f_bind ?_; intro x23 hx23
                refine f_bind ?_; intro x24 hx24
                refine f_bind ?_; intro p25 hp25
                refine f_draw (Φ := fun _ => True) [0, 1, 0, 0, 0, 1, 0, 1, 0, 0, 0, 0, 1, 0, 1, 0, 0, 0, 0, 1, 0, 0, 0, 0, 0, 0, 0, 0, 0, 0, 0, 1, 1, 2, 0, 0, 0] (Trc.pure rfl rfl rfl (fun _ _ => s_idxA Try.underlying63 ty3 rfl rfl (by decide)) (Trc.read rfl rfl rfl (s_load Try.underlying3 rfl rfl (ldI_eq hx7)) (Trc.pure rfl rfl rfl (fun _ _ => s_lss rfl rfl) (Trc.pure rfl rfl rfl (fun _ _ => s_mv (v := .bool (decide (x7 < 0))) rfl) (Trc.know 20 rfl (dec_false h8) (Trc.pure rfl rfl rfl (fun _ _ => s_idxA Try.underlying63 ty3 rfl rfl (by decide)) (Trc.read rfl rfl rfl (s_load Try.underlying3 rfl rfl (ldI_eq hx9)) (Trc.pure rfl rfl rfl (fun _ _ => s_idxA Try.underlying63 ty3 rfl rfl (by decide)) (Trc.read rfl rfl rfl (s_load Try.underlying3 rfl rfl (ldI_eq hx10)) (Trc.pure rfl rfl rfl (fun _ _ => s_geq rfl rfl) (Trc.pure rfl rfl rfl (fun _ _ => s_pickF (v := .bool (decide (x10 ≤ x9))) rfl rfl) (Trc.pure rfl rfl rfl (fun _ _ => s_mv (v := .bool (decide (x10 ≤ x9))) rfl) (Trc.know 27 rfl (dec_false h11) (Trc.pure rfl rfl rfl (fun _ _ => s_idxA Try.underlying63 ty3 rfl rfl (by decide)) (Trc.read rfl rfl rfl (s_load Try.underlying3 rfl rfl (ldI_eq hx12)) (Trc.pure rfl rfl rfl (fun _ _ => s_idxA Try.underlying63 ty3 rfl rfl (by decide)) (Trc.read rfl rfl rfl (s_load Try.underlying3 rfl rfl (ldI_eq hx13)) (Trc.pure rfl rfl rfl (fun _ _ => s_geq rfl rfl) (Trc.pure rfl rfl rfl (fun _ _ => s_pickF (v := .bool (decide (x13 ≤ x12))) rfl rfl) (Trc.pure rfl rfl rfl (fun _ _ => s_mv (v := .bool (decide (x13 ≤ x12))) rfl) (Trc.know 34 rfl (dec_false h14) (Trc.pure rfl rfl rfl (fun _ _ => s_idxA Try.underlying63 ty3 rfl rfl (by decide)) (Trc.read rfl rfl rfl (s_load Try.underlying3 rfl rfl (ldI_eq hx15)) (Trc.pure rfl rfl rfl (fun _ _ => s_mv (v := .int .i64 v1) rfl) (Trc.pure rfl rfl rfl (fun _ _ => s_geq rfl rfl) (Trc.pure rfl rfl rfl (fun _ _ => s_pickF (v := .bool (decide (v1 ≤ x15))) rfl rfl) (Trc.pure rfl rfl rfl (fun _ _ => s_mv (v := .bool (decide (v1 ≤ x15))) rfl) (Trc.know 40 rfl (dec_false h16) (Trc.pure rfl rfl rfl (fun _ _ => s_mv (v := .int .i64 v6) rfl) (Trc.pure rfl rfl rfl (fun _ _ => s_gtr rfl rfl) (Trc.pure rfl rfl rfl (fun _ _ => s_mv (v := .bool (decide (0 < v6))) rfl) (Trc.know 43 rfl (dec_true h17) (Trc.pure rfl rfl rfl (fun _ _ => s_mv (v := .sl v2) rfl) (Trc.pure rfl rfl rfl (fun _ _ => s_mv (v := .int .i64 v6) rfl) (Trc.pure rfl rfl rfl (fun _ _ => s_sub rfl rfl) (Trc.pure rfl rfl rfl (fun _ _ => s_idx Try.underlying58 ty63 rfl rfl g18) (Trc.read rfl rfl rfl (s_loads Try.underlying63 rfl ty63 rfl (lds_cons (ldI_eq hx19) (lds_cons (ldI_eq hx20) (lds_cons (ldI_eq hx21) (lds_nil))))) (Trc.read rfl rfl rfl (s_loads Try.underlying63 rfl ty63 rfl (lds_cons (ldI_eq hx22) (lds_cons (ldI_eq hx23) (lds_cons (ldI_eq hx24) (lds_nil))))) (Trc.eff rfl rfl rfl (trivial) (s_callF rfl ok92 (sim92 hp25)) (Trc.pure rfl rfl rfl (fun _ _ => s_not rfl) (Trc.pure rfl rfl rfl (fun _ _ => s_pickT (v := .bool (!p25.1)) rfl rfl) (Trc.pure rfl rfl rfl (fun _ _ => s_pickF (v := .bool (!p25.1)) rfl rfl) (Trc.nil (trivial)))))))))))))))))))))))))))))))))))))))))))) rfl (by decide +kernel) mixed ?_
                refine f_keep [0, 1, 5, 7, 10, 11, 12, 53] ?_
                exact s54_j1 _ (fun v1_ v2_ v3_ v4_ v5_ v6_ H_ => ih v1_ v2_ v3_ v4_ v5_ v6_ H_) v1 v2 v3 H.n v4 v5 v6 (!p25.1) p25.2
              · skip
                refine f_draw (Φ := fun _ => True) [0, 1, 0, 0, 0, 1, 0, 1, 0, 0, 0, 0, 1, 0, 1, 0, 0, 0, 0, 1, 0, 0, 0, 0, 0, 0, 0, 0, 0, 0, 0, 0, 0, 0, 0, 0, 0] (Trc.pure rfl rfl rfl (fun _ _ => s_idxA Try.underlying63 ty3 rfl rfl (by decide)) (Trc.read rfl rfl rfl (s_load Try.underlying3 rfl rfl (ldI_eq hx7)) (Trc.pure rfl rfl rfl (fun _ _ => s_lss rfl rfl) (Trc.pure rfl rfl rfl (fun _ _ => s_mv (v := .bool (decide (x7 < 0))) rfl) (Trc.know 20 rfl (dec_false h8) (Trc.pure rfl rfl rfl (fun _ _ => s_idxA Try.underlying63 ty3 rfl rfl (by decide)) (Trc.read rfl rfl rfl (s_load Try.underlying3 rfl rfl (ldI_eq hx9)) (Trc.pure rfl rfl rfl (fun _ _ => s_idxA Try.underlying63 ty3 rfl rfl (by decide)) (Trc.read rfl rfl rfl (s_load Try.underlying3 rfl rfl (ldI_eq hx10)) (Trc.pure rfl rfl rfl (fun _ _ => s_geq rfl rfl) (Trc.pure rfl rfl rfl (fun _ _ => s_pickF (v := .bool (decide (x10 ≤ x9))) rfl rfl) (Trc.pure rfl rfl rfl (fun _ _ => s_mv (v := .bool (decide (x10 ≤ x9))) rfl) (Trc.know 27 rfl (dec_false h11) (Trc.pure rfl rfl rfl (fun _ _ => s_idxA Try.underlying63 ty3 rfl rfl (by decide)) (Trc.read rfl rfl rfl (s_load Try.underlying3 rfl rfl (ldI_eq hx12)) (Trc.pure rfl rfl rfl (fun _ _ => s_idxA Try.underlying63 ty3 rfl rfl (by decide)) (Trc.read rfl rfl rfl (s_load Try.underlying3 rfl rfl (ldI_eq hx13)) (Trc.pure rfl rfl rfl (fun _ _ => s_geq rfl rfl) (Trc.pure rfl rfl rfl (fun _ _ => s_pickF (v := .bool (decide (x13 ≤ x12))) rfl rfl) (Trc.pure rfl rfl rfl (fun _ _ => s_mv (v := .bool (decide (x13 ≤ x12))) rfl) (Trc.know 34 rfl (dec_false h14) (Trc.pure rfl rfl rfl (fun _ _ => s_idxA Try.underlying63 ty3 rfl rfl (by decide)) (Trc.read rfl rfl rfl (s_load Try.underlying3 rfl rfl (ldI_eq hx15)) (Trc.pure rfl rfl rfl (fun _ _ => s_mv (v := .int .i64 v1) rfl) (Trc.pure rfl rfl rfl (fun _ _ => s_geq rfl rfl) (Trc.pure rfl rfl rfl (fun _ _ => s_pickF (v := .bool (decide (v1 ≤ x15))) rfl rfl) (Trc.pure rfl rfl rfl (fun _ _ => s_mv (v := .bool (decide (v1 ≤ x15))) rfl) (Trc.know 40 rfl (dec_false h16) (Trc.pure rfl rfl rfl (fun _ _ => s_mv (v := .int .i64 v6) rfl) (Trc.pure rfl rfl rfl (fun _ _ => s_gtr rfl rfl) (Trc.pure rfl rfl rfl (fun _ _ => s_mv (v := .bool (decide (0 < v6))) rfl) (Trc.know 43 rfl (dec_false h17) (Trc.no rfl rfl rfl (Trc.no rfl rfl rfl (Trc.no rfl rfl rfl (Trc.no rfl rfl rfl (Trc.no rfl rfl rfl (Trc.no rfl rfl rfl (Trc.no rfl rfl rfl (Trc.no rfl rfl rfl (Trc.pure rfl rfl rfl (fun _ _ => s_pickF (v := .bool false) rfl rfl) (Trc.pure rfl rfl rfl (fun _ _ => s_pickF (v := .bool false) rfl rfl) (Trc.nil (trivial)))))))))))))))))))))))))))))))))))))))))))) rfl (by decide +kernel) mixed ?_
                refine f_keep [0, 1, 5, 7, 10, 11, 12, 53] ?_
                exact s54_j1 _ (fun v1_ v2_ v3_ v4_ v5_ v6_ H_ => ih v1_ v2_ v3_ v4_ v5_ v6_ H_) v1 v2 v3 H.n v4 v5 v6 false H6
    · skip
      refine f_know 13 rfl (dec_false h1) ?_
      refine f_condF rfl ?_
      refine f_exit rfl ?_
      refine f_seq ?_
      refine f_seq ?_
      refine f_region ?_
      refine f_op rfl rfl (s_mv (v := .int .i64 v1) rfl) ?_
      refine f_op rfl rfl (s_mv (v := .int .i64 0) rfl) ?_
      refine f_nil ?_
      refine f_block ?_
      refine f_loop ?_
      refine f_keep [5, 85, 86] ?_
      exact s54_l2 FUEL v3 v1 0 H

theorem sim54 {a0 : Int} {a1 : Sl} {H : Hp} {p : Bool × Hp} (h : r54 a0 a1 H = some p) : CallSim Try.prog 54 [.int .i64 a0, .sl a1] H (.bool p.1) p.2 := by
  refine callSim (fn := Try.f54) (ret := ret54) Try.func54 rfl Try.ntmps54 rfl ?_ h
  unfold r54
  refine f_seq ?_
  refine f_region ?_
  refine f_op rfl rfl (s_as (v := .bool false) rfl) ?_
  refine f_nil ?_
  refine f_seq ?_
  refine f_region ?_
  refine f_op rfl rfl (s_alloc (zs := [.int .i64 0, .int .i64 0, .int .i64 0, .int .i64 0, .int .i64 0, .int .i64 0, .int .i64 0, .int .i64 0, .int .i64 0, .int .i64 0, .int .i64 0, .int .i64 0, .int .i64 0, .int .i64 0, .int .i64 0, .int .i64 0, .int .i64 0, .int .i64 0, .int .i64 0, .int .i64 0, .int .i64 0, .int .i64 0, .int .i64 0, .int .i64 0, .int .i64 0, .int .i64 0, .int .i64 0, .int .i64 0, .int .i64 0, .int .i64 0, .int .i64 0, .int .i64 0, .int .i64 0, .int .i64 0, .int .i64 0, .int .i64 0, .int .i64 0, .int .i64 0, .int .i64 0, .int .i64 0, .int .i64 0, .int .i64 0, .int .i64 0, .int .i64 0, .int .i64 0, .int .i64 0, .int .i64 0, .int .i64 0, .int .i64 0, .int .i64 0, .int .i64 0, .int .i64 0, .int .i64 0, .int .i64 0, .int .i64 0, .int .i64 0, .int .i64 0, .int .i64 0, .int .i64 0, .int .i64 0, .int .i64 0, .int .i64 0, .int .i64 0, .int .i64 0, .int .i64 0, .int .i64 0, .int .i64 0, .int .i64 0, .int .i64 0, .int .i64 0, .int .i64 0, .int .i64 0, .int .i64 0, .int .i64 0, .int .i64 0, .int .i64 0, .int .i64 0, .int .i64 0, .int .i64 0, .int .i64 0, .int .i64 0]) ty96 rfl rfl) ?_
  refine o_hp ?_; intro H1 hH1
  refine f_nil ?_
  refine f_seq ?_
  refine f_seq ?_
  refine f_region ?_
  refine f_op rfl rfl (s_mv (v := .sl a1) rfl) ?_
  refine f_op rfl rfl (s_lenS rfl Try.underlying58 rfl) ?_
  refine f_op rfl rfl (s_mv (v := .int .i64 0) rfl) ?_
  refine f_nil ?_
  refine f_block ?_
  refine f_loop ?_
  refine f_keep [0, 1, 5, 10, 11, 12] ?_
  exact s54_l0 FUEL a0 a1 H.n a1 (a1.len : Int) 0 H1

/- 56 congou/pairs.Threes -/
theorem ok56 : FnOk Try.prog 56 := ⟨⟨Try.f56, Try.func56, by kernel_rfl, rfl⟩⟩
theorem sim56 {app : App} (happ : AppSim Try.prog app) {a0 : Int} {H : Hp} {p : (Sl × Int) × Hp} (h : r56 app a0 H = some p) : CallSim Try.prog 56 [.int .i64 a0] H (.tup [.sl p.1.1, .int .i64 p.1.2]) p.2 := by
  refine callSim (fn := Try.f56) (ret := ret56) Try.func56 rfl Try.ntmps56 rfl ?_ h
  unfold r56
  refine f_seq ?_
  refine f_region ?_
  refine f_op rfl rfl (s_box1 (v := .int .i64 a0) rfl rfl) ?_
  refine f_op rfl rfl (s_as (v := .sl ⟨true, 0, 0, 0, 0, 0⟩) rfl) ?_
  refine f_op rfl rfl (s_as (v := .int .i64 0) rfl) ?_
  refine o_hp ?_; intro H1 hH1
  refine f_nil ?_
  refine f_seq ?_
  refine f_seq ?_
  refine f_region ?_
  refine o_bind ?_; intro x2 hx2
  refine f_op rfl rfl (s_load Try.underlying3 rfl rfl (ldI_eq hx2)) ?_
  refine o_bind ?_; intro p3 hp3
  refine f_op rfl rfl (s_callF rfl ok88 (sim88 hp3)) ?_
  refine f_op rfl rfl (s_not rfl) ?_
  refine f_nil ?_
  refine f_if (fun h4 => ?_) (fun h4 => ?_)
  · skip
    refine f_know 9 rfl (bool_notT h4) ?_
    refine f_condF rfl ?_
    refine f_skip ?_
    refine f_seq ?_
    refine f_region ?_
    refine f_op rfl rfl (s_makeMap (.arr 2 .i64) rfl) ?_
    refine f_op rfl rfl (s_alloc (zs := [.nilmap]) ty100 rfl rfl) ?_
    refine o_bind ?_; intro H5 hH5
    refine f_op rfl rfl (s_store (s := 1) ty100 rfl rfl rfl hH5) ?_
    refine f_nil ?_
    refine f_seq ?_
    refine f_region ?_
    refine f_op rfl rfl (s_alloc (zs := [.sl ⟨true, 0, 0, 0, 0, 0⟩]) ty58 rfl rfl) ?_
    refine o_hp ?_; intro H6 hH6
    refine f_nil ?_
    refine f_seq ?_
    refine f_region ?_
    refine f_op rfl rfl (s_alloc (zs := [.nilfn]) ty29 rfl rfl) ?_
    refine o_hp ?_; intro H7 hH7
    refine f_nil ?_
    refine f_seq ?_
    refine f_region ?_
    refine f_op rfl rfl (s_makeFunc rfl rfl) ?_
    refine o_bind ?_; intro H8 hH8
    refine f_op rfl rfl (s_store (s := 1) ty29 rfl rfl rfl hH8) ?_
    refine f_nil ?_
    refine f_seq ?_
    refine f_seq ?_
    refine f_region ?_
    refine o_bind ?_; intro x9 hx9
    refine f_op rfl rfl (s_load Try.underlying29 rfl rfl (ldV_eq hx9)) ?_
    refine o_bind ?_; intro p10 hp10
    refine o_bind ?_; intro x11 hx11
    refine f_op rfl rfl (s_callv happ rfl rfl hp10) ?_
    refine o_know 13 rfl (asB_eq hx11) ?_
    refine f_op rfl rfl (s_not rfl) ?_
    refine f_nil ?_
    refine f_if (fun h12 => ?_) (fun h12 => ?_)
    · skip
      refine f_know 14 rfl (bool_notT h12) ?_
      refine f_condF rfl ?_
      refine f_skip ?_
      refine f_seq ?_
      refine f_region ?_
      refine o_bind ?_; intro x13 hx13
      refine f_op rfl rfl (s_load Try.underlying58 rfl rfl (ldSl_eq hx13)) ?_
      refine f_op rfl rfl (s_as (v := .sl x13) rfl) ?_
      refine f_op rfl rfl (s_as (v := .int .i64 0) rfl) ?_
      refine f_nil ?_
      exact f_ret (.tmp rfl (.tmp rfl (.nil))) rfl
    · skip
      refine f_know 14 rfl (bool_notF h12) ?_
      refine f_condT rfl ?_
      refine f_seq ?_
      refine f_region ?_
      refine f_op rfl rfl (s_as (v := .sl ⟨true, 0, 0, 0, 0, 0⟩) rfl) ?_
      refine f_op rfl rfl (s_as (v := .int .i64 4) rfl) ?_
      refine f_nil ?_
      exact f_ret (.tmp rfl (.tmp rfl (.nil))) rfl
  · skip
    refine f_know 9 rfl (bool_notF h4) ?_
    refine f_condT rfl ?_
    refine f_seq ?_
    refine f_region ?_
    refine f_op rfl rfl (s_as (v := .sl ⟨true, 0, 0, 0, 0, 0⟩) rfl) ?_
    refine f_op rfl rfl (s_as (v := .int .i64 2) rfl) ?_
    refine f_nil ?_
    exact f_ret (.tmp rfl (.tmp rfl (.nil))) rfl

/- 98 congou/congouref08.threes -/
theorem ok98 : FnOk Try.prog 98 := ⟨⟨Try.f98, Try.func98, by kernel_rfl, rfl⟩⟩
theorem s98_j4 {app : App} (happ : AppSim Try.prog app) (kt3 : Int → Sl → Nat → Int → Int → Int → Hp → Option ((Sl × Bool) × Hp)) (hkt3 : ∀ (v1 : Int) (v2 : Sl) (v3 : Nat) (v4 : Int) (v5 : Int) (v6 : Int) (H : Hp), Fin Try.prog Try.f98 ret98 97 (todoAt (bodyOf Try.f98) [1, 1, 1, 0, 1, 0, 0, 1, 1, 0, 0, 1, 1, 0, 0, 1, 0, 0, 1, 0, 1, 0, 0] []) [(0, .int .i64 v1), (1, .sl v2), (6, .ptr v3 0), (9, .int .i64 v4), (10, .int .i64 v5), (11, .int .i64 v6)] H (kt3 v1 v2 v3 v4 v5 v6 H)) (v1 : Int) (v2 : Sl) (v3 : Nat) (v4 : Int) (v5 : Int) (v6 : Int) (v7 : Bool) (H : Hp) : Fin Try.prog Try.f98 ret98 97 (todoAt (bodyOf Try.f98) [1, 1, 1, 0, 1, 0, 0, 1, 1, 0, 0, 1, 1, 0, 0, 1, 0, 0, 1, 0, 1, 0, 0, 1, 0, 0, 1] []) [(0, .int .i64 v1), (1, .sl v2), (6, .ptr v3 0), (9, .int .i64 v4), (10, .int .i64 v5), (11, .int .i64 v6), (75, .bool v7)] H (r98_j4 app kt3 v1 v2 v3 v4 v5 v6 v7 H) := by
  unfold r98_j4
  refine f_if (fun h1 => ?_) (fun h1 => ?_)
  · skip
    refine f_know 75 rfl (bool_T h1) ?_
    refine f_condT rfl ?_
    refine f_seq ?_
    refine f_region ?_
    refine f_op rfl rfl (s_mv (v := .int .i64 v1) rfl) ?_
    refine f_op rfl rfl (s_mv (v := .sl v2) rfl) ?_
    refine f_op rfl rfl (s_mv (v := .sl v2) rfl) ?_
    refine f_op rfl rfl (s_lenS rfl Try.underlying58 rfl) ?_
    refine f_op rfl rfl (s_mv (v := .sl v2) rfl) ?_
    refine f_op rfl rfl (s_lenS rfl Try.underlying58 rfl) ?_
    refine o_ck fun g2 => ?_
    refine f_op rfl rfl (s_slice3 Try.underlying58 ty63 rfl rfl rfl rfl g2) ?_
    refine f_op rfl rfl (s_mv (v := .int .i64 v4) rfl) ?_
    refine f_op rfl rfl (s_mv (v := .int .i64 v5) rfl) ?_
    refine f_op rfl rfl (s_mv (v := .int .i64 v6) rfl) ?_
    refine f_op rfl rfl (s_buildA (cs := [.int .i64 v4, .int .i64 v5, .int .i64 v6]) Try.underlying63 ty63 ty3 rfl rfl) ?_
    refine f_op rfl rfl (s_buildSlice (cs := [.int .i64 v4, .int .i64 v5, .int .i64 v6]) Try.underlying58 ty63 (by decide) (by decide) rfl (by decide) rfl) ?_
    refine o_bind ?_; intro x3 hx3
    refine f_op rfl rfl (s_ap rfl rfl Try.underlying58 Try.underlying58 ty63 rfl rfl rfl rfl rfl rfl rfl hx3) ?_
    refine o_bind ?_; intro p4 hp4
    refine o_bind ?_; intro x5 hx5
    refine o_ck fun g6 => ?_
    refine o_bind ?_; intro x7 hx7
    refine o_bind ?_; intro x8 hx8
    refine o_bind ?_; intro x9 hx9
    refine o_bind ?_; intro x10 hx10
    refine f_op rfl rfl (s_callA happ rfl hp4) ?_
    refine o_know 90 rfl (tupOf2 hx5 g6 (gete hx7 (asSl_eq hx8)) (gete hx9 (asB_eq hx10))) ?_
    refine f_op rfl rfl (s_mv (v := .tup [.sl x8, .bool x10]) rfl) ?_
    refine f_op rfl rfl (s_extract (r := .sl x8) rfl rfl) ?_
    refine f_op rfl rfl (s_extract (r := .bool x10) rfl rfl) ?_
    refine f_op rfl rfl (s_as (v := .sl x8) rfl) ?_
    refine f_op rfl rfl (s_as (v := .bool x10) rfl) ?_
    refine f_nil ?_
    refine f_seq ?_
    refine f_region ?_
    refine f_op rfl rfl (s_mv (v := .bool x10) rfl) ?_
    refine f_nil ?_
    refine f_if (fun h11 => ?_) (fun h11 => ?_)
    · skip
      refine f_know 93 rfl (bool_T h11) ?_
      refine f_condT rfl ?_
      refine f_seq ?_
      refine f_region ?_
      refine f_op rfl rfl (s_mv (v := .sl x8) rfl) ?_
      refine f_op rfl rfl (s_as (v := .sl x8) rfl) ?_
      refine f_op rfl rfl (s_as (v := .bool true) rfl) ?_
      refine f_nil ?_
      exact f_ret (.tmp rfl (.tmp rfl (.nil))) rfl
    · skip
      refine f_know 93 rfl (bool_F h11) ?_
      refine f_condF rfl ?_
      refine f_skip ?_
      refine f_inBlock ?_
      refine f_region ?_
      refine f_op rfl rfl (s_mv (v := .int .i64 v6) rfl) ?_
      refine f_op rfl rfl (s_add rfl rfl) ?_
      refine f_op rfl rfl (s_as (v := .int .i64 (w64 (v6 + 1))) rfl) ?_
      refine f_nil ?_
      refine f_inLoop ?_
      refine f_keep [0, 1, 6, 9, 10, 11] ?_
      exact hkt3 v1 v2 v3 v4 v5 (w64 (v6 + 1)) p4.2
  · skip
    refine f_know 75 rfl (bool_F h1) ?_
    refine f_condF rfl ?_
    refine f_skip ?_
    refine f_inBlock ?_
    refine f_region ?_
    refine f_op rfl rfl (s_mv (v := .int .i64 v6) rfl) ?_
    refine f_op rfl rfl (s_add rfl rfl) ?_
    refine f_op rfl rfl (s_as (v := .int .i64 (w64 (v6 + 1))) rfl) ?_
    refine f_nil ?_
    refine f_inLoop ?_
    refine f_keep [0, 1, 6, 9, 10, 11] ?_
    exact hkt3 v1 v2 v3 v4 v5 (w64 (v6 + 1)) H

theorem s98_l3 {app : App} (happ : AppSim Try.prog app) : ∀ (k_ : Nat) (v1 : Int) (v2 : Sl) (v3 : Nat) (v4 : Int) (v5 : Int) (v6 : Int) (H : Hp), Fin Try.prog Try.f98 ret98 97 (todoAt (bodyOf Try.f98) [1, 1, 1, 0, 1, 0, 0, 1, 1, 0, 0, 1, 1, 0, 0, 1, 0, 0, 1, 0, 1, 0, 0] []) [(0, .int .i64 v1), (1, .sl v2), (6, .ptr v3 0), (9, .int .i64 v4), (10, .int .i64 v5), (11, .int .i64 v6)] H (r98_l3 app k_ v1 v2 v3 v4 v5 v6 H) := by
  intro k_
  induction k_ with
  | zero => intro _ _ _ _ _ _ _; exact f_none
  | succ k_ ih =>
    intro v1 v2 v3 v4 v5 v6 H
    rw [r98_l3]
    refine f_seq ?_
    refine f_seq ?_
    refine f_region ?_
    refine f_op rfl rfl (s_mv (v := .int .i64 v6) rfl) ?_
    refine f_op rfl rfl (s_mv (v := .int .i64 v1) rfl) ?_
    refine f_op rfl rfl (s_lss rfl rfl) ?_
    refine f_nil ?_
    refine f_if (fun h1 => ?_) (fun h1 => ?_)
    · skip
      refine f_know 59 rfl (dec_true h1) ?_
      refine f_condT rfl ?_
      refine f_skip ?_
      refine f_seq ?_
      refine f_block ?_
      refine f_seq ?_
      refine f_region ?_
      refine f_op rfl rfl (s_mv (v := .int .i64 v4) rfl) ?_
      refine f_op rfl rfl (s_mv (v := .int .i64 v6) rfl) ?_
      refine o_ck fun g2 => ?_
      refine f_op rfl rfl (s_idxA Try.underlying120 ty119 rfl rfl g2) ?_
      refine o_ck fun g3 => ?_
      refine f_op rfl rfl (s_idxA Try.underlying119 ty4 rfl rfl g3) ?_
      refine o_bind ?_; intro x4 hx4
      refine f_op rfl rfl (s_load Try.underlying4 rfl rfl (ldB_eq hx4)) ?_
      refine f_op rfl rfl (s_not rfl) ?_
      refine f_op rfl rfl (s_mv (v := .bool (!x4)) rfl) ?_
      refine o_if (fun h5 => ?_) (fun h5 => ?_)
      · skip
        refine o_know 68 rfl (bool_notT h5) ?_
        refine f_no rfl rfl ?_
        refine f_no rfl rfl ?_
        refine f_no rfl rfl ?_
        refine f_no rfl rfl ?_
        refine f_no rfl rfl ?_
        refine f_no rfl rfl ?_
        refine f_op rfl rfl (s_pickF (v := .bool false) rfl rfl) ?_
        refine f_nil ?_
        refine f_keep [0, 1, 6, 9, 10, 11, 75] ?_
        exact s98_j4 happ _ (fun v1_ v2_ v3_ v4_ v5_ v6_ H_ => ih v1_ v2_ v3_ v4_ v5_ v6_ H_) v1 v2 v3 v4 v5 v6 false H
      · skip
        refine o_know 68 rfl (bool_notF h5) ?_
        refine f_op rfl rfl (s_mv (v := .int .i64 v5) rfl) ?_
        refine f_op rfl rfl (s_mv (v := .int .i64 v6) rfl) ?_
        refine o_ck fun g6 => ?_
        refine f_op rfl rfl (s_idxA Try.underlying120 ty119 rfl rfl g6) ?_
        refine o_ck fun g7 => ?_
        refine f_op rfl rfl (s_idxA Try.underlying119 ty4 rfl rfl g7) ?_
        refine o_bind ?_; intro x8 hx8
        refine f_op rfl rfl (s_load Try.underlying4 rfl rfl (ldB_eq hx8)) ?_
        refine f_op rfl rfl (s_not rfl) ?_
        refine f_op rfl rfl (s_pickT (v := .bool (!x8)) rfl rfl) ?_
        refine f_nil ?_
        refine f_keep [0, 1, 6, 9, 10, 11, 75] ?_
        exact s98_j4 happ _ (fun v1_ v2_ v3_ v4_ v5_ v6_ H_ => ih v1_ v2_ v3_ v4_ v5_ v6_ H_) v1 v2 v3 v4 v5 v6 (!x8) H
    · skip
      refine f_know 59 rfl (dec_false h1) ?_
      refine f_condF rfl ?_
      refine f_exit rfl ?_
      refine f_seq ?_
      refine f_region ?_
      refine f_op rfl rfl (s_as (v := .sl ⟨true, 0, 0, 0, 0, 0⟩) rfl) ?_
      refine f_op rfl rfl (s_as (v := .bool false) rfl) ?_
      refine f_nil ?_
      exact f_ret (.tmp rfl (.tmp rfl (.nil))) rfl

theorem s98_l2 {app : App} (happ : AppSim Try.prog app) (kt1 : Int → Sl → Nat → Int → Int → Hp → Option ((Sl × Bool) × Hp)) (hkt1 : ∀ (v1 : Int) (v2 : Sl) (v3 : Nat) (v4 : Int) (v5 : Int) (H : Hp), Fin Try.prog Try.f98 ret98 97 (todoAt (bodyOf Try.f98) [1, 1, 1, 0, 1, 0, 0] []) [(0, .int .i64 v1), (1, .sl v2), (6, .ptr v3 0), (39, .int .i64 v4), (40, .int .i64 v5)] H (kt1 v1 v2 v3 v4 v5 H)) : ∀ (k_ : Nat) (v1 : Int) (v2 : Sl) (v3 : Nat) (v4 : Int) (v5 : Int) (v6 : Int) (v7 : Int) (H : Hp), Fin Try.prog Try.f98 ret98 97 (todoAt (bodyOf Try.f98) [1, 1, 1, 0, 1, 0, 0, 1, 1, 0, 0, 1, 1, 0, 0] []) [(0, .int .i64 v1), (1, .sl v2), (6, .ptr v3 0), (9, .int .i64 v4), (10, .int .i64 v5), (39, .int .i64 v6), (40, .int .i64 v7)] H (r98_l2 app kt1 k_ v1 v2 v3 v4 v5 v6 v7 H) := by
  intro k_
  induction k_ with
  | zero => intro _ _ _ _ _ _ _ _; exact f_none
  | succ k_ ih =>
    intro v1 v2 v3 v4 v5 v6 v7 H
    rw [r98_l2]
    refine f_seq ?_
    refine f_seq ?_
    refine f_region ?_
    refine f_op rfl rfl (s_mv (v := .int .i64 v5) rfl) ?_
    refine f_op rfl rfl (s_mv (v := .int .i64 v1) rfl) ?_
    refine f_op rfl rfl (s_lss rfl rfl) ?_
    refine f_nil ?_
    refine f_if (fun h1 => ?_) (fun h1 => ?_)
    · skip
      refine f_know 47 rfl (dec_true h1) ?_
      refine f_condT rfl ?_
      refine f_skip ?_
      refine f_seq ?_
      refine f_block ?_
      refine f_seq ?_
      refine f_seq ?_
      refine f_region ?_
      refine f_op rfl rfl (s_mv (v := .int .i64 v4) rfl) ?_
      refine f_op rfl rfl (s_mv (v := .int .i64 v5) rfl) ?_
      refine o_ck fun g2 => ?_
      refine f_op rfl rfl (s_idxA Try.underlying120 ty119 rfl rfl g2) ?_
      refine o_ck fun g3 => ?_
      refine f_op rfl rfl (s_idxA Try.underlying119 ty4 rfl rfl g3) ?_
      refine o_bind ?_; intro x4 hx4
      refine f_op rfl rfl (s_load Try.underlying4 rfl rfl (ldB_eq hx4)) ?_
      refine f_nil ?_
      refine f_if (fun h5 => ?_) (fun h5 => ?_)
      · skip
        refine f_know 54 rfl (bool_T h5) ?_
        refine f_condT rfl ?_
        refine f_exit rfl ?_
        refine f_region ?_
        refine f_op rfl rfl (s_mv (v := .int .i64 v5) rfl) ?_
        refine f_op rfl rfl (s_add rfl rfl) ?_
        refine f_op rfl rfl (s_as (v := .int .i64 (w64 (v5 + 1))) rfl) ?_
        refine f_nil ?_
        refine f_inLoop ?_
        refine f_keep [0, 1, 6, 9, 10, 39, 40] ?_
        exact ih v1 v2 v3 v4 (w64 (v5 + 1)) v6 v7 H
      · skip
        refine f_know 54 rfl (bool_F h5) ?_
        refine f_condF rfl ?_
        refine f_skip ?_
        refine f_seq ?_
        refine f_seq ?_
        refine f_region ?_
        refine f_op rfl rfl (s_mv (v := .int .i64 v5) rfl) ?_
        refine f_op rfl rfl (s_add rfl rfl) ?_
        refine f_op rfl rfl (s_as (v := .int .i64 (w64 (v5 + 1))) rfl) ?_
        refine f_nil ?_
        refine f_block ?_
        refine f_loop ?_
        refine f_keep [0, 1, 6, 9, 10, 11] ?_
        exact s98_l3 happ FUEL v1 v2 v3 v4 v5 (w64 (v5 + 1)) H
    · skip
      refine f_know 47 rfl (dec_false h1) ?_
      refine f_condF rfl ?_
      refine f_exit rfl ?_
      refine f_inBlock ?_
      refine f_region ?_
      refine f_op rfl rfl (s_add rfl rfl) ?_
      refine f_op rfl rfl (s_mv (v := .int .i64 (w64 (v7 + 1))) rfl) ?_
      refine f_nil ?_
      refine f_inLoop ?_
      refine f_keep [0, 1, 6, 39, 40] ?_
      exact hkt1 v1 v2 v3 v6 (w64 (v7 + 1)) H

theorem s98_l1 {app : App} (happ : AppSim Try.prog app) : ∀ (k_ : Nat) (v1 : Int) (v2 : Sl) (v3 : Nat) (v4 : Int) (v5 : Int) (H : Hp), Fin Try.prog Try.f98 ret98 97 (todoAt (bodyOf Try.f98) [1, 1, 1, 0, 1, 0, 0] []) [(0, .int .i64 v1), (1, .sl v2), (6, .ptr v3 0), (39, .int .i64 v4), (40, .int .i64 v5)] H (r98_l1 app k_ v1 v2 v3 v4 v5 H) := by
  intro k_
  induction k_ with
  | zero => intro _ _ _ _ _ _; exact f_none
  | succ k_ ih =>
    intro v1 v2 v3 v4 v5 H
    rw [r98_l1]
    refine f_seq ?_
    refine f_region ?_
    refine f_op rfl rfl (s_lss rfl rfl) ?_
    refine f_nil ?_
    refine f_seq ?_
    refine f_if (fun h1 => ?_) (fun h1 => ?_)
    · skip
      refine f_know 41 rfl (dec_true h1) ?_
      refine f_condT rfl ?_
      refine f_skip ?_
      refine f_seq ?_
      refine f_block ?_
      refine f_seq ?_
      refine f_region ?_
      refine f_op rfl rfl (s_mv (v := .int .i64 v5) rfl) ?_
      refine f_op rfl rfl (s_as (v := .int .i64 v5) rfl) ?_
      refine f_nil ?_
      refine f_seq ?_
      refine f_region ?_
      refine f_op rfl rfl (s_mv (v := .int .i64 v5) rfl) ?_
      refine f_op rfl rfl (s_add rfl rfl) ?_
      refine f_op rfl rfl (s_as (v := .int .i64 (w64 (v5 + 1))) rfl) ?_
      refine f_nil ?_
      refine f_block ?_
      refine f_loop ?_
      refine f_keep [0, 1, 6, 9, 10, 39, 40] ?_
      exact s98_l2 happ _ (fun v1_ v2_ v3_ v4_ v5_ H_ => ih v1_ v2_ v3_ v4_ v5_ H_) FUEL v1 v2 v3 v5 (w64 (v5 + 1)) v4 v5 H
    · skip
      refine f_know 41 rfl (dec_false h1) ?_
      refine f_condF rfl ?_
      refine f_exit rfl ?_
      refine f_seq ?_
      refine f_region ?_
      refine f_op rfl rfl (s_mv (v := .sl v2) rfl) ?_
      refine f_op rfl rfl (s_as (v := .sl v2) rfl) ?_
      refine f_op rfl rfl (s_as (v := .bool true) rfl) ?_
      refine f_nil ?_
      exact f_ret (.tmp rfl (.tmp rfl (.nil))) rfl

theorem s98_l0 {app : App} (happ : AppSim Try.prog app) : ∀ (k_ : Nat) (v1 : Int) (v2 : Sl) (v3 : Nat) (v4 : Sl) (v5 : Int) (v6 : Int) (H : Hp), Fin Try.prog Try.f98 ret98 97 (todoAt (bodyOf Try.f98) [1, 1, 0, 1, 0, 0] []) [(0, .int .i64 v1), (1, .sl v2), (6, .ptr v3 0), (14, .sl v4), (15, .int .i64 v5), (16, .int .i64 v6)] H (r98_l0 app k_ v1 v2 v3 v4 v5 v6 H) := by
  intro k_
  induction k_ with
  | zero => intro _ _ _ _ _ _ _; exact f_none
  | succ k_ ih =>
    intro v1 v2 v3 v4 v5 v6 H
    rw [r98_l0]
    refine f_seq ?_
    refine f_region ?_
    refine f_op rfl rfl (s_lss rfl rfl) ?_
    refine f_nil ?_
    refine f_seq ?_
    refine f_if (fun h1 => ?_) (fun h1 => ?_)
    · skip
      refine f_know 17 rfl (dec_true h1) ?_
      refine f_condT rfl ?_
      refine f_skip ?_
      refine f_seq ?_
      refine f_block ?_
      refine f_seq ?_
      refine f_region ?_
      refine o_ck fun g2 => ?_
      refine f_op rfl rfl (s_idx Try.underlying58 ty63 rfl rfl g2) ?_
      refine o_bind ?_; intro x3 hx3
      refine o_bind ?_; intro x4 hx4
      refine o_bind ?_; intro x5 hx5
      refine f_op rfl rfl (s_loads Try.underlying63 rfl ty63 rfl (lds_cons (ldI_eq hx3) (lds_cons (ldI_eq hx4) (lds_cons (ldI_eq hx5) (lds_nil))))) ?_
      refine f_op rfl rfl (s_alloc (zs := [.int .i64 0, .int .i64 0, .int .i64 0]) ty63 rfl rfl) ?_
      refine o_bind ?_; intro H6 hH6
      refine f_op rfl rfl (s_stores ty63 rfl rfl rfl rfl hH6 (Nat.le_of_eq (sts_mono hH6).symm)) ?_
      refine f_nil ?_
      refine f_bind ?_; intro x7 hx7
      refine f_bind ?_; intro x8 hx8
      refine f_bind ?_; intro x9 hx9
      refine f_bind ?_; intro x10 hx10
      refine f_bind ?_; intro x11 hx11
      refine f_bind ?_; intro x12 hx12
      refine f_ck fun g13 => ?_
      refine f_ck fun g14 => ?_
      refine f_bind ?_; intro H15 hH15
      refine f_ck fun g16 => ?_
      refine f_ck fun g17 => ?_
      refine f_bind ?_; intro H18 hH18
      refine f_ck fun g19 => ?_
      refine f_ck fun g20 => ?_
      refine f_bind ?_; intro H21 hH21
      refine f_ck fun g22 => ?_
      refine f_ck fun g23 => ?_
      refine f_ck fun g24 => ?_
      refine f_ck fun g25 => ?_
      refine f_ck fun g26 => ?_
      refine f_ck fun g27 => ?_
      refine f_ck fun g28 => ?_
      refine f_ck fun g29 => ?_
      refine f_ck fun g30 => ?_
      refine f_ck fun g31 => ?_
      refine f_ck fun g32 => ?_
      refine f_ck fun g33 => ?_
      refine f_draw (Φ := fun H_ => H_.ld H.n (0 + (0 : Int).toNat * 1) = some (.int .i64 x9) ∧ H_.ld H.n (0 + (2 : Int).toNat * 1) = some (.int .i64 x10) ∧ H_.ld H.n (0 + (1 : Int).toNat * 1) = some (.int .i64 x11) ∧ H_.ld H.n (0 + (2 : Int).toNat * 1) = some (.int .i64 x12)) [0, 1, 0, 1, 0, 0, 0, 0, 0, 0, 0, 0, 0, 0, 2, 0, 0, 2, 0, 0, 2] (Trc.pure rfl rfl rfl (fun _ _ => s_idxA Try.underlying63 ty3 rfl rfl (by decide)) (Trc.read rfl rfl rfl (s_load Try.underlying3 rfl rfl (ldI_eq hx7)) (Trc.pure rfl rfl rfl (fun _ _ => s_idxA Try.underlying63 ty3 rfl rfl (by decide)) (Trc.read rfl rfl rfl (s_load Try.underlying3 rfl rfl (ldI_eq hx8)) (Trc.pure rfl rfl rfl (fun _ _ => s_idxA Try.underlying63 ty3 rfl rfl (by decide)) (Trc.pure rfl rfl rfl (fun _ hp_ => s_load Try.underlying3 rfl rfl hp_.1) (Trc.pure rfl rfl rfl (fun _ _ => s_idxA Try.underlying63 ty3 rfl rfl (by decide)) (Trc.pure rfl rfl rfl (fun _ hp_ => s_load Try.underlying3 rfl rfl hp_.2.1) (Trc.pure rfl rfl rfl (fun _ _ => s_idxA Try.underlying63 ty3 rfl rfl (by decide)) (Trc.pure rfl rfl rfl (fun _ hp_ => s_load Try.underlying3 rfl rfl hp_.2.2.1) (Trc.pure rfl rfl rfl (fun _ _ => s_idxA Try.underlying63 ty3 rfl rfl (by decide)) (Trc.pure rfl rfl rfl (fun _ hp_ => s_load Try.underlying3 rfl rfl hp_.2.2.2) (Trc.pure rfl rfl rfl (fun _ _ => s_idxA Try.underlying120 ty119 rfl rfl g13) (Trc.pure rfl rfl rfl (fun _ _ => s_idxA Try.underlying119 ty4 rfl rfl g14) (Trc.eff rfl rfl rfl (⟨ldI_eq hx9, ldI_eq hx10, ldI_eq hx11, ldI_eq hx12⟩) (s_store (s := 1) ty4 rfl rfl rfl hH15) (Trc.pure rfl rfl rfl (fun _ _ => s_idxA Try.underlying120 ty119 rfl rfl g16) (Trc.pure rfl rfl rfl (fun _ _ => s_idxA Try.underlying119 ty4 rfl rfl g17) (Trc.eff rfl rfl rfl (⟨ldI_eq g22, ldI_eq g23, ldI_eq g24, ldI_eq g25⟩) (s_store (s := 1) ty4 rfl rfl rfl hH18) (Trc.pure rfl rfl rfl (fun _ _ => s_idxA Try.underlying120 ty119 rfl rfl g19) (Trc.pure rfl rfl rfl (fun _ _ => s_idxA Try.underlying119 ty4 rfl rfl g20) (Trc.eff rfl rfl rfl (⟨ldI_eq g26, ldI_eq g27, ldI_eq g28, ldI_eq g29⟩) (s_store (s := 1) ty4 rfl rfl rfl hH21) (Trc.nil (⟨ldI_eq g30, ldI_eq g31, ldI_eq g32, ldI_eq g33⟩))))))))))))))))))))))) rfl (by decide +kernel) mixed ?_
      refine f_inBlock ?_
      refine f_region ?_
      refine f_op rfl rfl (s_add rfl rfl) ?_
      refine f_op rfl rfl (s_mv (v := .int .i64 (w64 (v6 + 1))) rfl) ?_
      refine f_nil ?_
      refine f_inLoop ?_
      refine f_keep [0, 1, 6, 14, 15, 16] ?_
      exact ih v1 v2 v3 v4 v5 (w64 (v6 + 1)) H21
    · skip
      refine f_know 17 rfl (dec_false h1) ?_
      refine f_condF rfl ?_
      refine f_exit rfl ?_
      refine f_seq ?_
      refine f_seq ?_
      refine f_region ?_
      refine f_op rfl rfl (s_mv (v := .int .i64 v1) rfl) ?_
      refine f_op rfl rfl (s_mv (v := .int .i64 0) rfl) ?_
      refine f_nil ?_
      refine f_block ?_
      refine f_loop ?_
      refine f_keep [0, 1, 6, 39, 40] ?_
      exact s98_l1 happ FUEL v1 v2 v3 v1 0 H

theorem sim98 {app : App} (happ : AppSim Try.prog app) {a0 : Int} {a1 : Sl} {H : Hp} {p : (Sl × Bool) × Hp} (h : r98 app a0 a1 H = some p) : CallSim Try.prog 98 [.int .i64 a0, .sl a1] H (.tup [.sl p.1.1, .bool p.1.2]) p.2 := by
  refine callSim (fn := Try.f98) (ret := ret98) Try.func98 rfl Try.ntmps98 rfl ?_ h
  unfold r98
  refine f_seq ?_
  refine f_region ?_
  refine f_op rfl rfl (s_as (v := .sl ⟨true, 0, 0, 0, 0, 0⟩) rfl) ?_
  refine f_op rfl rfl (s_as (v := .bool false) rfl) ?_
  refine f_nil ?_
  refine f_seq ?_
  refine f_region ?_
  refine f_op rfl rfl (s_alloc (zs := [.bool false, .bool false, .bool false, .bool false, .bool false, .bool false, .bool false, .bool false, .bool false, .bool false, .bool false, .bool false, .bool false, .bool false, .bool false, .bool false, .bool false, .bool false, .bool false, .bool false, .bool false, .bool false, .bool false, .bool false, .bool false, .bool false, .bool false, .bool false, .bool false, .bool false, .bool false, .bool false, .bool false, .bool false, .bool false, .bool false, .bool false, .bool false, .bool false, .bool false, .bool false, .bool false, .bool false, .bool false, .bool false, .bool false, .bool false, .bool false, .bool false, .bool false, .bool false, .bool false, .bool false, .bool false, .bool false, .bool false, .bool false, .bool false, .bool false, .bool false, .bool false, .bool false, .bool false, .bool false, .bool false, .bool false, .bool false, .bool false, .bool false, .bool false, .bool false, .bool false, .bool false, .bool false, .bool false, .bool false, .bool false, .bool false, .bool false, .bool false, .bool false]) ty120 rfl rfl) ?_
  refine o_hp ?_; intro H1 hH1
  refine f_nil ?_
  refine f_seq ?_
  refine f_seq ?_
  refine f_region ?_
  refine f_op rfl rfl (s_mv (v := .sl a1) rfl) ?_
  refine f_op rfl rfl (s_lenS rfl Try.underlying58 rfl) ?_
  refine f_op rfl rfl (s_mv (v := .int .i64 0) rfl) ?_
  refine f_nil ?_
  refine f_block ?_
  refine f_loop ?_
  refine f_keep [0, 1, 6, 14, 15, 16] ?_
  exact s98_l0 happ FUEL a0 a1 H.n a1 (a1.len : Int) 0 H1

/- 57 congou/congouref08.Threes -/
theorem ok57 : FnOk Try.prog 57 := ⟨⟨Try.f57, Try.func57, by kernel_rfl, rfl⟩⟩
theorem sim57 {app : App} (happ : AppSim Try.prog app) {a0 : Int} {H : Hp} {p : (Sl × Int) × Hp} (h : r57 app a0 H = some p) : CallSim Try.prog 57 [.int .i64 a0] H (.tup [.sl p.1.1, .int .i64 p.1.2]) p.2 := by
  refine callSim (fn := Try.f57) (ret := ret57) Try.func57 rfl Try.ntmps57 rfl ?_ h
  unfold r57
  refine f_seq ?_
  refine f_region ?_
  refine f_op rfl rfl (s_as (v := .sl ⟨true, 0, 0, 0, 0, 0⟩) rfl) ?_
  refine f_op rfl rfl (s_as (v := .int .i64 0) rfl) ?_
  refine f_nil ?_
  refine f_seq ?_
  refine f_region ?_
  refine f_op rfl rfl (s_mv (v := .int .i64 a0) rfl) ?_
  refine o_bind ?_; intro p1 hp1
  refine f_op rfl rfl (s_callF rfl ok98 (sim98 happ hp1)) ?_
  refine f_op rfl rfl (s_mv (v := .tup [.sl p1.1.1, .bool p1.1.2]) rfl) ?_
  refine f_op rfl rfl (s_extract (r := .sl p1.1.1) rfl rfl) ?_
  refine f_op rfl rfl (s_extract (r := .bool p1.1.2) rfl rfl) ?_
  refine f_op rfl rfl (s_as (v := .sl p1.1.1) rfl) ?_
  refine f_op rfl rfl (s_as (v := .bool p1.1.2) rfl) ?_
  refine f_nil ?_
  refine f_seq ?_
  refine f_seq ?_
  refine f_region ?_
  refine f_op rfl rfl (s_mv (v := .bool p1.1.2) rfl) ?_
  refine f_op rfl rfl (s_not rfl) ?_
  refine f_nil ?_
  refine f_if (fun h2 => ?_) (fun h2 => ?_)
  · skip
    refine f_know 12 rfl (bool_notT h2) ?_
    refine f_condF rfl ?_
    refine f_skip ?_
    refine f_seq ?_
    refine f_region ?_
    refine f_op rfl rfl (s_mv (v := .sl p1.1.1) rfl) ?_
    refine f_op rfl rfl (s_as (v := .sl p1.1.1) rfl) ?_
    refine f_op rfl rfl (s_as (v := .int .i64 0) rfl) ?_
    refine f_nil ?_
    exact f_ret (.tmp rfl (.tmp rfl (.nil))) rfl
  · skip
    refine f_know 12 rfl (bool_notF h2) ?_
    refine f_condT rfl ?_
    refine f_seq ?_
    refine f_region ?_
    refine f_op rfl rfl (s_as (v := .sl ⟨true, 0, 0, 0, 0, 0⟩) rfl) ?_
    refine f_op rfl rfl (s_as (v := .int .i64 4) rfl) ?_
    refine f_nil ?_
    exact f_ret (.tmp rfl (.tmp rfl (.nil))) rfl

end Go.Lt.P8
