/- PRINTED BY A PROGRAM OF OURS: what each function that 'PairsSpread' reaches computes on the abstract heap, and that the translated code does just that. Nothing is asked of the input. -/
import Derived.Test.YthmhdbmpeepmaaaG12P1
set_option linter.unusedVariables false
set_option linter.unusedSimpArgs false
set_option maxRecDepth 100000
set_option maxHeartbeats 4000000
namespace Go.Lt.P8
open Go Go.Lt Go.Proofs
/- 54 congou/congouref08.IsThrees -/
theorem ok54 : FnOk Try.prog 54 := ⟨⟨Try.f54, Try.func54, by kernel_rfl, rfl⟩⟩
theorem s54_j1 (kt0 : Int → Sl → Nat → Sl → Int → Int → Hp → Option (Bool × Hp)) (hkt0 : ∀ (v1 : Int) (v2 : Sl) (v3 : Nat) (v4 : Sl) (v5 : Int) (v6 : Int) (H : Hp), Fin Try.prog Try.f54 ret54 101 (todoAt (bodyOf Try.f54) [1, 1, 0, 1, 0, 0] []) [(0, .int .i64 v1), (1, .sl v2), (5, .ptr v3 0), (10, .sl v4), (11, .int .i64 v5), (12, .int .i64 v6)] H (kt0 v1 v2 v3 v4 v5 v6 H)) (v1 : Int) (v2 : Sl) (v3 : Nat) (v4 : Nat) (v5 : Sl) (v6 : Int) (v7 : Int) (v8 : Bool) (H : Hp) : Fin Try.prog Try.f54 ret54 101 (todoAt (bodyOf Try.f54) [1, 1, 0, 1, 0, 0, 1, 1, 0, 0, 1, 0, 1] []) [(0, .int .i64 v1), (1, .sl v2), (5, .ptr v3 0), (7, .ptr v4 0), (10, .sl v5), (11, .int .i64 v6), (12, .int .i64 v7), (53, .bool v8)] H (r54_j1 kt0 v1 v2 v3 v4 v5 v6 v7 v8 H) := by
  unfold r54_j1
  refine f_if (fun h1 => ?_) (fun h1 => ?_)
  · skip
    refine f_know 53 rfl (bool_T h1) ?_
    refine f_condT rfl ?_
    refine f_seq ?_
    refine f_region ?_
    refine f_op rfl rfl (s_as (v := .bool false) rfl) ?_
    refine f_nil ?_
    exact f_ret (.tmp rfl (.nil)) rfl
  · skip
    refine f_know 53 rfl (bool_F h1) ?_
    refine f_condF rfl ?_
    refine f_skip ?_
    refine f_seq ?_
    refine f_bind ?_; intro x2 hx2
    refine f_bind ?_; intro x3 hx3
    refine f_ck fun g4 => ?_
    refine f_ck fun g5 => ?_
    refine f_bind ?_; intro x6 hx6
    refine f_ck fun g7 => ?_
    refine f_ck fun g8 => ?_
    refine f_bind ?_; intro H9 hH9
    refine f_draw (Φ := fun _ => True) (lim := 1000000) [0, 1, 0, 1, 0, 0, 1, 0, 0, 0, 2] (Trc.pure rfl rfl rfl (.inl fun _ => s_idxA Try.underlying63 ty3 rfl rfl (by decide)) (Trc.read rfl rfl rfl (s_load Try.underlying3 rfl rfl (ldI_eq hx2)) (Trc.pure rfl rfl rfl (.inl fun _ => s_idxA Try.underlying63 ty3 rfl rfl (by decide)) (Trc.read rfl rfl rfl (s_load Try.underlying3 rfl rfl (ldI_eq hx3)) (Trc.pure rfl rfl rfl (.inl fun _ => s_idxA Try.underlying96 ty95 rfl rfl g4) (Trc.pure rfl rfl rfl (.inl fun _ => s_idxA Try.underlying95 ty3 rfl rfl g5) (Trc.read rfl rfl rfl (s_load Try.underlying3 rfl rfl (ldI_eq hx6)) (Trc.pure rfl rfl rfl (.inl fun _ => s_add rfl rfl) (Trc.pure rfl rfl rfl (.inl fun _ => s_idxA Try.underlying96 ty95 rfl rfl g7) (Trc.pure rfl rfl rfl (.inl fun _ => s_idxA Try.underlying95 ty3 rfl rfl g8) (Trc.eff rfl rfl rfl (fun _ => trivial) (s_store (s := 1) ty3 rfl rfl rfl hH9) (Trc.nil (fun _ => trivial))))))))))))) rfl (by decide +kernel) mixed ?_
    refine f_seq ?_
    refine f_bind ?_; intro x10 hx10
    refine f_bind ?_; intro x11 hx11
    refine f_ck fun g12 => ?_
    refine f_ck fun g13 => ?_
    refine f_bind ?_; intro x14 hx14
    refine f_ck fun g15 => ?_
    refine f_ck fun g16 => ?_
    refine f_bind ?_; intro H17 hH17
    refine f_draw (Φ := fun _ => True) (lim := 1000000) [0, 1, 0, 1, 0, 0, 1, 0, 0, 0, 2] (Trc.pure rfl rfl rfl (.inl fun _ => s_idxA Try.underlying63 ty3 rfl rfl (by decide)) (Trc.read rfl rfl rfl (s_load Try.underlying3 rfl rfl (ldI_eq hx10)) (Trc.pure rfl rfl rfl (.inl fun _ => s_idxA Try.underlying63 ty3 rfl rfl (by decide)) (Trc.read rfl rfl rfl (s_load Try.underlying3 rfl rfl (ldI_eq hx11)) (Trc.pure rfl rfl rfl (.inl fun _ => s_idxA Try.underlying96 ty95 rfl rfl g12) (Trc.pure rfl rfl rfl (.inl fun _ => s_idxA Try.underlying95 ty3 rfl rfl g13) (Trc.read rfl rfl rfl (s_load Try.underlying3 rfl rfl (ldI_eq hx14)) (Trc.pure rfl rfl rfl (.inl fun _ => s_add rfl rfl) (Trc.pure rfl rfl rfl (.inl fun _ => s_idxA Try.underlying96 ty95 rfl rfl g15) (Trc.pure rfl rfl rfl (.inl fun _ => s_idxA Try.underlying95 ty3 rfl rfl g16) (Trc.eff rfl rfl rfl (fun _ => trivial) (s_store (s := 1) ty3 rfl rfl rfl hH17) (Trc.nil (fun _ => trivial))))))))))))) rfl (by decide +kernel) mixed ?_
    refine f_bind ?_; intro x18 hx18
    refine f_bind ?_; intro x19 hx19
    refine f_ck fun g20 => ?_
    refine f_ck fun g21 => ?_
    refine f_bind ?_; intro x22 hx22
    refine f_ck fun g23 => ?_
    refine f_ck fun g24 => ?_
    refine f_bind ?_; intro H25 hH25
    refine f_draw (Φ := fun _ => True) (lim := 1000000) [0, 1, 0, 1, 0, 0, 1, 0, 0, 0, 2] (Trc.pure rfl rfl rfl (.inl fun _ => s_idxA Try.underlying63 ty3 rfl rfl (by decide)) (Trc.read rfl rfl rfl (s_load Try.underlying3 rfl rfl (ldI_eq hx18)) (Trc.pure rfl rfl rfl (.inl fun _ => s_idxA Try.underlying63 ty3 rfl rfl (by decide)) (Trc.read rfl rfl rfl (s_load Try.underlying3 rfl rfl (ldI_eq hx19)) (Trc.pure rfl rfl rfl (.inl fun _ => s_idxA Try.underlying96 ty95 rfl rfl g20) (Trc.pure rfl rfl rfl (.inl fun _ => s_idxA Try.underlying95 ty3 rfl rfl g21) (Trc.read rfl rfl rfl (s_load Try.underlying3 rfl rfl (ldI_eq hx22)) (Trc.pure rfl rfl rfl (.inl fun _ => s_add rfl rfl) (Trc.pure rfl rfl rfl (.inl fun _ => s_idxA Try.underlying96 ty95 rfl rfl g23) (Trc.pure rfl rfl rfl (.inl fun _ => s_idxA Try.underlying95 ty3 rfl rfl g24) (Trc.eff rfl rfl rfl (fun _ => trivial) (s_store (s := 1) ty3 rfl rfl rfl hH25) (Trc.nil (fun _ => trivial))))))))))))) rfl (by decide +kernel) mixed ?_
    refine f_inBlock ?_
    refine f_region ?_
    refine f_op rfl rfl (s_add rfl rfl) ?_
    refine f_op rfl rfl (s_mv (v := .int .i64 (w64 (v7 + 1))) rfl) ?_
    refine f_nil ?_
    refine f_inLoop ?_
    refine f_keep [0, 1, 5, 10, 11, 12] ?_
    exact hkt0 v1 v2 v3 v5 v6 (w64 (v7 + 1)) H25

theorem s54_l3 (kt2 : Nat → Int → Int → Hp → Option (Bool × Hp)) (hkt2 : ∀ (v1 : Nat) (v2 : Int) (v3 : Int) (H : Hp), Fin Try.prog Try.f54 ret54 101 (todoAt (bodyOf Try.f54) [1, 1, 1, 0, 1, 0, 0] []) [(5, .ptr v1 0), (85, .int .i64 v2), (86, .int .i64 v3)] H (kt2 v1 v2 v3 H)) : ∀ (k_ : Nat) (v1 : Nat) (v2 : Int) (v3 : Int) (v4 : Int) (v5 : Int) (v6 : Int) (H : Hp), Fin Try.prog Try.f54 ret54 101 (todoAt (bodyOf Try.f54) [1, 1, 1, 0, 1, 0, 0, 1, 1, 0, 0, 1, 1, 0, 0] []) [(5, .ptr v1 0), (8, .int .i64 v2), (85, .int .i64 v3), (86, .int .i64 v4), (89, .int .i64 v5), (90, .int .i64 v6)] H (r54_l3 kt2 k_ v1 v2 v3 v4 v5 v6 H) := by
  intro k_
  induction k_ with
  | zero => intro _ _ _ _ _ _ _; exact f_none
  | succ k_ ih =>
    intro v1 v2 v3 v4 v5 v6 H
    rw [r54_l3]
    refine f_seq ?_
    refine f_region ?_
    refine f_op rfl rfl (s_lss rfl rfl) ?_
    refine f_nil ?_
    refine f_seq ?_
    refine f_if (fun h1 => ?_) (fun h1 => ?_)
    · skip
      refine f_know 91 rfl (dec_true h1) ?_
      refine f_condT rfl ?_
      refine f_skip ?_
      refine f_seq ?_
      refine f_block ?_
      refine f_seq ?_
      refine f_region ?_
      refine f_op rfl rfl (s_mv (v := .int .i64 v6) rfl) ?_
      refine f_op rfl rfl (s_as (v := .int .i64 v6) rfl) ?_
      refine f_nil ?_
      refine f_seq ?_
      refine f_region ?_
      refine f_op rfl rfl (s_mv (v := .int .i64 v6) rfl) ?_
      refine f_op rfl rfl (s_mv (v := .int .i64 v2) rfl) ?_
      refine o_ck fun g2 => ?_
      refine f_op rfl rfl (s_idxA Try.underlying96 ty95 rfl rfl g2) ?_
      refine o_ck fun g3 => ?_
      refine f_op rfl rfl (s_idxA Try.underlying95 ty3 rfl rfl g3) ?_
      refine o_bind ?_; intro x4 hx4
      refine f_op rfl rfl (s_load Try.underlying3 rfl rfl (ldI_eq hx4)) ?_
      refine f_op rfl rfl (s_neq rfl rfl) ?_
      refine f_nil ?_
      refine f_if (fun h5 => ?_) (fun h5 => ?_)
      · skip
        refine f_know 98 rfl (dec_true h5) ?_
        refine f_condT rfl ?_
        refine f_seq ?_
        refine f_region ?_
        refine f_op rfl rfl (s_as (v := .bool false) rfl) ?_
        refine f_nil ?_
        exact f_ret (.tmp rfl (.nil)) rfl
      · skip
        refine f_know 98 rfl (dec_false h5) ?_
        refine f_condF rfl ?_
        refine f_skip ?_
        refine f_inBlock ?_
        refine f_region ?_
        refine f_op rfl rfl (s_add rfl rfl) ?_
        refine f_op rfl rfl (s_mv (v := .int .i64 (w64 (v6 + 1))) rfl) ?_
        refine f_nil ?_
        refine f_inLoop ?_
        refine f_keep [5, 8, 85, 86, 89, 90] ?_
        exact ih v1 v2 v3 v4 v5 (w64 (v6 + 1)) H
    · skip
      refine f_know 91 rfl (dec_false h1) ?_
      refine f_condF rfl ?_
      refine f_exit rfl ?_
      refine f_inBlock ?_
      refine f_region ?_
      refine f_op rfl rfl (s_add rfl rfl) ?_
      refine f_op rfl rfl (s_mv (v := .int .i64 (w64 (v4 + 1))) rfl) ?_
      refine f_nil ?_
      refine f_inLoop ?_
      refine f_keep [5, 85, 86] ?_
      exact hkt2 v1 v3 (w64 (v4 + 1)) H

theorem s54_l2 : ∀ (k_ : Nat) (v1 : Nat) (v2 : Int) (v3 : Int) (H : Hp), Fin Try.prog Try.f54 ret54 101 (todoAt (bodyOf Try.f54) [1, 1, 1, 0, 1, 0, 0] []) [(5, .ptr v1 0), (85, .int .i64 v2), (86, .int .i64 v3)] H (r54_l2 k_ v1 v2 v3 H) := by
  intro k_
  induction k_ with
  | zero => intro _ _ _ _; exact f_none
  | succ k_ ih =>
    intro v1 v2 v3 H
    rw [r54_l2]
    refine f_seq ?_
    refine f_region ?_
    refine f_op rfl rfl (s_lss rfl rfl) ?_
    refine f_nil ?_
    refine f_seq ?_
    refine f_if (fun h1 => ?_) (fun h1 => ?_)
    · skip
      refine f_know 87 rfl (dec_true h1) ?_
      refine f_condT rfl ?_
      refine f_skip ?_
      refine f_seq ?_
      refine f_block ?_
      refine f_seq ?_
      refine f_region ?_
      refine f_op rfl rfl (s_mv (v := .int .i64 v3) rfl) ?_
      refine f_op rfl rfl (s_as (v := .int .i64 v3) rfl) ?_
      refine f_nil ?_
      refine f_seq ?_
      refine f_region ?_
      refine f_op rfl rfl (s_mv (v := .int .i64 v3) rfl) ?_
      refine f_op rfl rfl (s_mv (v := .int .i64 0) rfl) ?_
      refine f_nil ?_
      refine f_block ?_
      refine f_loop ?_
      refine f_keep [5, 8, 85, 86, 89, 90] ?_
      exact s54_l3 _ (fun v1_ v2_ v3_ H_ => ih v1_ v2_ v3_ H_) FUEL v1 v3 v2 v3 v3 0 H
    · skip
      refine f_know 87 rfl (dec_false h1) ?_
      refine f_condF rfl ?_
      refine f_exit rfl ?_
      refine f_seq ?_
      refine f_region ?_
      refine f_op rfl rfl (s_as (v := .bool true) rfl) ?_
      refine f_nil ?_
      exact f_ret (.tmp rfl (.nil)) rfl

theorem s54_l0 : ∀ (k_ : Nat) (v1 : Int) (v2 : Sl) (v3 : Nat) (v4 : Sl) (v5 : Int) (v6 : Int) (H : Hp), Fin Try.prog Try.f54 ret54 101 (todoAt (bodyOf Try.f54) [1, 1, 0, 1, 0, 0] []) [(0, .int .i64 v1), (1, .sl v2), (5, .ptr v3 0), (10, .sl v4), (11, .int .i64 v5), (12, .int .i64 v6)] H (r54_l0 k_ v1 v2 v3 v4 v5 v6 H) := by
  intro k_
  induction k_ with
  | zero => intro _ _ _ _ _ _ _; exact f_none
  | succ k_ ih =>
    intro v1 v2 v3 v4 v5 v6 H
    rw [r54_l0]
    refine f_seq ?_
    refine f_region ?_
    refine f_op rfl rfl (s_lss rfl rfl) ?_
    refine f_nil ?_
    refine f_seq ?_
    refine f_if (fun h1 => ?_) (fun h1 => ?_)
    · skip
      refine f_know 13 rfl (dec_true h1) ?_
      refine f_condT rfl ?_
      refine f_skip ?_
      refine f_seq ?_
      refine f_block ?_
      refine f_seq ?_
      refine f_region ?_
      refine f_op rfl rfl (s_mv (v := .int .i64 v6) rfl) ?_
      refine o_ck fun g2 => ?_
      refine f_op rfl rfl (s_idx Try.underlying58 ty63 rfl rfl g2) ?_
      refine o_bind ?_; intro x3 hx3
      refine o_bind ?_; intro x4 hx4
      refine o_bind ?_; intro x5 hx5
      refine f_op rfl rfl (s_loads Try.underlying63 rfl ty63 rfl (lds_cons (ldI_eq hx3) (lds_cons (ldI_eq hx4) (lds_cons (ldI_eq hx5) (lds_nil))))) ?_
      refine f_op rfl rfl (s_alloc (zs := [.int .i64 0, .int .i64 0, .int .i64 0]) ty63 rfl rfl) ?_
      refine f_op rfl rfl (s_as (v := .int .i64 v6) rfl) ?_
      refine o_bind ?_; intro H6 hH6
      refine f_op rfl rfl (s_stores ty63 rfl rfl rfl rfl hH6 (Nat.le_of_eq (sts_mono hH6).symm)) ?_
      refine f_nil ?_
      refine f_seq ?_
      refine f_seq ?_
      refine f_bind ?_; intro x7 hx7
      refine f_if (fun h8 => ?_) (fun h8 => ?_)
      · skip
        refine f_draw (Φ := fun _ => True) (lim := 1000000) [0, 1, 0, 0, 0, 0, 0, 0, 0, 0, 0, 0, 0, 0, 0, 0, 0, 0, 0, 0, 0, 0, 0, 0, 0, 0, 0, 0, 0, 0, 0, 0, 0, 0, 0, 0, 0] (Trc.pure rfl rfl rfl (.inl fun _ => s_idxA Try.underlying63 ty3 rfl rfl (by decide)) (Trc.read rfl rfl rfl (s_load Try.underlying3 rfl rfl (ldI_eq hx7)) (Trc.pure rfl rfl rfl (.inl fun _ => s_lss rfl rfl) (Trc.pure rfl rfl rfl (.inl fun _ => s_mv (v := .bool (decide (x7 < 0))) rfl) (Trc.know 20 rfl (dec_true h8) (Trc.no rfl rfl rfl (Trc.no rfl rfl rfl (Trc.no rfl rfl rfl (Trc.no rfl rfl rfl (Trc.no rfl rfl rfl (Trc.pure rfl rfl rfl (.inl fun _ => s_pickT (v := .bool true) rfl rfl) (Trc.pure rfl rfl rfl (.inl fun _ => s_mv (v := .bool true) rfl) (Trc.no rfl rfl rfl (Trc.no rfl rfl rfl (Trc.no rfl rfl rfl (Trc.no rfl rfl rfl (Trc.no rfl rfl rfl (Trc.pure rfl rfl rfl (.inl fun _ => s_pickT (v := .bool true) rfl rfl) (Trc.pure rfl rfl rfl (.inl fun _ => s_mv (v := .bool true) rfl) (Trc.no rfl rfl rfl (Trc.no rfl rfl rfl (Trc.no rfl rfl rfl (Trc.no rfl rfl rfl (Trc.pure rfl rfl rfl (.inl fun _ => s_pickT (v := .bool true) rfl rfl) (Trc.pure rfl rfl rfl (.inl fun _ => s_mv (v := .bool true) rfl) (Trc.no rfl rfl rfl (Trc.no rfl rfl rfl (Trc.no rfl rfl rfl (Trc.no rfl rfl rfl (Trc.no rfl rfl rfl (Trc.no rfl rfl rfl (Trc.no rfl rfl rfl (Trc.no rfl rfl rfl (Trc.no rfl rfl rfl (Trc.no rfl rfl rfl (Trc.no rfl rfl rfl (Trc.no rfl rfl rfl (Trc.pure rfl rfl rfl (.inl fun _ => s_pickT (v := .bool true) rfl rfl) (Trc.nil (fun _ => trivial)))))))))))))))))))))))))))))))))))))))) rfl (by decide +kernel) mixed ?_
        refine f_keep [0, 1, 5, 7, 10, 11, 12, 53] ?_
        exact s54_j1 _ (fun v1_ v2_ v3_ v4_ v5_ v6_ H_ => ih v1_ v2_ v3_ v4_ v5_ v6_ H_) v1 v2 v3 H.n v4 v5 v6 true H6
      · skip
        refine f_bind ?_; intro x9 hx9
        refine f_bind ?_; intro x10 hx10
        refine f_if (fun h11 => ?_) (fun h11 => ?_)
        · skip
          refine f_draw (Φ := fun _ => True) (lim := 1000000) [0, 1, 0, 0, 0, 1, 0, 1, 0, 0, 0, 0, 0, 0, 0, 0, 0, 0, 0, 0, 0, 0, 0, 0, 0, 0, 0, 0, 0, 0, 0, 0, 0, 0, 0, 0, 0] (Trc.pure rfl rfl rfl (.inl fun _ => s_idxA Try.underlying63 ty3 rfl rfl (by decide)) (Trc.read rfl rfl rfl (s_load Try.underlying3 rfl rfl (ldI_eq hx7)) (Trc.pure rfl rfl rfl (.inl fun _ => s_lss rfl rfl) (Trc.pure rfl rfl rfl (.inl fun _ => s_mv (v := .bool (decide (x7 < 0))) rfl) (Trc.know 20 rfl (dec_false h8) (Trc.pure rfl rfl rfl (.inl fun _ => s_idxA Try.underlying63 ty3 rfl rfl (by decide)) (Trc.read rfl rfl rfl (s_load Try.underlying3 rfl rfl (ldI_eq hx9)) (Trc.pure rfl rfl rfl (.inl fun _ => s_idxA Try.underlying63 ty3 rfl rfl (by decide)) (Trc.read rfl rfl rfl (s_load Try.underlying3 rfl rfl (ldI_eq hx10)) (Trc.pure rfl rfl rfl (.inl fun _ => s_geq rfl rfl) (Trc.pure rfl rfl rfl (.inl fun _ => s_pickF (v := .bool (decide (x10 ≤ x9))) rfl rfl) (Trc.pure rfl rfl rfl (.inl fun _ => s_mv (v := .bool (decide (x10 ≤ x9))) rfl) (Trc.know 27 rfl (dec_true h11) (Trc.no rfl rfl rfl (Trc.no rfl rfl rfl (Trc.no rfl rfl rfl (Trc.no rfl rfl rfl (Trc.no rfl rfl rfl (Trc.pure rfl rfl rfl (.inl fun _ => s_pickT (v := .bool true) rfl rfl) (Trc.pure rfl rfl rfl (.inl fun _ => s_mv (v := .bool true) rfl) (Trc.no rfl rfl rfl (Trc.no rfl rfl rfl (Trc.no rfl rfl rfl (Trc.no rfl rfl rfl (Trc.pure rfl rfl rfl (.inl fun _ => s_pickT (v := .bool true) rfl rfl) (Trc.pure rfl rfl rfl (.inl fun _ => s_mv (v := .bool true) rfl) (Trc.no rfl rfl rfl (Trc.no rfl rfl rfl (Trc.no rfl rfl rfl (Trc.no rfl rfl rfl (Trc.no rfl rfl rfl (Trc.no rfl rfl rfl (Trc.no rfl rfl rfl (Trc.no rfl rfl rfl (Trc.no rfl rfl rfl (Trc.no rfl rfl rfl (Trc.no rfl rfl rfl (Trc.no rfl rfl rfl (Trc.pure rfl rfl rfl (.inl fun _ => s_pickT (v := .bool true) rfl rfl) (Trc.nil (fun _ => trivial))))))))))))))))))))))))))))))))))))))))) rfl (by decide +kernel) mixed ?_
          refine f_keep [0, 1, 5, 7, 10, 11, 12, 53] ?_
          exact s54_j1 _ (fun v1_ v2_ v3_ v4_ v5_ v6_ H_ => ih v1_ v2_ v3_ v4_ v5_ v6_ H_) v1 v2 v3 H.n v4 v5 v6 true H6
        · skip
          refine f_bind ?_; intro x12 hx12
          refine f_bind ?_; intro x13 hx13
          refine f_if (fun h14 => ?_) (fun h14 => ?_)
          · skip
            refine f_draw (Φ := fun _ => True) (lim := 1000000) [0, 1, 0, 0, 0, 1, 0, 1, 0, 0, 0, 0, 1, 0, 1, 0, 0, 0, 0, 0, 0, 0, 0, 0, 0, 0, 0, 0, 0, 0, 0, 0, 0, 0, 0, 0, 0] (Trc.pure rfl rfl rfl (.inl fun _ => s_idxA Try.underlying63 ty3 rfl rfl (by decide)) (Trc.read rfl rfl rfl (s_load Try.underlying3 rfl rfl (ldI_eq hx7)) (Trc.pure rfl rfl rfl (.inl fun _ => s_lss rfl rfl) (Trc.pure rfl rfl rfl (.inl fun _ => s_mv (v := .bool (decide (x7 < 0))) rfl) (Trc.know 20 rfl (dec_false h8) (Trc.pure rfl rfl rfl (.inl fun _ => s_idxA Try.underlying63 ty3 rfl rfl (by decide)) (Trc.read rfl rfl rfl (s_load Try.underlying3 rfl rfl (ldI_eq hx9)) (Trc.pure rfl rfl rfl (.inl fun _ => s_idxA Try.underlying63 ty3 rfl rfl (by decide)) (Trc.read rfl rfl rfl (s_load Try.underlying3 rfl rfl (ldI_eq hx10)) (Trc.pure rfl rfl rfl (.inl fun _ => s_geq rfl rfl) (Trc.pure rfl rfl rfl (.inl fun _ => s_pickF (v := .bool (decide (x10 ≤ x9))) rfl rfl) (Trc.pure rfl rfl rfl (.inl fun _ => s_mv (v := .bool (decide (x10 ≤ x9))) rfl) (Trc.know 27 rfl (dec_false h11) (Trc.pure rfl rfl rfl (.inl fun _ => s_idxA Try.underlying63 ty3 rfl rfl (by decide)) (Trc.read rfl rfl rfl (s_load Try.underlying3 rfl rfl (ldI_eq hx12)) (Trc.pure rfl rfl rfl (.inl fun _ => s_idxA Try.underlying63 ty3 rfl rfl (by decide)) (Trc.read rfl rfl rfl (s_load Try.underlying3 rfl rfl (ldI_eq hx13)) (Trc.pure rfl rfl rfl (.inl fun _ => s_geq rfl rfl) (Trc.pure rfl rfl rfl (.inl fun _ => s_pickF (v := .bool (decide (x13 ≤ x12))) rfl rfl) (Trc.pure rfl rfl rfl (.inl fun _ => s_mv (v := .bool (decide (x13 ≤ x12))) rfl) (Trc.know 34 rfl (dec_true h14) (Trc.no rfl rfl rfl (Trc.no rfl rfl rfl (Trc.no rfl rfl rfl (Trc.no rfl rfl rfl (Trc.pure rfl rfl rfl (.inl fun _ => s_pickT (v := .bool true) rfl rfl) (Trc.pure rfl rfl rfl (.inl fun _ => s_mv (v := .bool true) rfl) (Trc.no rfl rfl rfl (Trc.no rfl rfl rfl (Trc.no rfl rfl rfl (Trc.no rfl rfl rfl (Trc.no rfl rfl rfl (Trc.no rfl rfl rfl (Trc.no rfl rfl rfl (Trc.no rfl rfl rfl (Trc.no rfl rfl rfl (Trc.no rfl rfl rfl (Trc.no rfl rfl rfl (Trc.no rfl rfl rfl (Trc.pure rfl rfl rfl (.inl fun _ => s_pickT (v := .bool true) rfl rfl) (Trc.nil (fun _ => trivial)))))))))))))))))))))))))))))))))))))))))) rfl (by decide +kernel) mixed ?_
            refine f_keep [0, 1, 5, 7, 10, 11, 12, 53] ?_
            exact s54_j1 _ (fun v1_ v2_ v3_ v4_ v5_ v6_ H_ => ih v1_ v2_ v3_ v4_ v5_ v6_ H_) v1 v2 v3 H.n v4 v5 v6 true H6
          · skip
            refine f_bind ?_; intro x15 hx15
            refine f_if (fun h16 => ?_) (fun h16 => ?_)
            · skip
              refine f_draw (Φ := fun _ => True) (lim := 1000000) [0, 1, 0, 0, 0, 1, 0, 1, 0, 0, 0, 0, 1, 0, 1, 0, 0, 0, 0, 1, 0, 0, 0, 0, 0, 0, 0, 0, 0, 0, 0, 0, 0, 0, 0, 0, 0] (Trc.pure rfl rfl rfl (.inl fun _ => s_idxA Try.underlying63 ty3 rfl rfl (by decide)) (Trc.read rfl rfl rfl (s_load Try.underlying3 rfl rfl (ldI_eq hx7)) (Trc.pure rfl rfl rfl (.inl fun _ => s_lss rfl rfl) (Trc.pure rfl rfl rfl (.inl fun _ => s_mv (v := .bool (decide (x7 < 0))) rfl) (Trc.know 20 rfl (dec_false h8) (Trc.pure rfl rfl rfl (.inl fun _ => s_idxA Try.underlying63 ty3 rfl rfl (by decide)) (Trc.read rfl rfl rfl (s_load Try.underlying3 rfl rfl (ldI_eq hx9)) (Trc.pure rfl rfl rfl (.inl fun _ => s_idxA Try.underlying63 ty3 rfl rfl (by decide)) (Trc.read rfl rfl rfl (s_load Try.underlying3 rfl rfl (ldI_eq hx10)) (Trc.pure rfl rfl rfl (.inl fun _ => s_geq rfl rfl) (Trc.pure rfl rfl rfl (.inl fun _ => s_pickF (v := .bool (decide (x10 ≤ x9))) rfl rfl) (Trc.pure rfl rfl rfl (.inl fun _ => s_mv (v := .bool (decide (x10 ≤ x9))) rfl) (Trc.know 27 rfl (dec_false h11) (Trc.pure rfl rfl rfl (.inl fun _ => s_idxA Try.underlying63 ty3 rfl rfl (by decide)) (Trc.read rfl rfl rfl (s_load Try.underlying3 rfl rfl (ldI_eq hx12)) (Trc.pure rfl rfl rfl (.inl fun _ => s_idxA Try.underlying63 ty3 rfl rfl (by decide)) (Trc.read rfl rfl rfl (s_load Try.underlying3 rfl rfl (ldI_eq hx13)) (Trc.pure rfl rfl rfl (.inl fun _ => s_geq rfl rfl) (Trc.pure rfl rfl rfl (.inl fun _ => s_pickF (v := .bool (decide (x13 ≤ x12))) rfl rfl) (Trc.pure rfl rfl rfl (.inl fun _ => s_mv (v := .bool (decide (x13 ≤ x12))) rfl) (Trc.know 34 rfl (dec_false h14) (Trc.pure rfl rfl rfl (.inl fun _ => s_idxA Try.underlying63 ty3 rfl rfl (by decide)) (Trc.read rfl rfl rfl (s_load Try.underlying3 rfl rfl (ldI_eq hx15)) (Trc.pure rfl rfl rfl (.inl fun _ => s_mv (v := .int .i64 v1) rfl) (Trc.pure rfl rfl rfl (.inl fun _ => s_geq rfl rfl) (Trc.pure rfl rfl rfl (.inl fun _ => s_pickF (v := .bool (decide (v1 ≤ x15))) rfl rfl) (Trc.pure rfl rfl rfl (.inl fun _ => s_mv (v := .bool (decide (v1 ≤ x15))) rfl) (Trc.know 40 rfl (dec_true h16) (Trc.no rfl rfl rfl (Trc.no rfl rfl rfl (Trc.no rfl rfl rfl (Trc.no rfl rfl rfl (Trc.no rfl rfl rfl (Trc.no rfl rfl rfl (Trc.no rfl rfl rfl (Trc.no rfl rfl rfl (Trc.no rfl rfl rfl (Trc.no rfl rfl rfl (Trc.no rfl rfl rfl (Trc.no rfl rfl rfl (Trc.pure rfl rfl rfl (.inl fun _ => s_pickT (v := .bool true) rfl rfl) (Trc.nil (fun _ => trivial))))))))))))))))))))))))))))))))))))))))))) rfl (by decide +kernel) mixed ?_
              refine f_keep [0, 1, 5, 7, 10, 11, 12, 53] ?_
              exact s54_j1 _ (fun v1_ v2_ v3_ v4_ v5_ v6_ H_ => ih v1_ v2_ v3_ v4_ v5_ v6_ H_) v1 v2 v3 H.n v4 v5 v6 true H6
            · skip
              refine f_if (fun h17 => ?_) (fun h17 => ?_)
              · skip
                refine f_ck fun g18 => ?_
                refine f_bind ?_; intro x19 hx19
                refine f_bind ?_; intro x20 hx20
                refine f_bind ?_; intro x21 hx21
                refine f_bind ?_; intro x22 hx22
                refine f_bind ?_; intro x23 hx23
                refine f_bind ?_; intro x24 hx24
                refine f_bind ?_; intro p25 hp25
                refine f_draw (Φ := fun _ => True) (lim := 1000000) [0, 1, 0, 0, 0, 1, 0, 1, 0, 0, 0, 0, 1, 0, 1, 0, 0, 0, 0, 1, 0, 0, 0, 0, 0, 0, 0, 0, 0, 0, 0, 1, 1, 2, 0, 0, 0] (Trc.pure rfl rfl rfl (.inl fun _ => s_idxA Try.underlying63 ty3 rfl rfl (by decide)) (Trc.read rfl rfl rfl (s_load Try.underlying3 rfl rfl (ldI_eq hx7)) (Trc.pure rfl rfl rfl (.inl fun _ => s_lss rfl rfl) (Trc.pure rfl rfl rfl (.inl fun _ => s_mv (v := .bool (decide (x7 < 0))) rfl) (Trc.know 20 rfl (dec_false h8) (Trc.pure rfl rfl rfl (.inl fun _ => s_idxA Try.underlying63 ty3 rfl rfl (by decide)) (Trc.read rfl rfl rfl (s_load Try.underlying3 rfl rfl (ldI_eq hx9)) (Trc.pure rfl rfl rfl (.inl fun _ => s_idxA Try.underlying63 ty3 rfl rfl (by decide)) (Trc.read rfl rfl rfl (s_load Try.underlying3 rfl rfl (ldI_eq hx10)) (Trc.pure rfl rfl rfl (.inl fun _ => s_geq rfl rfl) (Trc.pure rfl rfl rfl (.inl fun _ => s_pickF (v := .bool (decide (x10 ≤ x9))) rfl rfl) (Trc.pure rfl rfl rfl (.inl fun _ => s_mv (v := .bool (decide (x10 ≤ x9))) rfl) (Trc.know 27 rfl (dec_false h11) (Trc.pure rfl rfl rfl (.inl fun _ => s_idxA Try.underlying63 ty3 rfl rfl (by decide)) (Trc.read rfl rfl rfl (s_load Try.underlying3 rfl rfl (ldI_eq hx12)) (Trc.pure rfl rfl rfl (.inl fun _ => s_idxA Try.underlying63 ty3 rfl rfl (by decide)) (Trc.read rfl rfl rfl (s_load Try.underlying3 rfl rfl (ldI_eq hx13)) (Trc.pure rfl rfl rfl (.inl fun _ => s_geq rfl rfl) (Trc.pure rfl rfl rfl (.inl fun _ => s_pickF (v := .bool (decide (x13 ≤ x12))) rfl rfl) (Trc.pure rfl rfl rfl (.inl fun _ => s_mv (v := .bool (decide (x13 ≤ x12))) rfl) (Trc.know 34 rfl (dec_false h14) (Trc.pure rfl rfl rfl (.inl fun _ => s_idxA Try.underlying63 ty3 rfl rfl (by decide)) (Trc.read rfl rfl rfl (s_load Try.underlying3 rfl rfl (ldI_eq hx15)) (Trc.pure rfl rfl rfl (.inl fun _ => s_mv (v := .int .i64 v1) rfl) (Trc.pure rfl rfl rfl (.inl fun _ => s_geq rfl rfl) (Trc.pure rfl rfl rfl (.inl fun _ => s_pickF (v := .bool (decide (v1 ≤ x15))) rfl rfl) (Trc.pure rfl rfl rfl (.inl fun _ => s_mv (v := .bool (decide (v1 ≤ x15))) rfl) (Trc.know 40 rfl (dec_false h16) (Trc.pure rfl rfl rfl (.inl fun _ => s_mv (v := .int .i64 v6) rfl) (Trc.pure rfl rfl rfl (.inl fun _ => s_gtr rfl rfl) (Trc.pure rfl rfl rfl (.inl fun _ => s_mv (v := .bool (decide (0 < v6))) rfl) (Trc.know 43 rfl (dec_true h17) (Trc.pure rfl rfl rfl (.inl fun _ => s_mv (v := .sl v2) rfl) (Trc.pure rfl rfl rfl (.inl fun _ => s_mv (v := .int .i64 v6) rfl) (Trc.pure rfl rfl rfl (.inl fun _ => s_sub rfl rfl) (Trc.pure rfl rfl rfl (.inl fun _ => s_idx Try.underlying58 ty63 rfl rfl g18) (Trc.read rfl rfl rfl (s_loads Try.underlying63 rfl ty63 rfl (lds_cons (ldI_eq hx19) (lds_cons (ldI_eq hx20) (lds_cons (ldI_eq hx21) (lds_nil))))) (Trc.read rfl rfl rfl (s_loads Try.underlying63 rfl ty63 rfl (lds_cons (ldI_eq hx22) (lds_cons (ldI_eq hx23) (lds_cons (ldI_eq hx24) (lds_nil))))) (Trc.eff rfl rfl rfl (fun _ => trivial) (s_callF rfl ok92 (sim92 hp25)) (Trc.pure rfl rfl rfl (.inl fun _ => s_not rfl) (Trc.pure rfl rfl rfl (.inl fun _ => s_pickT (v := .bool (!p25.1)) rfl rfl) (Trc.pure rfl rfl rfl (.inl fun _ => s_pickF (v := .bool (!p25.1)) rfl rfl) (Trc.nil (fun _ => trivial)))))))))))))))))))))))))))))))))))))))))))) rfl (by decide +kernel) mixed ?_
                refine f_keep [0, 1, 5, 7, 10, 11, 12, 53] ?_
                exact s54_j1 _ (fun v1_ v2_ v3_ v4_ v5_ v6_ H_ => ih v1_ v2_ v3_ v4_ v5_ v6_ H_) v1 v2 v3 H.n v4 v5 v6 (!p25.1) p25.2
              · skip
                refine f_draw (Φ := fun _ => True) (lim := 1000000) [0, 1, 0, 0, 0, 1, 0, 1, 0, 0, 0, 0, 1, 0, 1, 0, 0, 0, 0, 1, 0, 0, 0, 0, 0, 0, 0, 0, 0, 0, 0, 0, 0, 0, 0, 0, 0] (Trc.pure rfl rfl rfl (.inl fun _ => s_idxA Try.underlying63 ty3 rfl rfl (by decide)) (Trc.read rfl rfl rfl (s_load Try.underlying3 rfl rfl (ldI_eq hx7)) (Trc.pure rfl rfl rfl (.inl fun _ => s_lss rfl rfl) (Trc.pure rfl rfl rfl (.inl fun _ => s_mv (v := .bool (decide (x7 < 0))) rfl) (Trc.know 20 rfl (dec_false h8) (Trc.pure rfl rfl rfl (.inl fun _ => s_idxA Try.underlying63 ty3 rfl rfl (by decide)) (Trc.read rfl rfl rfl (s_load Try.underlying3 rfl rfl (ldI_eq hx9)) (Trc.pure rfl rfl rfl (.inl fun _ => s_idxA Try.underlying63 ty3 rfl rfl (by decide)) (Trc.read rfl rfl rfl (s_load Try.underlying3 rfl rfl (ldI_eq hx10)) (Trc.pure rfl rfl rfl (.inl fun _ => s_geq rfl rfl) (Trc.pure rfl rfl rfl (.inl fun _ => s_pickF (v := .bool (decide (x10 ≤ x9))) rfl rfl) (Trc.pure rfl rfl rfl (.inl fun _ => s_mv (v := .bool (decide (x10 ≤ x9))) rfl) (Trc.know 27 rfl (dec_false h11) (Trc.pure rfl rfl rfl (.inl fun _ => s_idxA Try.underlying63 ty3 rfl rfl (by decide)) (Trc.read rfl rfl rfl (s_load Try.underlying3 rfl rfl (ldI_eq hx12)) (Trc.pure rfl rfl rfl (.inl fun _ => s_idxA Try.underlying63 ty3 rfl rfl (by decide)) (Trc.read rfl rfl rfl (s_load Try.underlying3 rfl rfl (ldI_eq hx13)) (Trc.pure rfl rfl rfl (.inl fun _ => s_geq rfl rfl) (Trc.pure rfl rfl rfl (.inl fun _ => s_pickF (v := .bool (decide (x13 ≤ x12))) rfl rfl) (Trc.pure rfl rfl rfl (.inl fun _ => s_mv (v := .bool (decide (x13 ≤ x12))) rfl) (Trc.know 34 rfl (dec_false h14) (Trc.pure rfl rfl rfl (.inl fun _ => s_idxA Try.underlying63 ty3 rfl rfl (by decide)) (Trc.read rfl rfl rfl (s_load Try.underlying3 rfl rfl (ldI_eq hx15)) (Trc.pure rfl rfl rfl (.inl fun _ => s_mv (v := .int .i64 v1) rfl) (Trc.pure rfl rfl rfl (.inl fun _ => s_geq rfl rfl) (Trc.pure rfl rfl rfl (.inl fun _ => s_pickF (v := .bool (decide (v1 ≤ x15))) rfl rfl) (Trc.pure rfl rfl rfl (.inl fun _ => s_mv (v := .bool (decide (v1 ≤ x15))) rfl) (Trc.know 40 rfl (dec_false h16) (Trc.pure rfl rfl rfl (.inl fun _ => s_mv (v := .int .i64 v6) rfl) (Trc.pure rfl rfl rfl (.inl fun _ => s_gtr rfl rfl) (Trc.pure rfl rfl rfl (.inl fun _ => s_mv (v := .bool (decide (0 < v6))) rfl) (Trc.know 43 rfl (dec_false h17) (Trc.no rfl rfl rfl (Trc.no rfl rfl rfl (Trc.no rfl rfl rfl (Trc.no rfl rfl rfl (Trc.no rfl rfl rfl (Trc.no rfl rfl rfl (Trc.no rfl rfl rfl (Trc.no rfl rfl rfl (Trc.pure rfl rfl rfl (.inl fun _ => s_pickF (v := .bool false) rfl rfl) (Trc.pure rfl rfl rfl (.inl fun _ => s_pickF (v := .bool false) rfl rfl) (Trc.nil (fun _ => trivial)))))))))))))))))))))))))))))))))))))))))))) rfl (by decide +kernel) mixed ?_
                refine f_keep [0, 1, 5, 7, 10, 11, 12, 53] ?_
                exact s54_j1 _ (fun v1_ v2_ v3_ v4_ v5_ v6_ H_ => ih v1_ v2_ v3_ v4_ v5_ v6_ H_) v1 v2 v3 H.n v4 v5 v6 false H6
    · skip
      refine f_know 13 rfl (dec_false h1) ?_
      refine f_condF rfl ?_
      refine f_exit rfl ?_
      refine f_seq ?_
      refine f_seq ?_
      refine f_region ?_
      refine f_op rfl rfl (s_mv (v := .int .i64 v1) rfl) ?_
      refine f_op rfl rfl (s_mv (v := .int .i64 0) rfl) ?_
      refine f_nil ?_
      refine f_block ?_
      refine f_loop ?_
      refine f_keep [5, 85, 86] ?_
      exact s54_l2 FUEL v3 v1 0 H

theorem sim54 {a0 : Int} {a1 : Sl} {H : Hp} {p : Bool × Hp} (h : r54 a0 a1 H = some p) : CallSim Try.prog 54 [.int .i64 a0, .sl a1] H (.bool p.1) p.2 := by
  refine callSim (fn := Try.f54) (ret := ret54) Try.func54 rfl Try.ntmps54 rfl ?_ h
  unfold r54
  refine f_seq ?_
  refine f_region ?_
  refine f_op rfl rfl (s_as (v := .bool false) rfl) ?_
  refine f_nil ?_
  refine f_seq ?_
  refine f_region ?_
  refine f_op rfl rfl (s_alloc (zs := [.int .i64 0, .int .i64 0, .int .i64 0, .int .i64 0, .int .i64 0, .int .i64 0, .int .i64 0, .int .i64 0, .int .i64 0, .int .i64 0, .int .i64 0, .int .i64 0, .int .i64 0, .int .i64 0, .int .i64 0, .int .i64 0, .int .i64 0, .int .i64 0, .int .i64 0, .int .i64 0, .int .i64 0, .int .i64 0, .int .i64 0, .int .i64 0, .int .i64 0, .int .i64 0, .int .i64 0, .int .i64 0, .int .i64 0, .int .i64 0, .int .i64 0, .int .i64 0, .int .i64 0, .int .i64 0, .int .i64 0, .int .i64 0, .int .i64 0, .int .i64 0, .int .i64 0, .int .i64 0, .int .i64 0, .int .i64 0, .int .i64 0, .int .i64 0, .int .i64 0, .int .i64 0, .int .i64 0, .int .i64 0, .int .i64 0, .int .i64 0, .int .i64 0, .int .i64 0, .int .i64 0, .int .i64 0, .int .i64 0, .int .i64 0, .int .i64 0, .int .i64 0, .int .i64 0, .int .i64 0, .int .i64 0, .int .i64 0, .int .i64 0, .int .i64 0, .int .i64 0, .int .i64 0, .int .i64 0, .int .i64 0, .int .i64 0, .int .i64 0, .int .i64 0, .int .i64 0, .int .i64 0, .int .i64 0, .int .i64 0, .int .i64 0, .int .i64 0, .int .i64 0, .int .i64 0, .int .i64 0, .int .i64 0]) ty96 rfl rfl) ?_
  refine o_hp ?_; intro H1 hH1
  refine f_nil ?_
  refine f_seq ?_
  refine f_seq ?_
  refine f_region ?_
  refine f_op rfl rfl (s_mv (v := .sl a1) rfl) ?_
  refine f_op rfl rfl (s_lenS rfl Try.underlying58 rfl) ?_
  refine f_op rfl rfl (s_mv (v := .int .i64 0) rfl) ?_
  refine f_nil ?_
  refine f_block ?_
  refine f_loop ?_
  refine f_keep [0, 1, 5, 10, 11, 12] ?_
  exact s54_l0 FUEL a0 a1 H.n a1 (a1.len : Int) 0 H1

end Go.Lt.P8
