/- PRINTED BY A PROGRAM OF OURS: what each function that 'CutsMoved' reaches computes on the abstract heap, and that the translated code does just that. Nothing is asked of the input. -/
import Derived.Test.YteefkljbmjjncaaG16P4
set_option linter.unusedVariables false
set_option linter.unusedSimpArgs false
set_option maxRecDepth 100000
set_option maxHeartbeats 4000000
namespace Go.Lt.P2
open Go Go.Lt Go.Proofs
/- 119 slices.partialInsertionSortCmpFunc[congou/cuts.Point] -/
theorem ok119 : FnOk Try.prog 119 := ⟨⟨Try.f119, Try.func119, by kernel_rfl, rfl⟩⟩
theorem s119_l3 {app : App} (happ : AppSim Try.prog app) (kt0 : Sl → Int → Int → AV → Int → Int → Hp → Option (Bool × Hp)) (hkt0 : ∀ (v1 : Sl) (v2 : Int) (v3 : Int) (v4 : AV) (v5 : Int) (v6 : Int) (H : Hp), Fin Try.prog Try.f119 ret119 141 (todoAt (bodyOf Try.f119) [1, 1, 0, 1, 0, 0] []) [(0, .sl v1), (1, .int .i64 v2), (2, .int .i64 v3), (3, v4), (9, .int .i64 v5), (10, .int .i64 v6)] H (kt0 v1 v2 v3 v4 v5 v6 H)) : ∀ (k_ : Nat) (v1 : Sl) (v2 : Int) (v3 : Int) (v4 : AV) (v5 : Int) (v6 : Int) (v7 : Int) (H : Hp), Fin Try.prog Try.f119 ret119 141 (todoAt (bodyOf Try.f119) [1, 1, 0, 1, 0, 0, 1, 0, 0, 1, 1, 1, 1, 1, 1, 0, 1, 0, 0] []) [(0, .sl v1), (1, .int .i64 v2), (2, .int .i64 v3), (3, v4), (9, .int .i64 v5), (10, .int .i64 v6), (12, .int .i64 v7)] H (r119_l3 app kt0 k_ v1 v2 v3 v4 v5 v6 v7 H) := by
  intro k_
  induction k_ with
  | zero => intro _ _ _ _ _ _ _ _; exact f_none
  | succ k_ ih =>
    intro v1 v2 v3 v4 v5 v6 v7 H
    rw [r119_l3]
    refine f_seq ?_
    refine f_seq ?_
    refine f_region ?_
    refine f_op rfl rfl (s_mv (v := .int .i64 v7) rfl) ?_
    refine f_op rfl rfl (s_mv (v := .int .i64 v3) rfl) ?_
    refine f_op rfl rfl (s_lss rfl rfl) ?_
    refine f_nil ?_
    refine f_if (fun h1 => ?_) (fun h1 => ?_)
    · skip
      refine f_know 109 rfl (dec_true h1) ?_
      refine f_condT rfl ?_
      refine f_skip ?_
      refine f_seq ?_
      refine f_block ?_
      refine f_seq ?_
      refine f_seq ?_
      refine f_ck fun g2 => ?_
      refine f_bind ?_; intro x3 hx3
      refine f_bind ?_; intro x4 hx4
      refine f_bind ?_; intro x5 hx5
      refine f_bind ?_; intro x6 hx6
      refine f_ck fun g7 => ?_
      refine f_bind ?_; intro x8 hx8
      refine f_bind ?_; intro x9 hx9
      refine f_bind ?_; intro x10 hx10
      refine f_bind ?_; intro x11 hx11
      refine f_bind ?_; intro p12 hp12
      refine f_bind ?_; intro x13 hx13
      refine f_draw (Φ := fun _ => True) (lim := 1000000) [0, 0, 0, 0, 1, 0, 0, 0, 0, 1, 2, 0, 0] (Trc.pure rfl rfl rfl (.inl fun _ => s_mv (v := v4) rfl) (Trc.pure rfl rfl rfl (.inl fun _ => s_mv (v := .sl v1) rfl) (Trc.pure rfl rfl rfl (.inl fun _ => s_mv (v := .int .i64 v7) rfl) (Trc.pure rfl rfl rfl (.inl fun _ => s_idx Try.underlying83 ty32 rfl rfl g2) (Trc.read rfl rfl rfl (s_loads Try.underlying32 rfl ty32 rfl (lds_cons (ldI_eq hx3) (lds_cons (ldI_eq hx4) (lds_cons (ldI_eq hx5) (lds_cons (ldI_eq hx6) (lds_nil)))))) (Trc.pure rfl rfl rfl (.inl fun _ => s_mv (v := .sl v1) rfl) (Trc.pure rfl rfl rfl (.inl fun _ => s_mv (v := .int .i64 v7) rfl) (Trc.pure rfl rfl rfl (.inl fun _ => s_sub rfl rfl) (Trc.pure rfl rfl rfl (.inl fun _ => s_idx Try.underlying83 ty32 rfl rfl g7) (Trc.read rfl rfl rfl (s_loads Try.underlying32 rfl ty32 rfl (lds_cons (ldI_eq hx8) (lds_cons (ldI_eq hx9) (lds_cons (ldI_eq hx10) (lds_cons (ldI_eq hx11) (lds_nil)))))) (Trc.eff rfl rfl rfl (fun _ => trivial) (s_callv happ rfl rfl hp12) (Trc.know 122 rfl (asI_eq hx13) (Trc.pure rfl rfl rfl (.inl fun _ => s_lss rfl rfl) (Trc.pure rfl rfl rfl (.inl fun _ => s_not rfl) (Trc.nil (fun _ => trivial)))))))))))))))) rfl (by decide +kernel) mixed ?_
      refine f_if (fun h14 => ?_) (fun h14 => ?_)
      · skip
        refine f_know 124 rfl (dec_notT h14) ?_
        refine f_condF rfl ?_
        refine f_skip ?_
        refine f_ck fun g15 => ?_
        refine f_bind ?_; intro x16 hx16
        refine f_bind ?_; intro x17 hx17
        refine f_bind ?_; intro x18 hx18
        refine f_bind ?_; intro x19 hx19
        refine f_ck fun g20 => ?_
        refine f_bind ?_; intro x21 hx21
        refine f_bind ?_; intro x22 hx22
        refine f_bind ?_; intro x23 hx23
        refine f_bind ?_; intro x24 hx24
        refine f_ck fun g25 => ?_
        refine f_bind ?_; intro H26 hH26
        refine f_ck fun g27 => ?_
        refine f_bind ?_; intro H28 hH28
        refine f_draw (Φ := fun _ => True) (lim := 1000000) [0, 0, 0, 0, 0, 0, 0, 0, 0, 1, 0, 0, 0, 1, 0, 2, 0, 2] (Trc.pure rfl rfl rfl (.inl fun _ => s_mv (v := .sl v1) rfl) (Trc.pure rfl rfl rfl (.inl fun _ => s_mv (v := .int .i64 v7) rfl) (Trc.pure rfl rfl rfl (.inl fun _ => s_mv (v := .sl v1) rfl) (Trc.pure rfl rfl rfl (.inl fun _ => s_mv (v := .int .i64 v7) rfl) (Trc.pure rfl rfl rfl (.inl fun _ => s_sub rfl rfl) (Trc.pure rfl rfl rfl (.inl fun _ => s_mv (v := .sl v1) rfl) (Trc.pure rfl rfl rfl (.inl fun _ => s_mv (v := .int .i64 v7) rfl) (Trc.pure rfl rfl rfl (.inl fun _ => s_sub rfl rfl) (Trc.pure rfl rfl rfl (.inl fun _ => s_idx Try.underlying83 ty32 rfl rfl g15) (Trc.read rfl rfl rfl (s_loads Try.underlying32 rfl ty32 rfl (lds_cons (ldI_eq hx16) (lds_cons (ldI_eq hx17) (lds_cons (ldI_eq hx18) (lds_cons (ldI_eq hx19) (lds_nil)))))) (Trc.pure rfl rfl rfl (.inl fun _ => s_mv (v := .sl v1) rfl) (Trc.pure rfl rfl rfl (.inl fun _ => s_mv (v := .int .i64 v7) rfl) (Trc.pure rfl rfl rfl (.inl fun _ => s_idx Try.underlying83 ty32 rfl rfl g20) (Trc.read rfl rfl rfl (s_loads Try.underlying32 rfl ty32 rfl (lds_cons (ldI_eq hx21) (lds_cons (ldI_eq hx22) (lds_cons (ldI_eq hx23) (lds_cons (ldI_eq hx24) (lds_nil)))))) (Trc.pure rfl rfl rfl (.inl fun _ => s_idx Try.underlying83 ty32 rfl rfl g25) (Trc.eff rfl rfl rfl (fun _ => trivial) (s_stores ty32 rfl rfl rfl rfl hH26 (Nat.le_of_eq (sts_mono hH26).symm)) (Trc.pure rfl rfl rfl (.inl fun _ => s_idx Try.underlying83 ty32 rfl rfl g27) (Trc.eff rfl rfl rfl (fun _ => trivial) (s_stores ty32 rfl rfl rfl rfl hH28 (Nat.le_of_eq (sts_mono hH28).symm)) (Trc.nil (fun _ => trivial)))))))))))))))))))) rfl (by decide +kernel) mixed ?_
        refine f_inBlock ?_
        refine f_region ?_
        refine f_op rfl rfl (s_mv (v := .int .i64 v7) rfl) ?_
        refine f_op rfl rfl (s_add rfl rfl) ?_
        refine f_op rfl rfl (s_as (v := .int .i64 (w64 (v7 + 1))) rfl) ?_
        refine f_nil ?_
        refine f_inLoop ?_
        refine f_keep [0, 1, 2, 3, 9, 10, 12] ?_
        exact ih v1 v2 v3 v4 v5 v6 (w64 (v7 + 1)) H28
      · skip
        refine f_know 124 rfl (dec_notF h14) ?_
        refine f_condT rfl ?_
        refine f_exit rfl ?_
        refine f_inBlock ?_
        refine f_region ?_
        refine f_op rfl rfl (s_mv (v := .int .i64 v6) rfl) ?_
        refine f_op rfl rfl (s_add rfl rfl) ?_
        refine f_op rfl rfl (s_as (v := .int .i64 (w64 (v6 + 1))) rfl) ?_
        refine f_nil ?_
        refine f_inLoop ?_
        refine f_keep [0, 1, 2, 3, 9, 10] ?_
        exact hkt0 v1 v2 v3 v4 v5 (w64 (v6 + 1)) p12.2
    · skip
      refine f_know 109 rfl (dec_false h1) ?_
      refine f_condF rfl ?_
      refine f_exit rfl ?_
      refine f_inBlock ?_
      refine f_region ?_
      refine f_op rfl rfl (s_mv (v := .int .i64 v6) rfl) ?_
      refine f_op rfl rfl (s_add rfl rfl) ?_
      refine f_op rfl rfl (s_as (v := .int .i64 (w64 (v6 + 1))) rfl) ?_
      refine f_nil ?_
      refine f_inLoop ?_
      refine f_keep [0, 1, 2, 3, 9, 10] ?_
      exact hkt0 v1 v2 v3 v4 v5 (w64 (v6 + 1)) H

theorem s119_j5 {app : App} (happ : AppSim Try.prog app) (kt0 : Sl → Int → Int → AV → Int → Int → Hp → Option (Bool × Hp)) (hkt0 : ∀ (v1 : Sl) (v2 : Int) (v3 : Int) (v4 : AV) (v5 : Int) (v6 : Int) (H : Hp), Fin Try.prog Try.f119 ret119 141 (todoAt (bodyOf Try.f119) [1, 1, 0, 1, 0, 0] []) [(0, .sl v1), (1, .int .i64 v2), (2, .int .i64 v3), (3, v4), (9, .int .i64 v5), (10, .int .i64 v6)] H (kt0 v1 v2 v3 v4 v5 v6 H)) (v1 : Sl) (v2 : Int) (v3 : Int) (v4 : AV) (v5 : Int) (v6 : Int) (H : Hp) : Fin Try.prog Try.f119 ret119 141 (todoAt (bodyOf Try.f119) [1, 1, 0, 1, 0, 0, 1, 0, 0, 1, 1, 1, 1, 1] []) [(0, .sl v1), (1, .int .i64 v2), (2, .int .i64 v3), (3, v4), (9, .int .i64 v5), (10, .int .i64 v6)] H (r119_j5 app kt0 v1 v2 v3 v4 v5 v6 H) := by
  unfold r119_j5
  refine f_seq ?_
  refine f_region ?_
  refine f_op rfl rfl (s_mv (v := .int .i64 v3) rfl) ?_
  refine f_op rfl rfl (s_mv (v := .int .i64 v5) rfl) ?_
  refine f_op rfl rfl (s_sub rfl rfl) ?_
  refine f_op rfl rfl (s_geq rfl rfl) ?_
  refine f_nil ?_
  refine f_if (fun h1 => ?_) (fun h1 => ?_)
  · skip
    refine f_know 104 rfl (dec_true h1) ?_
    refine f_condT rfl ?_
    refine f_seq ?_
    refine f_region ?_
    refine f_op rfl rfl (s_mv (v := .int .i64 v5) rfl) ?_
    refine f_op rfl rfl (s_add rfl rfl) ?_
    refine f_op rfl rfl (s_as (v := .int .i64 (w64 (v5 + 1))) rfl) ?_
    refine f_nil ?_
    refine f_block ?_
    refine f_loop ?_
    refine f_keep [0, 1, 2, 3, 9, 10, 12] ?_
    exact s119_l3 happ _ hkt0 FUEL v1 v2 v3 v4 v5 v6 (w64 (v5 + 1)) H
  · skip
    refine f_know 104 rfl (dec_false h1) ?_
    refine f_condF rfl ?_
    refine f_skip ?_
    refine f_inBlock ?_
    refine f_region ?_
    refine f_op rfl rfl (s_mv (v := .int .i64 v6) rfl) ?_
    refine f_op rfl rfl (s_add rfl rfl) ?_
    refine f_op rfl rfl (s_as (v := .int .i64 (w64 (v6 + 1))) rfl) ?_
    refine f_nil ?_
    refine f_inLoop ?_
    refine f_keep [0, 1, 2, 3, 9, 10] ?_
    exact hkt0 v1 v2 v3 v4 v5 (w64 (v6 + 1)) H

theorem s119_l2 {app : App} (happ : AppSim Try.prog app) (kt0 : Sl → Int → Int → AV → Int → Int → Hp → Option (Bool × Hp)) (hkt0 : ∀ (v1 : Sl) (v2 : Int) (v3 : Int) (v4 : AV) (v5 : Int) (v6 : Int) (H : Hp), Fin Try.prog Try.f119 ret119 141 (todoAt (bodyOf Try.f119) [1, 1, 0, 1, 0, 0] []) [(0, .sl v1), (1, .int .i64 v2), (2, .int .i64 v3), (3, v4), (9, .int .i64 v5), (10, .int .i64 v6)] H (kt0 v1 v2 v3 v4 v5 v6 H)) : ∀ (k_ : Nat) (v1 : Sl) (v2 : Int) (v3 : Int) (v4 : AV) (v5 : Int) (v6 : Int) (v7 : Int) (H : Hp), Fin Try.prog Try.f119 ret119 141 (todoAt (bodyOf Try.f119) [1, 1, 0, 1, 0, 0, 1, 0, 0, 1, 1, 1, 1, 0, 1, 0, 1, 0, 0] []) [(0, .sl v1), (1, .int .i64 v2), (2, .int .i64 v3), (3, v4), (9, .int .i64 v5), (10, .int .i64 v6), (11, .int .i64 v7)] H (r119_l2 app kt0 k_ v1 v2 v3 v4 v5 v6 v7 H) := by
  intro k_
  induction k_ with
  | zero => intro _ _ _ _ _ _ _ _; exact f_none
  | succ k_ ih =>
    intro v1 v2 v3 v4 v5 v6 v7 H
    rw [r119_l2]
    refine f_seq ?_
    refine f_seq ?_
    refine f_region ?_
    refine f_op rfl rfl (s_mv (v := .int .i64 v7) rfl) ?_
    refine f_op rfl rfl (s_geq rfl rfl) ?_
    refine f_nil ?_
    refine f_if (fun h1 => ?_) (fun h1 => ?_)
    · skip
      refine f_know 69 rfl (dec_true h1) ?_
      refine f_condT rfl ?_
      refine f_skip ?_
      refine f_seq ?_
      refine f_block ?_
      refine f_seq ?_
      refine f_seq ?_
      refine f_ck fun g2 => ?_
      refine f_bind ?_; intro x3 hx3
      refine f_bind ?_; intro x4 hx4
      refine f_bind ?_; intro x5 hx5
      refine f_bind ?_; intro x6 hx6
      refine f_ck fun g7 => ?_
      refine f_bind ?_; intro x8 hx8
      refine f_bind ?_; intro x9 hx9
      refine f_bind ?_; intro x10 hx10
      refine f_bind ?_; intro x11 hx11
      refine f_bind ?_; intro p12 hp12
      refine f_bind ?_; intro x13 hx13
      refine f_draw (Φ := fun _ => True) (lim := 1000000) [0, 0, 0, 0, 1, 0, 0, 0, 0, 1, 2, 0, 0] (Trc.pure rfl rfl rfl (.inl fun _ => s_mv (v := v4) rfl) (Trc.pure rfl rfl rfl (.inl fun _ => s_mv (v := .sl v1) rfl) (Trc.pure rfl rfl rfl (.inl fun _ => s_mv (v := .int .i64 v7) rfl) (Trc.pure rfl rfl rfl (.inl fun _ => s_idx Try.underlying83 ty32 rfl rfl g2) (Trc.read rfl rfl rfl (s_loads Try.underlying32 rfl ty32 rfl (lds_cons (ldI_eq hx3) (lds_cons (ldI_eq hx4) (lds_cons (ldI_eq hx5) (lds_cons (ldI_eq hx6) (lds_nil)))))) (Trc.pure rfl rfl rfl (.inl fun _ => s_mv (v := .sl v1) rfl) (Trc.pure rfl rfl rfl (.inl fun _ => s_mv (v := .int .i64 v7) rfl) (Trc.pure rfl rfl rfl (.inl fun _ => s_sub rfl rfl) (Trc.pure rfl rfl rfl (.inl fun _ => s_idx Try.underlying83 ty32 rfl rfl g7) (Trc.read rfl rfl rfl (s_loads Try.underlying32 rfl ty32 rfl (lds_cons (ldI_eq hx8) (lds_cons (ldI_eq hx9) (lds_cons (ldI_eq hx10) (lds_cons (ldI_eq hx11) (lds_nil)))))) (Trc.eff rfl rfl rfl (fun _ => trivial) (s_callv happ rfl rfl hp12) (Trc.know 82 rfl (asI_eq hx13) (Trc.pure rfl rfl rfl (.inl fun _ => s_lss rfl rfl) (Trc.pure rfl rfl rfl (.inl fun _ => s_not rfl) (Trc.nil (fun _ => trivial)))))))))))))))) rfl (by decide +kernel) mixed ?_
      refine f_if (fun h14 => ?_) (fun h14 => ?_)
      · skip
        refine f_know 84 rfl (dec_notT h14) ?_
        refine f_condF rfl ?_
        refine f_skip ?_
        refine f_ck fun g15 => ?_
        refine f_bind ?_; intro x16 hx16
        refine f_bind ?_; intro x17 hx17
        refine f_bind ?_; intro x18 hx18
        refine f_bind ?_; intro x19 hx19
        refine f_ck fun g20 => ?_
        refine f_bind ?_; intro x21 hx21
        refine f_bind ?_; intro x22 hx22
        refine f_bind ?_; intro x23 hx23
        refine f_bind ?_; intro x24 hx24
        refine f_ck fun g25 => ?_
        refine f_bind ?_; intro H26 hH26
        refine f_ck fun g27 => ?_
        refine f_bind ?_; intro H28 hH28
        refine f_draw (Φ := fun _ => True) (lim := 1000000) [0, 0, 0, 0, 0, 0, 0, 0, 0, 1, 0, 0, 0, 1, 0, 2, 0, 2] (Trc.pure rfl rfl rfl (.inl fun _ => s_mv (v := .sl v1) rfl) (Trc.pure rfl rfl rfl (.inl fun _ => s_mv (v := .int .i64 v7) rfl) (Trc.pure rfl rfl rfl (.inl fun _ => s_mv (v := .sl v1) rfl) (Trc.pure rfl rfl rfl (.inl fun _ => s_mv (v := .int .i64 v7) rfl) (Trc.pure rfl rfl rfl (.inl fun _ => s_sub rfl rfl) (Trc.pure rfl rfl rfl (.inl fun _ => s_mv (v := .sl v1) rfl) (Trc.pure rfl rfl rfl (.inl fun _ => s_mv (v := .int .i64 v7) rfl) (Trc.pure rfl rfl rfl (.inl fun _ => s_sub rfl rfl) (Trc.pure rfl rfl rfl (.inl fun _ => s_idx Try.underlying83 ty32 rfl rfl g15) (Trc.read rfl rfl rfl (s_loads Try.underlying32 rfl ty32 rfl (lds_cons (ldI_eq hx16) (lds_cons (ldI_eq hx17) (lds_cons (ldI_eq hx18) (lds_cons (ldI_eq hx19) (lds_nil)))))) (Trc.pure rfl rfl rfl (.inl fun _ => s_mv (v := .sl v1) rfl) (Trc.pure rfl rfl rfl (.inl fun _ => s_mv (v := .int .i64 v7) rfl) (Trc.pure rfl rfl rfl (.inl fun _ => s_idx Try.underlying83 ty32 rfl rfl g20) (Trc.read rfl rfl rfl (s_loads Try.underlying32 rfl ty32 rfl (lds_cons (ldI_eq hx21) (lds_cons (ldI_eq hx22) (lds_cons (ldI_eq hx23) (lds_cons (ldI_eq hx24) (lds_nil)))))) (Trc.pure rfl rfl rfl (.inl fun _ => s_idx Try.underlying83 ty32 rfl rfl g25) (Trc.eff rfl rfl rfl (fun _ => trivial) (s_stores ty32 rfl rfl rfl rfl hH26 (Nat.le_of_eq (sts_mono hH26).symm)) (Trc.pure rfl rfl rfl (.inl fun _ => s_idx Try.underlying83 ty32 rfl rfl g27) (Trc.eff rfl rfl rfl (fun _ => trivial) (s_stores ty32 rfl rfl rfl rfl hH28 (Nat.le_of_eq (sts_mono hH28).symm)) (Trc.nil (fun _ => trivial)))))))))))))))))))) rfl (by decide +kernel) mixed ?_
        refine f_inBlock ?_
        refine f_region ?_
        refine f_op rfl rfl (s_mv (v := .int .i64 v7) rfl) ?_
        refine f_op rfl rfl (s_sub rfl rfl) ?_
        refine f_op rfl rfl (s_as (v := .int .i64 (w64 (v7 - 1))) rfl) ?_
        refine f_nil ?_
        refine f_inLoop ?_
        refine f_keep [0, 1, 2, 3, 9, 10, 11] ?_
        exact ih v1 v2 v3 v4 v5 v6 (w64 (v7 - 1)) H28
      · skip
        refine f_know 84 rfl (dec_notF h14) ?_
        refine f_condT rfl ?_
        refine f_exit rfl ?_
        refine f_keep [0, 1, 2, 3, 9, 10] ?_
        exact s119_j5 happ _ hkt0 v1 v2 v3 v4 v5 v6 p12.2
    · skip
      refine f_know 69 rfl (dec_false h1) ?_
      refine f_condF rfl ?_
      refine f_exit rfl ?_
      refine f_keep [0, 1, 2, 3, 9, 10] ?_
      exact s119_j5 happ _ hkt0 v1 v2 v3 v4 v5 v6 H

theorem s119_j4 {app : App} (happ : AppSim Try.prog app) (kt0 : Sl → Int → Int → AV → Int → Int → Hp → Option (Bool × Hp)) (hkt0 : ∀ (v1 : Sl) (v2 : Int) (v3 : Int) (v4 : AV) (v5 : Int) (v6 : Int) (H : Hp), Fin Try.prog Try.f119 ret119 141 (todoAt (bodyOf Try.f119) [1, 1, 0, 1, 0, 0] []) [(0, .sl v1), (1, .int .i64 v2), (2, .int .i64 v3), (3, v4), (9, .int .i64 v5), (10, .int .i64 v6)] H (kt0 v1 v2 v3 v4 v5 v6 H)) (kt1 : Sl → Int → Int → AV → Int → Int → Hp → Option (Bool × Hp)) (hkt1 : ∀ (v1 : Sl) (v2 : Int) (v3 : Int) (v4 : AV) (v5 : Int) (v6 : Int) (H : Hp), Fin Try.prog Try.f119 ret119 141 (todoAt (bodyOf Try.f119) [1, 1, 0, 1, 0, 0, 1, 0, 0, 0, 0, 0] []) [(0, .sl v1), (1, .int .i64 v2), (2, .int .i64 v3), (3, v4), (9, .int .i64 v5), (10, .int .i64 v6)] H (kt1 v1 v2 v3 v4 v5 v6 H)) (v1 : Sl) (v2 : Int) (v3 : Int) (v4 : AV) (v5 : Int) (v6 : Int) (v7 : Bool) (H : Hp) : Fin Try.prog Try.f119 ret119 141 (todoAt (bodyOf Try.f119) [1, 1, 0, 1, 0, 0, 1, 0, 0, 0, 0, 0, 0, 1] []) [(0, .sl v1), (1, .int .i64 v2), (2, .int .i64 v3), (3, v4), (9, .int .i64 v5), (10, .int .i64 v6), (36, .bool v7)] H (r119_j4 app kt0 kt1 v1 v2 v3 v4 v5 v6 v7 H) := by
  unfold r119_j4
  refine f_if (fun h1 => ?_) (fun h1 => ?_)
  · skip
    refine f_know 36 rfl (bool_T h1) ?_
    refine f_condT rfl ?_
    refine f_skip ?_
    refine f_block ?_
    refine f_region ?_
    refine f_op rfl rfl (s_mv (v := .int .i64 v5) rfl) ?_
    refine f_op rfl rfl (s_add rfl rfl) ?_
    refine f_op rfl rfl (s_as (v := .int .i64 (w64 (v5 + 1))) rfl) ?_
    refine f_nil ?_
    refine f_inBlock ?_
    refine f_inLoop ?_
    refine f_keep [0, 1, 2, 3, 9, 10] ?_
    exact hkt1 v1 v2 v3 v4 (w64 (v5 + 1)) v6 H
  · skip
    refine f_know 36 rfl (bool_F h1) ?_
    refine f_condF rfl ?_
    refine f_exit rfl ?_
    refine f_seq ?_
    refine f_seq ?_
    refine f_region ?_
    refine f_op rfl rfl (s_mv (v := .int .i64 v5) rfl) ?_
    refine f_op rfl rfl (s_mv (v := .int .i64 v3) rfl) ?_
    refine f_op rfl rfl (s_eql rfl rfl) ?_
    refine f_nil ?_
    refine f_if (fun h2 => ?_) (fun h2 => ?_)
    · skip
      refine f_know 41 rfl (dec_true h2) ?_
      refine f_condT rfl ?_
      refine f_seq ?_
      refine f_region ?_
      refine f_op rfl rfl (s_as (v := .bool true) rfl) ?_
      refine f_nil ?_
      exact f_ret (.tmp rfl (.nil)) rfl
    · skip
      refine f_know 41 rfl (dec_false h2) ?_
      refine f_condF rfl ?_
      refine f_skip ?_
      refine f_seq ?_
      refine f_seq ?_
      refine f_region ?_
      refine f_op rfl rfl (s_mv (v := .int .i64 v3) rfl) ?_
      refine f_op rfl rfl (s_mv (v := .int .i64 v2) rfl) ?_
      refine f_op rfl rfl (s_sub rfl rfl) ?_
      refine f_op rfl rfl (s_lss rfl rfl) ?_
      refine f_nil ?_
      refine f_if (fun h3 => ?_) (fun h3 => ?_)
      · skip
        refine f_know 45 rfl (dec_true h3) ?_
        refine f_condT rfl ?_
        refine f_seq ?_
        refine f_region ?_
        refine f_op rfl rfl (s_as (v := .bool false) rfl) ?_
        refine f_nil ?_
        exact f_ret (.tmp rfl (.nil)) rfl
      · skip
        refine f_know 45 rfl (dec_false h3) ?_
        refine f_condF rfl ?_
        refine f_skip ?_
        refine f_seq ?_
        refine f_ck fun g4 => ?_
        refine f_bind ?_; intro x5 hx5
        refine f_bind ?_; intro x6 hx6
        refine f_bind ?_; intro x7 hx7
        refine f_bind ?_; intro x8 hx8
        refine f_ck fun g9 => ?_
        refine f_bind ?_; intro x10 hx10
        refine f_bind ?_; intro x11 hx11
        refine f_bind ?_; intro x12 hx12
        refine f_bind ?_; intro x13 hx13
        refine f_ck fun g14 => ?_
        refine f_bind ?_; intro H15 hH15
        refine f_ck fun g16 => ?_
        refine f_bind ?_; intro H17 hH17
        refine f_draw (Φ := fun _ => True) (lim := 1000000) [0, 0, 0, 0, 0, 0, 0, 0, 0, 1, 0, 0, 0, 1, 0, 2, 0, 2] (Trc.pure rfl rfl rfl (.inl fun _ => s_mv (v := .sl v1) rfl) (Trc.pure rfl rfl rfl (.inl fun _ => s_mv (v := .int .i64 v5) rfl) (Trc.pure rfl rfl rfl (.inl fun _ => s_mv (v := .sl v1) rfl) (Trc.pure rfl rfl rfl (.inl fun _ => s_mv (v := .int .i64 v5) rfl) (Trc.pure rfl rfl rfl (.inl fun _ => s_sub rfl rfl) (Trc.pure rfl rfl rfl (.inl fun _ => s_mv (v := .sl v1) rfl) (Trc.pure rfl rfl rfl (.inl fun _ => s_mv (v := .int .i64 v5) rfl) (Trc.pure rfl rfl rfl (.inl fun _ => s_sub rfl rfl) (Trc.pure rfl rfl rfl (.inl fun _ => s_idx Try.underlying83 ty32 rfl rfl g4) (Trc.read rfl rfl rfl (s_loads Try.underlying32 rfl ty32 rfl (lds_cons (ldI_eq hx5) (lds_cons (ldI_eq hx6) (lds_cons (ldI_eq hx7) (lds_cons (ldI_eq hx8) (lds_nil)))))) (Trc.pure rfl rfl rfl (.inl fun _ => s_mv (v := .sl v1) rfl) (Trc.pure rfl rfl rfl (.inl fun _ => s_mv (v := .int .i64 v5) rfl) (Trc.pure rfl rfl rfl (.inl fun _ => s_idx Try.underlying83 ty32 rfl rfl g9) (Trc.read rfl rfl rfl (s_loads Try.underlying32 rfl ty32 rfl (lds_cons (ldI_eq hx10) (lds_cons (ldI_eq hx11) (lds_cons (ldI_eq hx12) (lds_cons (ldI_eq hx13) (lds_nil)))))) (Trc.pure rfl rfl rfl (.inl fun _ => s_idx Try.underlying83 ty32 rfl rfl g14) (Trc.eff rfl rfl rfl (fun _ => trivial) (s_stores ty32 rfl rfl rfl rfl hH15 (Nat.le_of_eq (sts_mono hH15).symm)) (Trc.pure rfl rfl rfl (.inl fun _ => s_idx Try.underlying83 ty32 rfl rfl g16) (Trc.eff rfl rfl rfl (fun _ => trivial) (s_stores ty32 rfl rfl rfl rfl hH17 (Nat.le_of_eq (sts_mono hH17).symm)) (Trc.nil (fun _ => trivial)))))))))))))))))))) rfl (by decide +kernel) mixed ?_
        refine f_seq ?_
        refine f_seq ?_
        refine f_region ?_
        refine f_op rfl rfl (s_mv (v := .int .i64 v5) rfl) ?_
        refine f_op rfl rfl (s_mv (v := .int .i64 v2) rfl) ?_
        refine f_op rfl rfl (s_sub rfl rfl) ?_
        refine f_op rfl rfl (s_geq rfl rfl) ?_
        refine f_nil ?_
        refine f_if (fun h18 => ?_) (fun h18 => ?_)
        · skip
          refine f_know 65 rfl (dec_true h18) ?_
          refine f_condT rfl ?_
          refine f_seq ?_
          refine f_region ?_
          refine f_op rfl rfl (s_mv (v := .int .i64 v5) rfl) ?_
          refine f_op rfl rfl (s_sub rfl rfl) ?_
          refine f_op rfl rfl (s_as (v := .int .i64 (w64 (v5 - 1))) rfl) ?_
          refine f_nil ?_
          refine f_block ?_
          refine f_loop ?_
          refine f_keep [0, 1, 2, 3, 9, 10, 11] ?_
          exact s119_l2 happ _ hkt0 FUEL v1 v2 v3 v4 v5 v6 (w64 (v5 - 1)) H17
        · skip
          refine f_know 65 rfl (dec_false h18) ?_
          refine f_condF rfl ?_
          refine f_skip ?_
          refine f_keep [0, 1, 2, 3, 9, 10] ?_
          exact s119_j5 happ _ hkt0 v1 v2 v3 v4 v5 v6 H17

theorem s119_l1 {app : App} (happ : AppSim Try.prog app) (kt0 : Sl → Int → Int → AV → Int → Int → Hp → Option (Bool × Hp)) (hkt0 : ∀ (v1 : Sl) (v2 : Int) (v3 : Int) (v4 : AV) (v5 : Int) (v6 : Int) (H : Hp), Fin Try.prog Try.f119 ret119 141 (todoAt (bodyOf Try.f119) [1, 1, 0, 1, 0, 0] []) [(0, .sl v1), (1, .int .i64 v2), (2, .int .i64 v3), (3, v4), (9, .int .i64 v5), (10, .int .i64 v6)] H (kt0 v1 v2 v3 v4 v5 v6 H)) : ∀ (k_ : Nat) (v1 : Sl) (v2 : Int) (v3 : Int) (v4 : AV) (v5 : Int) (v6 : Int) (H : Hp), Fin Try.prog Try.f119 ret119 141 (todoAt (bodyOf Try.f119) [1, 1, 0, 1, 0, 0, 1, 0, 0, 0, 0, 0] []) [(0, .sl v1), (1, .int .i64 v2), (2, .int .i64 v3), (3, v4), (9, .int .i64 v5), (10, .int .i64 v6)] H (r119_l1 app kt0 k_ v1 v2 v3 v4 v5 v6 H) := by
  intro k_
  induction k_ with
  | zero => intro _ _ _ _ _ _ _; exact f_none
  | succ k_ ih =>
    intro v1 v2 v3 v4 v5 v6 H
    rw [r119_l1]
    refine f_seq ?_
    refine f_seq ?_
    refine f_if (fun h1 => ?_) (fun h1 => ?_)
    · skip
      refine f_ck fun g2 => ?_
      refine f_bind ?_; intro x3 hx3
      refine f_bind ?_; intro x4 hx4
      refine f_bind ?_; intro x5 hx5
      refine f_bind ?_; intro x6 hx6
      refine f_ck fun g7 => ?_
      refine f_bind ?_; intro x8 hx8
      refine f_bind ?_; intro x9 hx9
      refine f_bind ?_; intro x10 hx10
      refine f_bind ?_; intro x11 hx11
      refine f_bind ?_; intro p12 hp12
      refine f_bind ?_; intro x13 hx13
      refine f_draw (Φ := fun _ => True) (lim := 1000000) [0, 0, 0, 0, 0, 0, 0, 0, 1, 0, 0, 0, 0, 1, 2, 0, 0, 0] (Trc.pure rfl rfl rfl (.inl fun _ => s_mv (v := .int .i64 v5) rfl) (Trc.pure rfl rfl rfl (.inl fun _ => s_mv (v := .int .i64 v3) rfl) (Trc.pure rfl rfl rfl (.inl fun _ => s_lss rfl rfl) (Trc.pure rfl rfl rfl (.inl fun _ => s_mv (v := .bool (decide (v5 < v3))) rfl) (Trc.know 22 rfl (dec_true h1) (Trc.pure rfl rfl rfl (.inl fun _ => s_mv (v := v4) rfl) (Trc.pure rfl rfl rfl (.inl fun _ => s_mv (v := .sl v1) rfl) (Trc.pure rfl rfl rfl (.inl fun _ => s_mv (v := .int .i64 v5) rfl) (Trc.pure rfl rfl rfl (.inl fun _ => s_idx Try.underlying83 ty32 rfl rfl g2) (Trc.read rfl rfl rfl (s_loads Try.underlying32 rfl ty32 rfl (lds_cons (ldI_eq hx3) (lds_cons (ldI_eq hx4) (lds_cons (ldI_eq hx5) (lds_cons (ldI_eq hx6) (lds_nil)))))) (Trc.pure rfl rfl rfl (.inl fun _ => s_mv (v := .sl v1) rfl) (Trc.pure rfl rfl rfl (.inl fun _ => s_mv (v := .int .i64 v5) rfl) (Trc.pure rfl rfl rfl (.inl fun _ => s_sub rfl rfl) (Trc.pure rfl rfl rfl (.inl fun _ => s_idx Try.underlying83 ty32 rfl rfl g7) (Trc.read rfl rfl rfl (s_loads Try.underlying32 rfl ty32 rfl (lds_cons (ldI_eq hx8) (lds_cons (ldI_eq hx9) (lds_cons (ldI_eq hx10) (lds_cons (ldI_eq hx11) (lds_nil)))))) (Trc.eff rfl rfl rfl (fun _ => trivial) (s_callv happ rfl rfl hp12) (Trc.know 33 rfl (asI_eq hx13) (Trc.pure rfl rfl rfl (.inl fun _ => s_lss rfl rfl) (Trc.pure rfl rfl rfl (.inl fun _ => s_not rfl) (Trc.pure rfl rfl rfl (.inl fun _ => s_pickT (v := .bool (!(decide (x13 < 0)))) rfl rfl) (Trc.nil (fun _ => trivial)))))))))))))))))))))) rfl (by decide +kernel) mixed ?_
      refine f_keep [0, 1, 2, 3, 9, 10, 36] ?_
      exact s119_j4 happ _ hkt0 _ (fun v1_ v2_ v3_ v4_ v5_ v6_ H_ => ih v1_ v2_ v3_ v4_ v5_ v6_ H_) v1 v2 v3 v4 v5 v6 (!(decide (x13 < 0))) p12.2
    · skip
      refine f_draw (Φ := fun _ => True) (lim := 1000000) [0, 0, 0, 0, 0, 0, 0, 0, 0, 0, 0, 0, 0, 0, 0, 0, 0, 0] (Trc.pure rfl rfl rfl (.inl fun _ => s_mv (v := .int .i64 v5) rfl) (Trc.pure rfl rfl rfl (.inl fun _ => s_mv (v := .int .i64 v3) rfl) (Trc.pure rfl rfl rfl (.inl fun _ => s_lss rfl rfl) (Trc.pure rfl rfl rfl (.inl fun _ => s_mv (v := .bool (decide (v5 < v3))) rfl) (Trc.know 22 rfl (dec_false h1) (Trc.no rfl rfl rfl (Trc.no rfl rfl rfl (Trc.no rfl rfl rfl (Trc.no rfl rfl rfl (Trc.no rfl rfl rfl (Trc.no rfl rfl rfl (Trc.no rfl rfl rfl (Trc.no rfl rfl rfl (Trc.no rfl rfl rfl (Trc.no rfl rfl rfl (Trc.no rfl rfl rfl (Trc.no rfl rfl rfl (Trc.no rfl rfl rfl (Trc.pure rfl rfl rfl (.inl fun _ => s_pickF (v := .bool false) rfl rfl) (Trc.nil (fun _ => trivial))))))))))))))))))))) rfl (by decide +kernel) mixed ?_
      refine f_keep [0, 1, 2, 3, 9, 10, 36] ?_
      exact s119_j4 happ _ hkt0 _ (fun v1_ v2_ v3_ v4_ v5_ v6_ H_ => ih v1_ v2_ v3_ v4_ v5_ v6_ H_) v1 v2 v3 v4 v5 v6 false H

theorem s119_l0 {app : App} (happ : AppSim Try.prog app) : ∀ (k_ : Nat) (v1 : Sl) (v2 : Int) (v3 : Int) (v4 : AV) (v5 : Int) (v6 : Int) (H : Hp), Fin Try.prog Try.f119 ret119 141 (todoAt (bodyOf Try.f119) [1, 1, 0, 1, 0, 0] []) [(0, .sl v1), (1, .int .i64 v2), (2, .int .i64 v3), (3, v4), (9, .int .i64 v5), (10, .int .i64 v6)] H (r119_l0 app k_ v1 v2 v3 v4 v5 v6 H) := by
  intro k_
  induction k_ with
  | zero => intro _ _ _ _ _ _ _; exact f_none
  | succ k_ ih =>
    intro v1 v2 v3 v4 v5 v6 H
    rw [r119_l0]
    refine f_seq ?_
    refine f_seq ?_
    refine f_region ?_
    refine f_op rfl rfl (s_mv (v := .int .i64 v6) rfl) ?_
    refine f_op rfl rfl (s_lss rfl rfl) ?_
    refine f_nil ?_
    refine f_if (fun h1 => ?_) (fun h1 => ?_)
    · skip
      refine f_know 16 rfl (dec_true h1) ?_
      refine f_condT rfl ?_
      refine f_skip ?_
      refine f_seq ?_
      refine f_block ?_
      refine f_seq ?_
      refine f_block ?_
      refine f_loop ?_
      refine f_keep [0, 1, 2, 3, 9, 10] ?_
      exact s119_l1 happ _ (fun v1_ v2_ v3_ v4_ v5_ v6_ H_ => ih v1_ v2_ v3_ v4_ v5_ v6_ H_) FUEL v1 v2 v3 v4 v5 v6 H
    · skip
      refine f_know 16 rfl (dec_false h1) ?_
      refine f_condF rfl ?_
      refine f_exit rfl ?_
      refine f_seq ?_
      refine f_region ?_
      refine f_op rfl rfl (s_as (v := .bool false) rfl) ?_
      refine f_nil ?_
      exact f_ret (.tmp rfl (.nil)) rfl

theorem sim119 {app : App} (happ : AppSim Try.prog app) {a0 : Sl} {a1 : Int} {a2 : Int} {a3 : AV} {H : Hp} {p : Bool × Hp} (h : r119 app a0 a1 a2 a3 H = some p) : CallSim Try.prog 119 [.sl a0, .int .i64 a1, .int .i64 a2, a3] H (.bool p.1) p.2 := by
  refine callSim (fn := Try.f119) (ret := ret119) Try.func119 rfl Try.ntmps119 rfl ?_ h
  unfold r119
  refine f_seq ?_
  refine f_region ?_
  refine f_op rfl rfl (s_as (v := .bool false) rfl) ?_
  refine f_nil ?_
  refine f_seq ?_
  refine f_region ?_
  refine f_op rfl rfl (s_mv (v := .int .i64 a1) rfl) ?_
  refine f_op rfl rfl (s_add rfl rfl) ?_
  refine f_op rfl rfl (s_as (v := .int .i64 (w64 (a1 + 1))) rfl) ?_
  refine f_nil ?_
  refine f_seq ?_
  refine f_seq ?_
  refine f_region ?_
  refine f_op rfl rfl (s_as (v := .int .i64 0) rfl) ?_
  refine f_nil ?_
  refine f_block ?_
  refine f_loop ?_
  refine f_keep [0, 1, 2, 3, 9, 10] ?_
  exact s119_l0 happ FUEL a0 a1 a2 a3 (w64 (a1 + 1)) 0 H

/- 120 slices.partitionEqualCmpFunc[congou/cuts.Point] -/
theorem ok120 : FnOk Try.prog 120 := ⟨⟨Try.f120, Try.func120, by kernel_rfl, rfl⟩⟩
theorem s120_j4 {app : App} (happ : AppSim Try.prog app) (kt0 : Sl → Int → AV → Int → Int → Hp → Option (Int × Hp)) (hkt0 : ∀ (v1 : Sl) (v2 : Int) (v3 : AV) (v4 : Int) (v5 : Int) (H : Hp), Fin Try.prog Try.f120 ret120 90 (todoAt (bodyOf Try.f120) [1, 1, 1, 0, 0, 0] []) [(0, .sl v1), (1, .int .i64 v2), (4, v3), (11, .int .i64 v4), (12, .int .i64 v5)] H (kt0 v1 v2 v3 v4 v5 H)) (kt2 : Sl → Int → AV → Int → Int → Hp → Option (Int × Hp)) (hkt2 : ∀ (v1 : Sl) (v2 : Int) (v3 : AV) (v4 : Int) (v5 : Int) (H : Hp), Fin Try.prog Try.f120 ret120 90 (todoAt (bodyOf Try.f120) [1, 1, 1, 0, 0, 0, 0, 1, 0, 0, 0] []) [(0, .sl v1), (1, .int .i64 v2), (4, v3), (11, .int .i64 v4), (12, .int .i64 v5)] H (kt2 v1 v2 v3 v4 v5 H)) (v1 : Sl) (v2 : Int) (v3 : AV) (v4 : Int) (v5 : Int) (v6 : Bool) (H : Hp) : Fin Try.prog Try.f120 ret120 90 (todoAt (bodyOf Try.f120) [1, 1, 1, 0, 0, 0, 0, 1, 0, 0, 0, 0, 1] []) [(0, .sl v1), (1, .int .i64 v2), (4, v3), (11, .int .i64 v4), (12, .int .i64 v5), (65, .bool v6)] H (r120_j4 app kt0 kt2 v1 v2 v3 v4 v5 v6 H) := by
  unfold r120_j4
  refine f_if (fun h1 => ?_) (fun h1 => ?_)
  · skip
    refine f_know 65 rfl (bool_T h1) ?_
    refine f_condT rfl ?_
    refine f_skip ?_
    refine f_block ?_
    refine f_region ?_
    refine f_op rfl rfl (s_mv (v := .int .i64 v5) rfl) ?_
    refine f_op rfl rfl (s_sub rfl rfl) ?_
    refine f_op rfl rfl (s_as (v := .int .i64 (w64 (v5 - 1))) rfl) ?_
    refine f_nil ?_
    refine f_inBlock ?_
    refine f_inLoop ?_
    refine f_keep [0, 1, 4, 11, 12] ?_
    exact hkt2 v1 v2 v3 v4 (w64 (v5 - 1)) H
  · skip
    refine f_know 65 rfl (bool_F h1) ?_
    refine f_condF rfl ?_
    refine f_exit rfl ?_
    refine f_seq ?_
    refine f_seq ?_
    refine f_region ?_
    refine f_op rfl rfl (s_mv (v := .int .i64 v4) rfl) ?_
    refine f_op rfl rfl (s_mv (v := .int .i64 v5) rfl) ?_
    refine f_op rfl rfl (s_gtr rfl rfl) ?_
    refine f_nil ?_
    refine f_if (fun h2 => ?_) (fun h2 => ?_)
    · skip
      refine f_know 70 rfl (dec_true h2) ?_
      refine f_condT rfl ?_
      refine f_exit rfl ?_
      refine f_seq ?_
      refine f_region ?_
      refine f_op rfl rfl (s_mv (v := .int .i64 v4) rfl) ?_
      refine f_op rfl rfl (s_as (v := .int .i64 v4) rfl) ?_
      refine f_nil ?_
      exact f_ret (.tmp rfl (.nil)) rfl
    · skip
      refine f_know 70 rfl (dec_false h2) ?_
      refine f_condF rfl ?_
      refine f_skip ?_
      refine f_seq ?_
      refine f_ck fun g3 => ?_
      refine f_bind ?_; intro x4 hx4
      refine f_bind ?_; intro x5 hx5
      refine f_bind ?_; intro x6 hx6
      refine f_bind ?_; intro x7 hx7
      refine f_ck fun g8 => ?_
      refine f_bind ?_; intro x9 hx9
      refine f_bind ?_; intro x10 hx10
      refine f_bind ?_; intro x11 hx11
      refine f_bind ?_; intro x12 hx12
      refine f_ck fun g13 => ?_
      refine f_bind ?_; intro H14 hH14
      refine f_ck fun g15 => ?_
      refine f_bind ?_; intro H16 hH16
      refine f_draw (Φ := fun _ => True) (lim := 1000000) [0, 0, 0, 0, 0, 0, 0, 1, 0, 0, 0, 1, 0, 2, 0, 2] (Trc.pure rfl rfl rfl (.inl fun _ => s_mv (v := .sl v1) rfl) (Trc.pure rfl rfl rfl (.inl fun _ => s_mv (v := .int .i64 v4) rfl) (Trc.pure rfl rfl rfl (.inl fun _ => s_mv (v := .sl v1) rfl) (Trc.pure rfl rfl rfl (.inl fun _ => s_mv (v := .int .i64 v5) rfl) (Trc.pure rfl rfl rfl (.inl fun _ => s_mv (v := .sl v1) rfl) (Trc.pure rfl rfl rfl (.inl fun _ => s_mv (v := .int .i64 v5) rfl) (Trc.pure rfl rfl rfl (.inl fun _ => s_idx Try.underlying83 ty32 rfl rfl g3) (Trc.read rfl rfl rfl (s_loads Try.underlying32 rfl ty32 rfl (lds_cons (ldI_eq hx4) (lds_cons (ldI_eq hx5) (lds_cons (ldI_eq hx6) (lds_cons (ldI_eq hx7) (lds_nil)))))) (Trc.pure rfl rfl rfl (.inl fun _ => s_mv (v := .sl v1) rfl) (Trc.pure rfl rfl rfl (.inl fun _ => s_mv (v := .int .i64 v4) rfl) (Trc.pure rfl rfl rfl (.inl fun _ => s_idx Try.underlying83 ty32 rfl rfl g8) (Trc.read rfl rfl rfl (s_loads Try.underlying32 rfl ty32 rfl (lds_cons (ldI_eq hx9) (lds_cons (ldI_eq hx10) (lds_cons (ldI_eq hx11) (lds_cons (ldI_eq hx12) (lds_nil)))))) (Trc.pure rfl rfl rfl (.inl fun _ => s_idx Try.underlying83 ty32 rfl rfl g13) (Trc.eff rfl rfl rfl (fun _ => trivial) (s_stores ty32 rfl rfl rfl rfl hH14 (Nat.le_of_eq (sts_mono hH14).symm)) (Trc.pure rfl rfl rfl (.inl fun _ => s_idx Try.underlying83 ty32 rfl rfl g15) (Trc.eff rfl rfl rfl (fun _ => trivial) (s_stores ty32 rfl rfl rfl rfl hH16 (Nat.le_of_eq (sts_mono hH16).symm)) (Trc.nil (fun _ => trivial)))))))))))))))))) rfl (by decide +kernel) mixed ?_
      refine f_seq ?_
      refine f_region ?_
      refine f_op rfl rfl (s_mv (v := .int .i64 v4) rfl) ?_
      refine f_op rfl rfl (s_add rfl rfl) ?_
      refine f_op rfl rfl (s_as (v := .int .i64 (w64 (v4 + 1))) rfl) ?_
      refine f_nil ?_
      refine f_region ?_
      refine f_op rfl rfl (s_mv (v := .int .i64 v5) rfl) ?_
      refine f_op rfl rfl (s_sub rfl rfl) ?_
      refine f_op rfl rfl (s_as (v := .int .i64 (w64 (v5 - 1))) rfl) ?_
      refine f_nil ?_
      refine f_inBlock ?_
      refine f_inLoop ?_
      refine f_keep [0, 1, 4, 11, 12] ?_
      exact hkt0 v1 v2 v3 (w64 (v4 + 1)) (w64 (v5 - 1)) H16

theorem s120_l2 {app : App} (happ : AppSim Try.prog app) (kt0 : Sl → Int → AV → Int → Int → Hp → Option (Int × Hp)) (hkt0 : ∀ (v1 : Sl) (v2 : Int) (v3 : AV) (v4 : Int) (v5 : Int) (H : Hp), Fin Try.prog Try.f120 ret120 90 (todoAt (bodyOf Try.f120) [1, 1, 1, 0, 0, 0] []) [(0, .sl v1), (1, .int .i64 v2), (4, v3), (11, .int .i64 v4), (12, .int .i64 v5)] H (kt0 v1 v2 v3 v4 v5 H)) : ∀ (k_ : Nat) (v1 : Sl) (v2 : Int) (v3 : AV) (v4 : Int) (v5 : Int) (H : Hp), Fin Try.prog Try.f120 ret120 90 (todoAt (bodyOf Try.f120) [1, 1, 1, 0, 0, 0, 0, 1, 0, 0, 0] []) [(0, .sl v1), (1, .int .i64 v2), (4, v3), (11, .int .i64 v4), (12, .int .i64 v5)] H (r120_l2 app kt0 k_ v1 v2 v3 v4 v5 H) := by
  intro k_
  induction k_ with
  | zero => intro _ _ _ _ _ _; exact f_none
  | succ k_ ih =>
    intro v1 v2 v3 v4 v5 H
    rw [r120_l2]
    refine f_seq ?_
    refine f_seq ?_
    refine f_if (fun h1 => ?_) (fun h1 => ?_)
    · skip
      refine f_ck fun g2 => ?_
      refine f_bind ?_; intro x3 hx3
      refine f_bind ?_; intro x4 hx4
      refine f_bind ?_; intro x5 hx5
      refine f_bind ?_; intro x6 hx6
      refine f_ck fun g7 => ?_
      refine f_bind ?_; intro x8 hx8
      refine f_bind ?_; intro x9 hx9
      refine f_bind ?_; intro x10 hx10
      refine f_bind ?_; intro x11 hx11
      refine f_bind ?_; intro p12 hp12
      refine f_bind ?_; intro x13 hx13
      refine f_draw (Φ := fun _ => True) (lim := 1000000) [0, 0, 0, 0, 0, 0, 0, 0, 1, 0, 0, 0, 1, 2, 0, 0] (Trc.pure rfl rfl rfl (.inl fun _ => s_mv (v := .int .i64 v4) rfl) (Trc.pure rfl rfl rfl (.inl fun _ => s_mv (v := .int .i64 v5) rfl) (Trc.pure rfl rfl rfl (.inl fun _ => s_leq rfl rfl) (Trc.pure rfl rfl rfl (.inl fun _ => s_mv (v := .bool (decide (v4 ≤ v5))) rfl) (Trc.know 53 rfl (dec_true h1) (Trc.pure rfl rfl rfl (.inl fun _ => s_mv (v := v3) rfl) (Trc.pure rfl rfl rfl (.inl fun _ => s_mv (v := .sl v1) rfl) (Trc.pure rfl rfl rfl (.inl fun _ => s_mv (v := .int .i64 v2) rfl) (Trc.pure rfl rfl rfl (.inl fun _ => s_idx Try.underlying83 ty32 rfl rfl g2) (Trc.read rfl rfl rfl (s_loads Try.underlying32 rfl ty32 rfl (lds_cons (ldI_eq hx3) (lds_cons (ldI_eq hx4) (lds_cons (ldI_eq hx5) (lds_cons (ldI_eq hx6) (lds_nil)))))) (Trc.pure rfl rfl rfl (.inl fun _ => s_mv (v := .sl v1) rfl) (Trc.pure rfl rfl rfl (.inl fun _ => s_mv (v := .int .i64 v5) rfl) (Trc.pure rfl rfl rfl (.inl fun _ => s_idx Try.underlying83 ty32 rfl rfl g7) (Trc.read rfl rfl rfl (s_loads Try.underlying32 rfl ty32 rfl (lds_cons (ldI_eq hx8) (lds_cons (ldI_eq hx9) (lds_cons (ldI_eq hx10) (lds_cons (ldI_eq hx11) (lds_nil)))))) (Trc.eff rfl rfl rfl (fun _ => trivial) (s_callv happ rfl rfl hp12) (Trc.know 63 rfl (asI_eq hx13) (Trc.pure rfl rfl rfl (.inl fun _ => s_lss rfl rfl) (Trc.pure rfl rfl rfl (.inl fun _ => s_pickT (v := .bool (decide (x13 < 0))) rfl rfl) (Trc.nil (fun _ => trivial)))))))))))))))))))) rfl (by decide +kernel) mixed ?_
      refine f_keep [0, 1, 4, 11, 12, 65] ?_
      exact s120_j4 happ _ hkt0 _ (fun v1_ v2_ v3_ v4_ v5_ H_ => ih v1_ v2_ v3_ v4_ v5_ H_) v1 v2 v3 v4 v5 (decide (x13 < 0)) p12.2
    · skip
      refine f_draw (Φ := fun _ => True) (lim := 1000000) [0, 0, 0, 0, 0, 0, 0, 0, 0, 0, 0, 0, 0, 0, 0, 0] (Trc.pure rfl rfl rfl (.inl fun _ => s_mv (v := .int .i64 v4) rfl) (Trc.pure rfl rfl rfl (.inl fun _ => s_mv (v := .int .i64 v5) rfl) (Trc.pure rfl rfl rfl (.inl fun _ => s_leq rfl rfl) (Trc.pure rfl rfl rfl (.inl fun _ => s_mv (v := .bool (decide (v4 ≤ v5))) rfl) (Trc.know 53 rfl (dec_false h1) (Trc.no rfl rfl rfl (Trc.no rfl rfl rfl (Trc.no rfl rfl rfl (Trc.no rfl rfl rfl (Trc.no rfl rfl rfl (Trc.no rfl rfl rfl (Trc.no rfl rfl rfl (Trc.no rfl rfl rfl (Trc.no rfl rfl rfl (Trc.no rfl rfl rfl (Trc.no rfl rfl rfl (Trc.pure rfl rfl rfl (.inl fun _ => s_pickF (v := .bool false) rfl rfl) (Trc.nil (fun _ => trivial))))))))))))))))))) rfl (by decide +kernel) mixed ?_
      refine f_keep [0, 1, 4, 11, 12, 65] ?_
      exact s120_j4 happ _ hkt0 _ (fun v1_ v2_ v3_ v4_ v5_ H_ => ih v1_ v2_ v3_ v4_ v5_ H_) v1 v2 v3 v4 v5 false H

theorem s120_j3 {app : App} (happ : AppSim Try.prog app) (kt0 : Sl → Int → AV → Int → Int → Hp → Option (Int × Hp)) (hkt0 : ∀ (v1 : Sl) (v2 : Int) (v3 : AV) (v4 : Int) (v5 : Int) (H : Hp), Fin Try.prog Try.f120 ret120 90 (todoAt (bodyOf Try.f120) [1, 1, 1, 0, 0, 0] []) [(0, .sl v1), (1, .int .i64 v2), (4, v3), (11, .int .i64 v4), (12, .int .i64 v5)] H (kt0 v1 v2 v3 v4 v5 H)) (kt1 : Sl → Int → AV → Int → Int → Hp → Option (Int × Hp)) (hkt1 : ∀ (v1 : Sl) (v2 : Int) (v3 : AV) (v4 : Int) (v5 : Int) (H : Hp), Fin Try.prog Try.f120 ret120 90 (todoAt (bodyOf Try.f120) [1, 1, 1, 0, 0, 0, 0, 0, 0, 0] []) [(0, .sl v1), (1, .int .i64 v2), (4, v3), (11, .int .i64 v4), (12, .int .i64 v5)] H (kt1 v1 v2 v3 v4 v5 H)) (v1 : Sl) (v2 : Int) (v3 : AV) (v4 : Int) (v5 : Int) (v6 : Bool) (H : Hp) : Fin Try.prog Try.f120 ret120 90 (todoAt (bodyOf Try.f120) [1, 1, 1, 0, 0, 0, 0, 0, 0, 0, 0, 1] []) [(0, .sl v1), (1, .int .i64 v2), (4, v3), (11, .int .i64 v4), (12, .int .i64 v5), (47, .bool v6)] H (r120_j3 app kt0 kt1 v1 v2 v3 v4 v5 v6 H) := by
  unfold r120_j3
  refine f_if (fun h1 => ?_) (fun h1 => ?_)
  · skip
    refine f_know 47 rfl (bool_T h1) ?_
    refine f_condT rfl ?_
    refine f_skip ?_
    refine f_block ?_
    refine f_region ?_
    refine f_op rfl rfl (s_mv (v := .int .i64 v4) rfl) ?_
    refine f_op rfl rfl (s_add rfl rfl) ?_
    refine f_op rfl rfl (s_as (v := .int .i64 (w64 (v4 + 1))) rfl) ?_
    refine f_nil ?_
    refine f_inBlock ?_
    refine f_inLoop ?_
    refine f_keep [0, 1, 4, 11, 12] ?_
    exact hkt1 v1 v2 v3 (w64 (v4 + 1)) v5 H
  · skip
    refine f_know 47 rfl (bool_F h1) ?_
    refine f_condF rfl ?_
    refine f_exit rfl ?_
    refine f_seq ?_
    refine f_block ?_
    refine f_loop ?_
    refine f_keep [0, 1, 4, 11, 12] ?_
    exact s120_l2 happ _ hkt0 FUEL v1 v2 v3 v4 v5 H

theorem s120_l1 {app : App} (happ : AppSim Try.prog app) (kt0 : Sl → Int → AV → Int → Int → Hp → Option (Int × Hp)) (hkt0 : ∀ (v1 : Sl) (v2 : Int) (v3 : AV) (v4 : Int) (v5 : Int) (H : Hp), Fin Try.prog Try.f120 ret120 90 (todoAt (bodyOf Try.f120) [1, 1, 1, 0, 0, 0] []) [(0, .sl v1), (1, .int .i64 v2), (4, v3), (11, .int .i64 v4), (12, .int .i64 v5)] H (kt0 v1 v2 v3 v4 v5 H)) : ∀ (k_ : Nat) (v1 : Sl) (v2 : Int) (v3 : AV) (v4 : Int) (v5 : Int) (H : Hp), Fin Try.prog Try.f120 ret120 90 (todoAt (bodyOf Try.f120) [1, 1, 1, 0, 0, 0, 0, 0, 0, 0] []) [(0, .sl v1), (1, .int .i64 v2), (4, v3), (11, .int .i64 v4), (12, .int .i64 v5)] H (r120_l1 app kt0 k_ v1 v2 v3 v4 v5 H) := by
  intro k_
  induction k_ with
  | zero => intro _ _ _ _ _ _; exact f_none
  | succ k_ ih =>
    intro v1 v2 v3 v4 v5 H
    rw [r120_l1]
    refine f_seq ?_
    refine f_seq ?_
    refine f_if (fun h1 => ?_) (fun h1 => ?_)
    · skip
      refine f_ck fun g2 => ?_
      refine f_bind ?_; intro x3 hx3
      refine f_bind ?_; intro x4 hx4
      refine f_bind ?_; intro x5 hx5
      refine f_bind ?_; intro x6 hx6
      refine f_ck fun g7 => ?_
      refine f_bind ?_; intro x8 hx8
      refine f_bind ?_; intro x9 hx9
      refine f_bind ?_; intro x10 hx10
      refine f_bind ?_; intro x11 hx11
      refine f_bind ?_; intro p12 hp12
      refine f_bind ?_; intro x13 hx13
      refine f_draw (Φ := fun _ => True) (lim := 1000000) [0, 0, 0, 0, 0, 0, 0, 0, 1, 0, 0, 0, 1, 2, 0, 0, 0] (Trc.pure rfl rfl rfl (.inl fun _ => s_mv (v := .int .i64 v4) rfl) (Trc.pure rfl rfl rfl (.inl fun _ => s_mv (v := .int .i64 v5) rfl) (Trc.pure rfl rfl rfl (.inl fun _ => s_leq rfl rfl) (Trc.pure rfl rfl rfl (.inl fun _ => s_mv (v := .bool (decide (v4 ≤ v5))) rfl) (Trc.know 34 rfl (dec_true h1) (Trc.pure rfl rfl rfl (.inl fun _ => s_mv (v := v3) rfl) (Trc.pure rfl rfl rfl (.inl fun _ => s_mv (v := .sl v1) rfl) (Trc.pure rfl rfl rfl (.inl fun _ => s_mv (v := .int .i64 v2) rfl) (Trc.pure rfl rfl rfl (.inl fun _ => s_idx Try.underlying83 ty32 rfl rfl g2) (Trc.read rfl rfl rfl (s_loads Try.underlying32 rfl ty32 rfl (lds_cons (ldI_eq hx3) (lds_cons (ldI_eq hx4) (lds_cons (ldI_eq hx5) (lds_cons (ldI_eq hx6) (lds_nil)))))) (Trc.pure rfl rfl rfl (.inl fun _ => s_mv (v := .sl v1) rfl) (Trc.pure rfl rfl rfl (.inl fun _ => s_mv (v := .int .i64 v4) rfl) (Trc.pure rfl rfl rfl (.inl fun _ => s_idx Try.underlying83 ty32 rfl rfl g7) (Trc.read rfl rfl rfl (s_loads Try.underlying32 rfl ty32 rfl (lds_cons (ldI_eq hx8) (lds_cons (ldI_eq hx9) (lds_cons (ldI_eq hx10) (lds_cons (ldI_eq hx11) (lds_nil)))))) (Trc.eff rfl rfl rfl (fun _ => trivial) (s_callv happ rfl rfl hp12) (Trc.know 44 rfl (asI_eq hx13) (Trc.pure rfl rfl rfl (.inl fun _ => s_lss rfl rfl) (Trc.pure rfl rfl rfl (.inl fun _ => s_not rfl) (Trc.pure rfl rfl rfl (.inl fun _ => s_pickT (v := .bool (!(decide (x13 < 0)))) rfl rfl) (Trc.nil (fun _ => trivial))))))))))))))))))))) rfl (by decide +kernel) mixed ?_
      refine f_keep [0, 1, 4, 11, 12, 47] ?_
      exact s120_j3 happ _ hkt0 _ (fun v1_ v2_ v3_ v4_ v5_ H_ => ih v1_ v2_ v3_ v4_ v5_ H_) v1 v2 v3 v4 v5 (!(decide (x13 < 0))) p12.2
    · skip
      refine f_draw (Φ := fun _ => True) (lim := 1000000) [0, 0, 0, 0, 0, 0, 0, 0, 0, 0, 0, 0, 0, 0, 0, 0, 0] (Trc.pure rfl rfl rfl (.inl fun _ => s_mv (v := .int .i64 v4) rfl) (Trc.pure rfl rfl rfl (.inl fun _ => s_mv (v := .int .i64 v5) rfl) (Trc.pure rfl rfl rfl (.inl fun _ => s_leq rfl rfl) (Trc.pure rfl rfl rfl (.inl fun _ => s_mv (v := .bool (decide (v4 ≤ v5))) rfl) (Trc.know 34 rfl (dec_false h1) (Trc.no rfl rfl rfl (Trc.no rfl rfl rfl (Trc.no rfl rfl rfl (Trc.no rfl rfl rfl (Trc.no rfl rfl rfl (Trc.no rfl rfl rfl (Trc.no rfl rfl rfl (Trc.no rfl rfl rfl (Trc.no rfl rfl rfl (Trc.no rfl rfl rfl (Trc.no rfl rfl rfl (Trc.no rfl rfl rfl (Trc.pure rfl rfl rfl (.inl fun _ => s_pickF (v := .bool false) rfl rfl) (Trc.nil (fun _ => trivial)))))))))))))))))))) rfl (by decide +kernel) mixed ?_
      refine f_keep [0, 1, 4, 11, 12, 47] ?_
      exact s120_j3 happ _ hkt0 _ (fun v1_ v2_ v3_ v4_ v5_ H_ => ih v1_ v2_ v3_ v4_ v5_ H_) v1 v2 v3 v4 v5 false H

theorem s120_l0 {app : App} (happ : AppSim Try.prog app) : ∀ (k_ : Nat) (v1 : Sl) (v2 : Int) (v3 : AV) (v4 : Int) (v5 : Int) (H : Hp), Fin Try.prog Try.f120 ret120 90 (todoAt (bodyOf Try.f120) [1, 1, 1, 0, 0, 0] []) [(0, .sl v1), (1, .int .i64 v2), (4, v3), (11, .int .i64 v4), (12, .int .i64 v5)] H (r120_l0 app k_ v1 v2 v3 v4 v5 H) := by
  intro k_
  induction k_ with
  | zero => intro _ _ _ _ _ _; exact f_none
  | succ k_ ih =>
    intro v1 v2 v3 v4 v5 H
    rw [r120_l0]
    refine f_block ?_
    refine f_seq ?_
    refine f_block ?_
    refine f_loop ?_
    refine f_keep [0, 1, 4, 11, 12] ?_
    exact s120_l1 happ _ (fun v1_ v2_ v3_ v4_ v5_ H_ => ih v1_ v2_ v3_ v4_ v5_ H_) FUEL v1 v2 v3 v4 v5 H

theorem sim120 {app : App} (happ : AppSim Try.prog app) {a0 : Sl} {a1 : Int} {a2 : Int} {a3 : Int} {a4 : AV} {H : Hp} {p : Int × Hp} (h : r120 app a0 a1 a2 a3 a4 H = some p) : CallSim Try.prog 120 [.sl a0, .int .i64 a1, .int .i64 a2, .int .i64 a3, a4] H (.int .i64 p.1) p.2 := by
  refine callSim (fn := Try.f120) (ret := ret120) Try.func120 rfl Try.ntmps120 rfl ?_ h
  unfold r120
  refine f_seq ?_
  refine f_region ?_
  refine f_op rfl rfl (s_as (v := .int .i64 0) rfl) ?_
  refine f_nil ?_
  refine f_seq ?_
  refine f_ck fun g1 => ?_
  refine f_bind ?_; intro x2 hx2
  refine f_bind ?_; intro x3 hx3
  refine f_bind ?_; intro x4 hx4
  refine f_bind ?_; intro x5 hx5
  refine f_ck fun g6 => ?_
  refine f_bind ?_; intro x7 hx7
  refine f_bind ?_; intro x8 hx8
  refine f_bind ?_; intro x9 hx9
  refine f_bind ?_; intro x10 hx10
  refine f_ck fun g11 => ?_
  refine f_bind ?_; intro H12 hH12
  refine f_ck fun g13 => ?_
  refine f_bind ?_; intro H14 hH14
  refine f_draw (Φ := fun _ => True) (lim := 1000000) [0, 0, 0, 0, 0, 0, 0, 1, 0, 0, 0, 1, 0, 2, 0, 2] (Trc.pure rfl rfl rfl (.inl fun _ => s_mv (v := .sl a0) rfl) (Trc.pure rfl rfl rfl (.inl fun _ => s_mv (v := .int .i64 a1) rfl) (Trc.pure rfl rfl rfl (.inl fun _ => s_mv (v := .sl a0) rfl) (Trc.pure rfl rfl rfl (.inl fun _ => s_mv (v := .int .i64 a3) rfl) (Trc.pure rfl rfl rfl (.inl fun _ => s_mv (v := .sl a0) rfl) (Trc.pure rfl rfl rfl (.inl fun _ => s_mv (v := .int .i64 a3) rfl) (Trc.pure rfl rfl rfl (.inl fun _ => s_idx Try.underlying83 ty32 rfl rfl g1) (Trc.read rfl rfl rfl (s_loads Try.underlying32 rfl ty32 rfl (lds_cons (ldI_eq hx2) (lds_cons (ldI_eq hx3) (lds_cons (ldI_eq hx4) (lds_cons (ldI_eq hx5) (lds_nil)))))) (Trc.pure rfl rfl rfl (.inl fun _ => s_mv (v := .sl a0) rfl) (Trc.pure rfl rfl rfl (.inl fun _ => s_mv (v := .int .i64 a1) rfl) (Trc.pure rfl rfl rfl (.inl fun _ => s_idx Try.underlying83 ty32 rfl rfl g6) (Trc.read rfl rfl rfl (s_loads Try.underlying32 rfl ty32 rfl (lds_cons (ldI_eq hx7) (lds_cons (ldI_eq hx8) (lds_cons (ldI_eq hx9) (lds_cons (ldI_eq hx10) (lds_nil)))))) (Trc.pure rfl rfl rfl (.inl fun _ => s_idx Try.underlying83 ty32 rfl rfl g11) (Trc.eff rfl rfl rfl (fun _ => trivial) (s_stores ty32 rfl rfl rfl rfl hH12 (Nat.le_of_eq (sts_mono hH12).symm)) (Trc.pure rfl rfl rfl (.inl fun _ => s_idx Try.underlying83 ty32 rfl rfl g13) (Trc.eff rfl rfl rfl (fun _ => trivial) (s_stores ty32 rfl rfl rfl rfl hH14 (Nat.le_of_eq (sts_mono hH14).symm)) (Trc.nil (fun _ => trivial)))))))))))))))))) rfl (by decide +kernel) mixed ?_
  refine f_seq ?_
  refine f_region ?_
  refine f_op rfl rfl (s_mv (v := .int .i64 a1) rfl) ?_
  refine f_op rfl rfl (s_add rfl rfl) ?_
  refine f_op rfl rfl (s_mv (v := .int .i64 a2) rfl) ?_
  refine f_op rfl rfl (s_sub rfl rfl) ?_
  refine f_op rfl rfl (s_as (v := .int .i64 (w64 (a1 + 1))) rfl) ?_
  refine f_op rfl rfl (s_as (v := .int .i64 (w64 (a2 - 1))) rfl) ?_
  refine f_nil ?_
  refine f_seq ?_
  refine f_block ?_
  refine f_loop ?_
  refine f_keep [0, 1, 4, 11, 12] ?_
  exact s120_l0 happ FUEL a0 a1 a4 (w64 (a1 + 1)) (w64 (a2 - 1)) H14

end Go.Lt.P2
