/- PRINTED BY A PROGRAM OF OURS: what each function that 'PairsRenamed' reaches computes on the abstract heap, and that the translated code does just that. Nothing is asked of the input. -/
import Derived.Test.YthmhdbmpeepmaaaG17P0
set_option linter.unusedVariables false
set_option linter.unusedSimpArgs false
set_option maxRecDepth 100000
set_option maxHeartbeats 4000000
namespace Go.Lt.P8
open Go Go.Lt Go.Proofs
/- 64 congou/congouref08.IsRounds -/
theorem ok64 : FnOk Try.prog 64 := ⟨⟨Try.f64, Try.func64, by kernel_rfl, rfl⟩⟩
theorem s64_j2 (kt1 : Int → Nat → Sl → Int → Sl → Int → Int → Sl → Int → Int → Hp → Option (Bool × Hp)) (hkt1 : ∀ (v1 : Int) (v2 : Nat) (v3 : Sl) (v4 : Int) (v5 : Sl) (v6 : Int) (v7 : Int) (v8 : Sl) (v9 : Int) (v10 : Int) (H : Hp), Fin Try.prog Try.f64 ret64 101 (todoAt (bodyOf Try.f64) [1, 1, 1, 0, 1, 0, 0, 1, 1, 0, 0, 1, 1, 1, 1, 0, 0] []) [(0, .int .i64 v1), (5, .ptr v2 0), (7, .sl v3), (8, .int .i64 v4), (19, .sl v5), (20, .int .i64 v6), (21, .int .i64 v7), (29, .sl v8), (30, .int .i64 v9), (31, .int .i64 v10)] H (kt1 v1 v2 v3 v4 v5 v6 v7 v8 v9 v10 H)) (v1 : Int) (v2 : Nat) (v3 : Sl) (v4 : Int) (v5 : Int) (v6 : Int) (v7 : Sl) (v8 : Int) (v9 : Int) (v10 : Sl) (v11 : Int) (v12 : Int) (v13 : Bool) (H : Hp) : Fin Try.prog Try.f64 ret64 101 (todoAt (bodyOf Try.f64) [1, 1, 1, 0, 1, 0, 0, 1, 1, 0, 0, 1, 1, 1, 1, 0, 0, 1, 1, 0, 0, 1, 1, 0, 1] []) [(0, .int .i64 v1), (5, .ptr v2 0), (7, .sl v3), (8, .int .i64 v4), (11, .int .i64 v5), (12, .int .i64 v6), (19, .sl v7), (20, .int .i64 v8), (21, .int .i64 v9), (29, .sl v10), (30, .int .i64 v11), (31, .int .i64 v12), (87, .bool v13)] H (r64_j2 kt1 v1 v2 v3 v4 v5 v6 v7 v8 v9 v10 v11 v12 v13 H) := by
  unfold r64_j2
  refine f_if (fun h1 => ?_) (fun h1 => ?_)
  · skip
    refine f_know 87 rfl (bool_T h1) ?_
    refine f_condT rfl ?_
    refine f_seq ?_
    refine f_region ?_
    refine f_op rfl rfl (s_as (v := .bool false) rfl) ?_
    refine f_nil ?_
    exact f_ret (.tmp rfl (.nil)) rfl
  · skip
    refine f_know 87 rfl (bool_F h1) ?_
    refine f_condF rfl ?_
    refine f_skip ?_
    refine f_seq ?_
    refine f_region ?_
    refine f_op rfl rfl (s_mv (v := .int .i64 v5) rfl) ?_
    refine f_op rfl rfl (s_mv (v := .int .i64 v6) rfl) ?_
    refine o_ck fun g2 => ?_
    refine f_op rfl rfl (s_idxA Try.underlying111 ty110 rfl rfl g2) ?_
    refine o_ck fun g3 => ?_
    refine f_op rfl rfl (s_idxA Try.underlying110 ty4 rfl rfl g3) ?_
    refine o_bind ?_; intro H4 hH4
    refine f_op rfl rfl (s_store (s := 1) ty4 rfl rfl rfl hH4) ?_
    refine f_nil ?_
    refine f_ck fun g5 => ?_
    refine f_ck fun g6 => ?_
    refine f_draw (Φ := fun _ => True) [0, 0, 0, 0, 0, 0, 0, 0] (Trc.pure rfl rfl rfl (fun _ _ => s_mv (v := .int .i64 v4) rfl) (Trc.pure rfl rfl rfl (fun _ _ => s_mv (v := .int .i64 v5) rfl) (Trc.pure rfl rfl rfl (fun _ _ => s_shl rfl rfl g5) (Trc.pure rfl rfl rfl (fun _ _ => s_mv (v := .int .i64 v6) rfl) (Trc.pure rfl rfl rfl (fun _ _ => s_shl rfl rfl g6) (Trc.pure rfl rfl rfl (fun _ _ => s_or rfl rfl) (Trc.pure rfl rfl rfl (fun _ _ => s_or rfl rfl) (Trc.pure rfl rfl rfl (fun _ _ => s_as (v := .int .i64 (bitsOf .or .i64 v4 (bitsOf .or .i64 (shlOf .i64 1 v5) (shlOf .i64 1 v6)))) rfl) (Trc.nil (trivial)))))))))) rfl (by decide +kernel) mixed ?_
    refine f_inBlock ?_
    refine f_region ?_
    refine f_op rfl rfl (s_add rfl rfl) ?_
    refine f_op rfl rfl (s_mv (v := .int .i64 (w64 (v12 + 1))) rfl) ?_
    refine f_nil ?_
    refine f_inLoop ?_
    refine f_keep [0, 5, 7, 8, 19, 20, 21, 29, 30, 31] ?_
    exact hkt1 v1 v2 v3 (bitsOf .or .i64 v4 (bitsOf .or .i64 (shlOf .i64 1 v5) (shlOf .i64 1 v6))) v7 v8 v9 v10 v11 (w64 (v12 + 1)) H4

theorem s64_l1 (kt0 : Int → Nat → Sl → Int → Int → Hp → Option (Bool × Hp)) (hkt0 : ∀ (v1 : Int) (v2 : Nat) (v3 : Sl) (v4 : Int) (v5 : Int) (H : Hp), Fin Try.prog Try.f64 ret64 101 (todoAt (bodyOf Try.f64) [1, 1, 1, 0, 1, 0, 0] []) [(0, .int .i64 v1), (5, .ptr v2 0), (19, .sl v3), (20, .int .i64 v4), (21, .int .i64 v5)] H (kt0 v1 v2 v3 v4 v5 H)) : ∀ (k_ : Nat) (v1 : Int) (v2 : Nat) (v3 : Sl) (v4 : Int) (v5 : Sl) (v6 : Int) (v7 : Int) (v8 : Sl) (v9 : Int) (v10 : Int) (H : Hp), Fin Try.prog Try.f64 ret64 101 (todoAt (bodyOf Try.f64) [1, 1, 1, 0, 1, 0, 0, 1, 1, 0, 0, 1, 1, 1, 1, 0, 0] []) [(0, .int .i64 v1), (5, .ptr v2 0), (7, .sl v3), (8, .int .i64 v4), (19, .sl v5), (20, .int .i64 v6), (21, .int .i64 v7), (29, .sl v8), (30, .int .i64 v9), (31, .int .i64 v10)] H (r64_l1 kt0 k_ v1 v2 v3 v4 v5 v6 v7 v8 v9 v10 H) := by
  intro k_
  induction k_ with
  | zero => intro _ _ _ _ _ _ _ _ _ _ _; exact f_none
  | succ k_ ih =>
    intro v1 v2 v3 v4 v5 v6 v7 v8 v9 v10 H
    rw [r64_l1]
    refine f_seq ?_
    refine f_region ?_
    refine f_op rfl rfl (s_lss rfl rfl) ?_
    refine f_nil ?_
    refine f_seq ?_
    refine f_if (fun h1 => ?_) (fun h1 => ?_)
    · skip
      refine f_know 32 rfl (dec_true h1) ?_
      refine f_condT rfl ?_
      refine f_skip ?_
      refine f_seq ?_
      refine f_block ?_
      refine f_seq ?_
      refine f_region ?_
      refine f_op rfl rfl (s_mv (v := .int .i64 v10) rfl) ?_
      refine o_ck fun g2 => ?_
      refine f_op rfl rfl (s_idx Try.underlying40 ty43 rfl rfl g2) ?_
      refine o_bind ?_; intro x3 hx3
      refine o_bind ?_; intro x4 hx4
      refine f_op rfl rfl (s_loads Try.underlying43 rfl ty43 rfl (lds_cons (ldI_eq hx3) (lds_cons (ldI_eq hx4) (lds_nil)))) ?_
      refine f_op rfl rfl (s_alloc (zs := [.int .i64 0, .int .i64 0]) ty43 rfl rfl) ?_
      refine f_op rfl rfl (s_as (v := .int .i64 v10) rfl) ?_
      refine o_bind ?_; intro H5 hH5
      refine f_op rfl rfl (s_stores ty43 rfl rfl rfl rfl hH5 (Nat.le_of_eq (sts_mono hH5).symm)) ?_
      refine f_nil ?_
      refine f_seq ?_
      refine f_bind ?_; intro x6 hx6
      refine f_bind ?_; intro x7 hx7
      refine f_draw (Φ := fun _ => True) [0, 1, 0, 1, 0, 0] (Trc.pure rfl rfl rfl (fun _ _ => s_idxA Try.underlying43 ty3 rfl rfl (by decide)) (Trc.read rfl rfl rfl (s_load Try.underlying3 rfl rfl (ldI_eq hx6)) (Trc.pure rfl rfl rfl (fun _ _ => s_idxA Try.underlying43 ty3 rfl rfl (by decide)) (Trc.read rfl rfl rfl (s_load Try.underlying3 rfl rfl (ldI_eq hx7)) (Trc.pure rfl rfl rfl (fun _ _ => s_as (v := .int .i64 x6) rfl) (Trc.pure rfl rfl rfl (fun _ _ => s_as (v := .int .i64 x7) rfl) (Trc.nil (trivial)))))))) rfl (by decide +kernel) mixed ?_
      refine f_seq ?_
      refine f_seq ?_
      refine f_region ?_
      refine f_op rfl rfl (s_mv (v := .int .i64 x6) rfl) ?_
      refine f_op rfl rfl (s_lss rfl rfl) ?_
      refine f_op rfl rfl (s_mv (v := .bool (decide (x6 < 0))) rfl) ?_
      refine o_if (fun h8 => ?_) (fun h8 => ?_)
      · skip
        refine o_know 42 rfl (dec_true h8) ?_
        refine f_no rfl rfl ?_
        refine f_no rfl rfl ?_
        refine f_no rfl rfl ?_
        refine f_op rfl rfl (s_pickT (v := .bool true) rfl rfl) ?_
        refine f_op rfl rfl (s_mv (v := .bool true) rfl) ?_
        refine f_no rfl rfl ?_
        refine f_no rfl rfl ?_
        refine f_no rfl rfl ?_
        refine f_no rfl rfl ?_
        refine f_op rfl rfl (s_pickT (v := .bool true) rfl rfl) ?_
        refine f_op rfl rfl (s_mv (v := .bool true) rfl) ?_
        refine f_no rfl rfl ?_
        refine f_no rfl rfl ?_
        refine f_no rfl rfl ?_
        refine f_no rfl rfl ?_
        refine f_no rfl rfl ?_
        refine f_op rfl rfl (s_pickT (v := .bool true) rfl rfl) ?_
        refine f_op rfl rfl (s_mv (v := .bool true) rfl) ?_
        refine f_no rfl rfl ?_
        refine f_no rfl rfl ?_
        refine f_no rfl rfl ?_
        refine f_no rfl rfl ?_
        refine f_no rfl rfl ?_
        refine f_op rfl rfl (s_pickT (v := .bool true) rfl rfl) ?_
        refine f_op rfl rfl (s_mv (v := .bool true) rfl) ?_
        refine f_no rfl rfl ?_
        refine f_no rfl rfl ?_
        refine f_no rfl rfl ?_
        refine f_no rfl rfl ?_
        refine f_no rfl rfl ?_
        refine f_op rfl rfl (s_pickT (v := .bool true) rfl rfl) ?_
        refine f_op rfl rfl (s_mv (v := .bool true) rfl) ?_
        refine f_no rfl rfl ?_
        refine f_no rfl rfl ?_
        refine f_no rfl rfl ?_
        refine f_no rfl rfl ?_
        refine f_no rfl rfl ?_
        refine f_no rfl rfl ?_
        refine f_no rfl rfl ?_
        refine f_no rfl rfl ?_
        refine f_no rfl rfl ?_
        refine f_no rfl rfl ?_
        refine f_no rfl rfl ?_
        refine f_no rfl rfl ?_
        refine f_op rfl rfl (s_pickT (v := .bool true) rfl rfl) ?_
        refine f_nil ?_
        refine f_keep [0, 5, 7, 8, 11, 12, 19, 20, 21, 29, 30, 31, 87] ?_
        exact s64_j2 _ (fun v1_ v2_ v3_ v4_ v5_ v6_ v7_ v8_ v9_ v10_ H_ => ih v1_ v2_ v3_ v4_ v5_ v6_ v7_ v8_ v9_ v10_ H_) v1 v2 v3 v4 x6 x7 v5 v6 v7 v8 v9 v10 true H5
      · skip
        refine o_know 42 rfl (dec_false h8) ?_
        refine f_op rfl rfl (s_mv (v := .int .i64 x6) rfl) ?_
        refine f_op rfl rfl (s_mv (v := .int .i64 x7) rfl) ?_
        refine f_op rfl rfl (s_geq rfl rfl) ?_
        refine f_op rfl rfl (s_pickF (v := .bool (decide (x7 ≤ x6))) rfl rfl) ?_
        refine f_op rfl rfl (s_mv (v := .bool (decide (x7 ≤ x6))) rfl) ?_
        refine o_if (fun h9 => ?_) (fun h9 => ?_)
        · skip
          refine o_know 47 rfl (dec_true h9) ?_
          refine f_no rfl rfl ?_
          refine f_no rfl rfl ?_
          refine f_no rfl rfl ?_
          refine f_no rfl rfl ?_
          refine f_op rfl rfl (s_pickT (v := .bool true) rfl rfl) ?_
          refine f_op rfl rfl (s_mv (v := .bool true) rfl) ?_
          refine f_no rfl rfl ?_
          refine f_no rfl rfl ?_
          refine f_no rfl rfl ?_
          refine f_no rfl rfl ?_
          refine f_no rfl rfl ?_
          refine f_op rfl rfl (s_pickT (v := .bool true) rfl rfl) ?_
          refine f_op rfl rfl (s_mv (v := .bool true) rfl) ?_
          refine f_no rfl rfl ?_
          refine f_no rfl rfl ?_
          refine f_no rfl rfl ?_
          refine f_no rfl rfl ?_
          refine f_no rfl rfl ?_
          refine f_op rfl rfl (s_pickT (v := .bool true) rfl rfl) ?_
          refine f_op rfl rfl (s_mv (v := .bool true) rfl) ?_
          refine f_no rfl rfl ?_
          refine f_no rfl rfl ?_
          refine f_no rfl rfl ?_
          refine f_no rfl rfl ?_
          refine f_no rfl rfl ?_
          refine f_op rfl rfl (s_pickT (v := .bool true) rfl rfl) ?_
          refine f_op rfl rfl (s_mv (v := .bool true) rfl) ?_
          refine f_no rfl rfl ?_
          refine f_no rfl rfl ?_
          refine f_no rfl rfl ?_
          refine f_no rfl rfl ?_
          refine f_no rfl rfl ?_
          refine f_no rfl rfl ?_
          refine f_no rfl rfl ?_
          refine f_no rfl rfl ?_
          refine f_no rfl rfl ?_
          refine f_no rfl rfl ?_
          refine f_no rfl rfl ?_
          refine f_no rfl rfl ?_
          refine f_op rfl rfl (s_pickT (v := .bool true) rfl rfl) ?_
          refine f_nil ?_
          refine f_keep [0, 5, 7, 8, 11, 12, 19, 20, 21, 29, 30, 31, 87] ?_
          exact s64_j2 _ (fun v1_ v2_ v3_ v4_ v5_ v6_ v7_ v8_ v9_ v10_ H_ => ih v1_ v2_ v3_ v4_ v5_ v6_ v7_ v8_ v9_ v10_ H_) v1 v2 v3 v4 x6 x7 v5 v6 v7 v8 v9 v10 true H5
        · skip
          refine o_know 47 rfl (dec_false h9) ?_
          refine f_op rfl rfl (s_mv (v := .int .i64 x7) rfl) ?_
          refine f_op rfl rfl (s_mv (v := .int .i64 v1) rfl) ?_
          refine f_op rfl rfl (s_mul rfl rfl) ?_
          refine f_op rfl rfl (s_geq rfl rfl) ?_
          refine f_op rfl rfl (s_pickF (v := .bool (decide ((w64 (2 * v1)) ≤ x7))) rfl rfl) ?_
          refine f_op rfl rfl (s_mv (v := .bool (decide ((w64 (2 * v1)) ≤ x7))) rfl) ?_
          refine o_if (fun h10 => ?_) (fun h10 => ?_)
          · skip
            refine o_know 53 rfl (dec_true h10) ?_
            refine f_no rfl rfl ?_
            refine f_no rfl rfl ?_
            refine f_no rfl rfl ?_
            refine f_no rfl rfl ?_
            refine f_no rfl rfl ?_
            refine f_op rfl rfl (s_pickT (v := .bool true) rfl rfl) ?_
            refine f_op rfl rfl (s_mv (v := .bool true) rfl) ?_
            refine f_no rfl rfl ?_
            refine f_no rfl rfl ?_
            refine f_no rfl rfl ?_
            refine f_no rfl rfl ?_
            refine f_no rfl rfl ?_
            refine f_op rfl rfl (s_pickT (v := .bool true) rfl rfl) ?_
            refine f_op rfl rfl (s_mv (v := .bool true) rfl) ?_
            refine f_no rfl rfl ?_
            refine f_no rfl rfl ?_
            refine f_no rfl rfl ?_
            refine f_no rfl rfl ?_
            refine f_no rfl rfl ?_
            refine f_op rfl rfl (s_pickT (v := .bool true) rfl rfl) ?_
            refine f_op rfl rfl (s_mv (v := .bool true) rfl) ?_
            refine f_no rfl rfl ?_
            refine f_no rfl rfl ?_
            refine f_no rfl rfl ?_
            refine f_no rfl rfl ?_
            refine f_no rfl rfl ?_
            refine f_no rfl rfl ?_
            refine f_no rfl rfl ?_
            refine f_no rfl rfl ?_
            refine f_no rfl rfl ?_
            refine f_no rfl rfl ?_
            refine f_no rfl rfl ?_
            refine f_no rfl rfl ?_
            refine f_op rfl rfl (s_pickT (v := .bool true) rfl rfl) ?_
            refine f_nil ?_
            refine f_keep [0, 5, 7, 8, 11, 12, 19, 20, 21, 29, 30, 31, 87] ?_
            exact s64_j2 _ (fun v1_ v2_ v3_ v4_ v5_ v6_ v7_ v8_ v9_ v10_ H_ => ih v1_ v2_ v3_ v4_ v5_ v6_ v7_ v8_ v9_ v10_ H_) v1 v2 v3 v4 x6 x7 v5 v6 v7 v8 v9 v10 true H5
          · skip
            refine o_know 53 rfl (dec_false h10) ?_
            refine f_op rfl rfl (s_mv (v := .int .i64 x6) rfl) ?_
            refine f_op rfl rfl (s_mv (v := .int .i64 x7) rfl) ?_
            refine o_ck fun g11 => ?_
            refine f_op rfl rfl (s_idxA Try.underlying111 ty110 rfl rfl g11) ?_
            refine o_ck fun g12 => ?_
            refine f_op rfl rfl (s_idxA Try.underlying110 ty4 rfl rfl g12) ?_
            refine o_bind ?_; intro x13 hx13
            refine f_op rfl rfl (s_load Try.underlying4 rfl rfl (ldB_eq hx13)) ?_
            refine f_op rfl rfl (s_pickF (v := .bool x13) rfl rfl) ?_
            refine f_op rfl rfl (s_mv (v := .bool x13) rfl) ?_
            refine o_if (fun h14 => ?_) (fun h14 => ?_)
            · skip
              refine o_know 60 rfl (bool_T h14) ?_
              refine f_no rfl rfl ?_
              refine f_no rfl rfl ?_
              refine f_no rfl rfl ?_
              refine f_no rfl rfl ?_
              refine f_no rfl rfl ?_
              refine f_op rfl rfl (s_pickT (v := .bool true) rfl rfl) ?_
              refine f_op rfl rfl (s_mv (v := .bool true) rfl) ?_
              refine f_no rfl rfl ?_
              refine f_no rfl rfl ?_
              refine f_no rfl rfl ?_
              refine f_no rfl rfl ?_
              refine f_no rfl rfl ?_
              refine f_op rfl rfl (s_pickT (v := .bool true) rfl rfl) ?_
              refine f_op rfl rfl (s_mv (v := .bool true) rfl) ?_
              refine f_no rfl rfl ?_
              refine f_no rfl rfl ?_
              refine f_no rfl rfl ?_
              refine f_no rfl rfl ?_
              refine f_no rfl rfl ?_
              refine f_no rfl rfl ?_
              refine f_no rfl rfl ?_
              refine f_no rfl rfl ?_
              refine f_no rfl rfl ?_
              refine f_no rfl rfl ?_
              refine f_no rfl rfl ?_
              refine f_no rfl rfl ?_
              refine f_op rfl rfl (s_pickT (v := .bool true) rfl rfl) ?_
              refine f_nil ?_
              refine f_keep [0, 5, 7, 8, 11, 12, 19, 20, 21, 29, 30, 31, 87] ?_
              exact s64_j2 _ (fun v1_ v2_ v3_ v4_ v5_ v6_ v7_ v8_ v9_ v10_ H_ => ih v1_ v2_ v3_ v4_ v5_ v6_ v7_ v8_ v9_ v10_ H_) v1 v2 v3 v4 x6 x7 v5 v6 v7 v8 v9 v10 true H5
            · skip
              refine o_know 60 rfl (bool_F h14) ?_
              refine f_op rfl rfl (s_mv (v := .int .i64 v4) rfl) ?_
              refine f_op rfl rfl (s_mv (v := .int .i64 x6) rfl) ?_
              refine o_ck fun g15 => ?_
              refine f_op rfl rfl (s_shr rfl rfl g15) ?_
              refine f_op rfl rfl (s_and rfl rfl) ?_
              refine f_op rfl rfl (s_eql rfl rfl) ?_
              refine f_op rfl rfl (s_pickF (v := .bool (decide ((bitsOf .and .i64 (shrOf .i64 v4 x6) 1) = 1))) rfl rfl) ?_
              refine f_op rfl rfl (s_mv (v := .bool (decide ((bitsOf .and .i64 (shrOf .i64 v4 x6) 1) = 1))) rfl) ?_
              refine o_if (fun h16 => ?_) (fun h16 => ?_)
              · skip
                refine o_know 67 rfl (dec_true h16) ?_
                refine f_no rfl rfl ?_
                refine f_no rfl rfl ?_
                refine f_no rfl rfl ?_
                refine f_no rfl rfl ?_
                refine f_no rfl rfl ?_
                refine f_op rfl rfl (s_pickT (v := .bool true) rfl rfl) ?_
                refine f_op rfl rfl (s_mv (v := .bool true) rfl) ?_
                refine f_no rfl rfl ?_
                refine f_no rfl rfl ?_
                refine f_no rfl rfl ?_
                refine f_no rfl rfl ?_
                refine f_no rfl rfl ?_
                refine f_no rfl rfl ?_
                refine f_no rfl rfl ?_
                refine f_no rfl rfl ?_
                refine f_no rfl rfl ?_
                refine f_no rfl rfl ?_
                refine f_no rfl rfl ?_
                refine f_no rfl rfl ?_
                refine f_op rfl rfl (s_pickT (v := .bool true) rfl rfl) ?_
                refine f_nil ?_
                refine f_keep [0, 5, 7, 8, 11, 12, 19, 20, 21, 29, 30, 31, 87] ?_
                exact s64_j2 _ (fun v1_ v2_ v3_ v4_ v5_ v6_ v7_ v8_ v9_ v10_ H_ => ih v1_ v2_ v3_ v4_ v5_ v6_ v7_ v8_ v9_ v10_ H_) v1 v2 v3 v4 x6 x7 v5 v6 v7 v8 v9 v10 true H5
              · skip
                refine o_know 67 rfl (dec_false h16) ?_
                refine f_op rfl rfl (s_mv (v := .int .i64 v4) rfl) ?_
                refine f_op rfl rfl (s_mv (v := .int .i64 x7) rfl) ?_
                refine o_ck fun g17 => ?_
                refine f_op rfl rfl (s_shr rfl rfl g17) ?_
                refine f_op rfl rfl (s_and rfl rfl) ?_
                refine f_op rfl rfl (s_eql rfl rfl) ?_
                refine f_op rfl rfl (s_pickF (v := .bool (decide ((bitsOf .and .i64 (shrOf .i64 v4 x7) 1) = 1))) rfl rfl) ?_
                refine f_op rfl rfl (s_mv (v := .bool (decide ((bitsOf .and .i64 (shrOf .i64 v4 x7) 1) = 1))) rfl) ?_
                refine o_if (fun h18 => ?_) (fun h18 => ?_)
                · skip
                  refine o_know 74 rfl (dec_true h18) ?_
                  refine f_no rfl rfl ?_
                  refine f_no rfl rfl ?_
                  refine f_no rfl rfl ?_
                  refine f_no rfl rfl ?_
                  refine f_no rfl rfl ?_
                  refine f_no rfl rfl ?_
                  refine f_no rfl rfl ?_
                  refine f_no rfl rfl ?_
                  refine f_no rfl rfl ?_
                  refine f_no rfl rfl ?_
                  refine f_no rfl rfl ?_
                  refine f_no rfl rfl ?_
                  refine f_op rfl rfl (s_pickT (v := .bool true) rfl rfl) ?_
                  refine f_nil ?_
                  refine f_keep [0, 5, 7, 8, 11, 12, 19, 20, 21, 29, 30, 31, 87] ?_
                  exact s64_j2 _ (fun v1_ v2_ v3_ v4_ v5_ v6_ v7_ v8_ v9_ v10_ H_ => ih v1_ v2_ v3_ v4_ v5_ v6_ v7_ v8_ v9_ v10_ H_) v1 v2 v3 v4 x6 x7 v5 v6 v7 v8 v9 v10 true H5
                · skip
                  refine o_know 74 rfl (dec_false h18) ?_
                  refine f_op rfl rfl (s_mv (v := .int .i64 v10) rfl) ?_
                  refine f_op rfl rfl (s_gtr rfl rfl) ?_
                  refine f_op rfl rfl (s_mv (v := .bool (decide (0 < v10))) rfl) ?_
                  refine o_if (fun h19 => ?_) (fun h19 => ?_)
                  · skip
                    refine o_know 77 rfl (dec_true h19) ?_
                    refine f_op rfl rfl (s_mv (v := .sl v3) rfl) ?_
                    refine f_op rfl rfl (s_mv (v := .int .i64 v10) rfl) ?_
                    refine f_op rfl rfl (s_sub rfl rfl) ?_
                    refine o_ck fun g20 => ?_
                    refine f_op rfl rfl (s_idx Try.underlying40 ty43 rfl rfl g20) ?_
                    refine f_op rfl rfl (s_idxA Try.underlying43 ty3 rfl rfl (by decide)) ?_
                    refine o_bind ?_; intro x21 hx21
                    refine f_op rfl rfl (s_load Try.underlying3 rfl rfl (ldI_eq hx21)) ?_
                    refine f_op rfl rfl (s_mv (v := .int .i64 x6) rfl) ?_
                    refine f_op rfl rfl (s_geq rfl rfl) ?_
                    refine f_op rfl rfl (s_pickT (v := .bool (decide (x6 ≤ x21))) rfl rfl) ?_
                    refine f_op rfl rfl (s_pickF (v := .bool (decide (x6 ≤ x21))) rfl rfl) ?_
                    refine f_nil ?_
                    refine f_keep [0, 5, 7, 8, 11, 12, 19, 20, 21, 29, 30, 31, 87] ?_
                    exact s64_j2 _ (fun v1_ v2_ v3_ v4_ v5_ v6_ v7_ v8_ v9_ v10_ H_ => ih v1_ v2_ v3_ v4_ v5_ v6_ v7_ v8_ v9_ v10_ H_) v1 v2 v3 v4 x6 x7 v5 v6 v7 v8 v9 v10 (decide (x6 ≤ x21)) H5
                  · skip
                    refine o_know 77 rfl (dec_false h19) ?_
                    refine f_no rfl rfl ?_
                    refine f_no rfl rfl ?_
                    refine f_no rfl rfl ?_
                    refine f_no rfl rfl ?_
                    refine f_no rfl rfl ?_
                    refine f_no rfl rfl ?_
                    refine f_no rfl rfl ?_
                    refine f_no rfl rfl ?_
                    refine f_op rfl rfl (s_pickF (v := .bool false) rfl rfl) ?_
                    refine f_op rfl rfl (s_pickF (v := .bool false) rfl rfl) ?_
                    refine f_nil ?_
                    refine f_keep [0, 5, 7, 8, 11, 12, 19, 20, 21, 29, 30, 31, 87] ?_
                    exact s64_j2 _ (fun v1_ v2_ v3_ v4_ v5_ v6_ v7_ v8_ v9_ v10_ H_ => ih v1_ v2_ v3_ v4_ v5_ v6_ v7_ v8_ v9_ v10_ H_) v1 v2 v3 v4 x6 x7 v5 v6 v7 v8 v9 v10 false H5
    · skip
      refine f_know 32 rfl (dec_false h1) ?_
      refine f_condF rfl ?_
      refine f_exit rfl ?_
      refine f_inBlock ?_
      refine f_region ?_
      refine f_op rfl rfl (s_add rfl rfl) ?_
      refine f_op rfl rfl (s_mv (v := .int .i64 (w64 (v7 + 1))) rfl) ?_
      refine f_nil ?_
      refine f_inLoop ?_
      refine f_keep [0, 5, 19, 20, 21] ?_
      exact hkt0 v1 v2 v5 v6 (w64 (v7 + 1)) H

theorem s64_l0 : ∀ (k_ : Nat) (v1 : Int) (v2 : Nat) (v3 : Sl) (v4 : Int) (v5 : Int) (H : Hp), Fin Try.prog Try.f64 ret64 101 (todoAt (bodyOf Try.f64) [1, 1, 1, 0, 1, 0, 0] []) [(0, .int .i64 v1), (5, .ptr v2 0), (19, .sl v3), (20, .int .i64 v4), (21, .int .i64 v5)] H (r64_l0 k_ v1 v2 v3 v4 v5 H) := by
  intro k_
  induction k_ with
  | zero => intro _ _ _ _ _ _; exact f_none
  | succ k_ ih =>
    intro v1 v2 v3 v4 v5 H
    rw [r64_l0]
    refine f_seq ?_
    refine f_region ?_
    refine f_op rfl rfl (s_lss rfl rfl) ?_
    refine f_nil ?_
    refine f_seq ?_
    refine f_if (fun h1 => ?_) (fun h1 => ?_)
    · skip
      refine f_know 22 rfl (dec_true h1) ?_
      refine f_condT rfl ?_
      refine f_skip ?_
      refine f_seq ?_
      refine f_block ?_
      refine f_seq ?_
      refine f_region ?_
      refine o_ck fun g2 => ?_
      refine f_op rfl rfl (s_idx Try.underlying72 ty40 rfl rfl g2) ?_
      refine o_bind ?_; intro x3 hx3
      refine f_op rfl rfl (s_load Try.underlying40 rfl rfl (ldSl_eq hx3)) ?_
      refine f_op rfl rfl (s_as (v := .sl x3) rfl) ?_
      refine f_nil ?_
      refine f_seq ?_
      refine f_seq ?_
      refine f_region ?_
      refine f_op rfl rfl (s_mv (v := .sl x3) rfl) ?_
      refine f_op rfl rfl (s_lenS rfl Try.underlying40 rfl) ?_
      refine f_op rfl rfl (s_mv (v := .int .i64 v1) rfl) ?_
      refine f_op rfl rfl (s_neq rfl rfl) ?_
      refine f_nil ?_
      refine f_if (fun h4 => ?_) (fun h4 => ?_)
      · skip
        refine f_know 28 rfl (dec_true h4) ?_
        refine f_condT rfl ?_
        refine f_seq ?_
        refine f_region ?_
        refine f_op rfl rfl (s_as (v := .bool false) rfl) ?_
        refine f_nil ?_
        exact f_ret (.tmp rfl (.nil)) rfl
      · skip
        refine f_know 28 rfl (dec_false h4) ?_
        refine f_condF rfl ?_
        refine f_skip ?_
        refine f_seq ?_
        refine f_region ?_
        refine f_op rfl rfl (s_as (v := .int .i64 0) rfl) ?_
        refine f_nil ?_
        refine f_seq ?_
        refine f_region ?_
        refine f_op rfl rfl (s_mv (v := .sl x3) rfl) ?_
        refine f_op rfl rfl (s_lenS rfl Try.underlying40 rfl) ?_
        refine f_op rfl rfl (s_mv (v := .int .i64 0) rfl) ?_
        refine f_nil ?_
        refine f_block ?_
        refine f_loop ?_
        refine f_keep [0, 5, 7, 8, 19, 20, 21, 29, 30, 31] ?_
        exact s64_l1 _ (fun v1_ v2_ v3_ v4_ v5_ H_ => ih v1_ v2_ v3_ v4_ v5_ H_) FUEL v1 v2 x3 0 v3 v4 v5 x3 (x3.len : Int) 0 H
    · skip
      refine f_know 22 rfl (dec_false h1) ?_
      refine f_condF rfl ?_
      refine f_exit rfl ?_
      refine f_seq ?_
      refine f_region ?_
      refine f_op rfl rfl (s_as (v := .bool true) rfl) ?_
      refine f_nil ?_
      exact f_ret (.tmp rfl (.nil)) rfl

theorem sim64 {a0 : Int} {a1 : Sl} {H : Hp} {p : Bool × Hp} (h : r64 a0 a1 H = some p) : CallSim Try.prog 64 [.int .i64 a0, .sl a1] H (.bool p.1) p.2 := by
  refine callSim (fn := Try.f64) (ret := ret64) Try.func64 rfl Try.ntmps64 rfl ?_ h
  unfold r64
  refine f_seq ?_
  refine f_region ?_
  refine f_op rfl rfl (s_as (v := .bool false) rfl) ?_
  refine f_nil ?_
  refine f_seq ?_
  refine f_seq ?_
  refine f_region ?_
  refine f_op rfl rfl (s_mv (v := .sl a1) rfl) ?_
  refine f_op rfl rfl (s_lenS rfl Try.underlying72 rfl) ?_
  refine f_op rfl rfl (s_mv (v := .int .i64 a0) rfl) ?_
  refine f_op rfl rfl (s_mul rfl rfl) ?_
  refine f_op rfl rfl (s_sub rfl rfl) ?_
  refine f_op rfl rfl (s_neq rfl rfl) ?_
  refine f_nil ?_
  refine f_if (fun h1 => ?_) (fun h1 => ?_)
  · skip
    refine f_know 18 rfl (dec_true h1) ?_
    refine f_condT rfl ?_
    refine f_seq ?_
    refine f_region ?_
    refine f_op rfl rfl (s_as (v := .bool false) rfl) ?_
    refine f_nil ?_
    exact f_ret (.tmp rfl (.nil)) rfl
  · skip
    refine f_know 18 rfl (dec_false h1) ?_
    refine f_condF rfl ?_
    refine f_skip ?_
    refine f_seq ?_
    refine f_region ?_
    refine f_op rfl rfl (s_alloc (zs := [.bool false, .bool false, .bool false, .bool false, .bool false, .bool false, .bool false, .bool false, .bool false, .bool false, .bool false, .bool false, .bool false, .bool false, .bool false, .bool false, .bool false, .bool false, .bool false, .bool false, .bool false, .bool false, .bool false, .bool false, .bool false, .bool false, .bool false, .bool false, .bool false, .bool false, .bool false, .bool false, .bool false, .bool false, .bool false, .bool false, .bool false, .bool false, .bool false, .bool false, .bool false, .bool false, .bool false, .bool false, .bool false, .bool false, .bool false, .bool false, .bool false, .bool false, .bool false, .bool false, .bool false, .bool false, .bool false, .bool false, .bool false, .bool false, .bool false, .bool false, .bool false, .bool false, .bool false, .bool false]) ty111 rfl rfl) ?_
    refine o_hp ?_; intro H2 hH2
    refine f_nil ?_
    refine f_seq ?_
    refine f_seq ?_
    refine f_region ?_
    refine f_op rfl rfl (s_mv (v := .sl a1) rfl) ?_
    refine f_op rfl rfl (s_lenS rfl Try.underlying72 rfl) ?_
    refine f_op rfl rfl (s_mv (v := .int .i64 0) rfl) ?_
    refine f_nil ?_
    refine f_block ?_
    refine f_loop ?_
    refine f_keep [0, 5, 19, 20, 21] ?_
    exact s64_l0 FUEL a0 H.n a1 (a1.len : Int) 0 H2

/- 78 congou/congouref08.places -/
theorem ok78 : FnOk Try.prog 78 := ⟨⟨Try.f78, Try.func78, by kernel_rfl, rfl⟩⟩
theorem s78_l0 : ∀ (k_ : Nat) (v1 : Int) (v2 : Sl) (v3 : Sl) (v4 : Int) (v5 : Int) (H : Hp), Fin Try.prog Try.f78 ret78 24 (todoAt (bodyOf Try.f78) [1, 1, 0, 1, 0, 0] []) [(1, .int .i64 v1), (5, .sl v2), (8, .sl v3), (9, .int .i64 v4), (10, .int .i64 v5)] H (r78_l0 k_ v1 v2 v3 v4 v5 H) := by
  intro k_
  induction k_ with
  | zero => intro _ _ _ _ _ _; exact f_none
  | succ k_ ih =>
    intro v1 v2 v3 v4 v5 H
    rw [r78_l0]
    refine f_seq ?_
    refine f_region ?_
    refine f_op rfl rfl (s_lss rfl rfl) ?_
    refine f_nil ?_
    refine f_seq ?_
    refine f_if (fun h1 => ?_) (fun h1 => ?_)
    · skip
      refine f_know 11 rfl (dec_true h1) ?_
      refine f_condT rfl ?_
      refine f_skip ?_
      refine f_seq ?_
      refine f_block ?_
      refine f_seq ?_
      refine f_region ?_
      refine f_op rfl rfl (s_mv (v := .int .i64 v5) rfl) ?_
      refine o_ck fun g2 => ?_
      refine f_op rfl rfl (s_idx Try.underlying22 ty3 rfl rfl g2) ?_
      refine o_bind ?_; intro x3 hx3
      refine f_op rfl rfl (s_load Try.underlying3 rfl rfl (ldI_eq hx3)) ?_
      refine f_op rfl rfl (s_as (v := .int .i64 v5) rfl) ?_
      refine f_op rfl rfl (s_as (v := .int .i64 x3) rfl) ?_
      refine f_nil ?_
      refine f_seq ?_
      refine f_region ?_
      refine f_op rfl rfl (s_mv (v := .int .i64 x3) rfl) ?_
      refine f_op rfl rfl (s_mv (v := .int .i64 v1) rfl) ?_
      refine f_op rfl rfl (s_eql rfl rfl) ?_
      refine f_nil ?_
      refine f_if (fun h4 => ?_) (fun h4 => ?_)
      · skip
        refine f_know 17 rfl (dec_true h4) ?_
        refine f_condT rfl ?_
        refine f_region ?_
        refine f_op rfl rfl (s_mv (v := .sl v2) rfl) ?_
        refine f_op rfl rfl (s_mv (v := .int .i64 v5) rfl) ?_
        refine f_op rfl rfl (s_buildSlice (cs := [.int .i64 v5]) Try.underlying22 ty3 (by decide) (by decide) rfl (by decide) rfl) ?_
        refine o_bind ?_; intro x5 hx5
        refine f_op rfl rfl (s_ap rfl rfl Try.underlying22 Try.underlying22 ty3 rfl rfl rfl rfl rfl rfl rfl hx5) ?_
        refine f_op rfl rfl (s_as (v := .sl x5.1) rfl) ?_
        refine f_nil ?_
        refine f_inBlock ?_
        refine f_region ?_
        refine f_op rfl rfl (s_add rfl rfl) ?_
        refine f_op rfl rfl (s_mv (v := .int .i64 (w64 (v5 + 1))) rfl) ?_
        refine f_nil ?_
        refine f_inLoop ?_
        refine f_keep [1, 5, 8, 9, 10] ?_
        exact ih v1 x5.1 v3 v4 (w64 (v5 + 1)) x5.2
      · skip
        refine f_know 17 rfl (dec_false h4) ?_
        refine f_condF rfl ?_
        refine f_skip ?_
        refine f_inBlock ?_
        refine f_region ?_
        refine f_op rfl rfl (s_add rfl rfl) ?_
        refine f_op rfl rfl (s_mv (v := .int .i64 (w64 (v5 + 1))) rfl) ?_
        refine f_nil ?_
        refine f_inLoop ?_
        refine f_keep [1, 5, 8, 9, 10] ?_
        exact ih v1 v2 v3 v4 (w64 (v5 + 1)) H
    · skip
      refine f_know 11 rfl (dec_false h1) ?_
      refine f_condF rfl ?_
      refine f_exit rfl ?_
      refine f_seq ?_
      refine f_region ?_
      refine f_op rfl rfl (s_mv (v := .sl v2) rfl) ?_
      refine f_op rfl rfl (s_as (v := .sl v2) rfl) ?_
      refine f_nil ?_
      exact f_ret (.tmp rfl (.nil)) rfl

theorem sim78 {a0 : Sl} {a1 : Int} {H : Hp} {p : Sl × Hp} (h : r78 a0 a1 H = some p) : CallSim Try.prog 78 [.sl a0, .int .i64 a1] H (.sl p.1) p.2 := by
  refine callSim (fn := Try.f78) (ret := ret78) Try.func78 rfl Try.ntmps78 rfl ?_ h
  unfold r78
  refine f_seq ?_
  refine f_region ?_
  refine f_op rfl rfl (s_as (v := .sl ⟨true, 0, 0, 0, 0, 0⟩) rfl) ?_
  refine f_nil ?_
  refine f_seq ?_
  refine f_region ?_
  refine f_op rfl rfl (s_as (v := .sl ⟨true, 0, 0, 0, 0, 0⟩) rfl) ?_
  refine f_nil ?_
  refine f_seq ?_
  refine f_seq ?_
  refine f_region ?_
  refine f_op rfl rfl (s_mv (v := .sl a0) rfl) ?_
  refine f_op rfl rfl (s_lenS rfl Try.underlying22 rfl) ?_
  refine f_op rfl rfl (s_mv (v := .int .i64 0) rfl) ?_
  refine f_nil ?_
  refine f_block ?_
  refine f_loop ?_
  refine f_keep [1, 5, 8, 9, 10] ?_
  exact s78_l0 FUEL a1 ⟨true, 0, 0, 0, 0, 0⟩ a0 (a0.len : Int) 0 H

/- 65 congou/congouref08.All -/
theorem ok65 : FnOk Try.prog 65 := ⟨⟨Try.f65, Try.func65, by kernel_rfl, rfl⟩⟩
theorem s65_l0 : ∀ (k_ : Nat) (v1 : Sl) (v2 : Int) (v3 : Int) (v4 : Int) (H : Hp), Fin Try.prog Try.f65 ret65 20 (todoAt (bodyOf Try.f65) [1, 0, 1, 0, 0] []) [(0, .sl v1), (1, .int .i64 v2), (6, .int .i64 v3), (7, .int .i64 v4)] H (r65_l0 k_ v1 v2 v3 v4 H) := by
  intro k_
  induction k_ with
  | zero => intro _ _ _ _ _; exact f_none
  | succ k_ ih =>
    intro v1 v2 v3 v4 H
    rw [r65_l0]
    refine f_seq ?_
    refine f_region ?_
    refine f_op rfl rfl (s_lss rfl rfl) ?_
    refine f_nil ?_
    refine f_seq ?_
    refine f_if (fun h1 => ?_) (fun h1 => ?_)
    · skip
      refine f_know 8 rfl (dec_true h1) ?_
      refine f_condT rfl ?_
      refine f_skip ?_
      refine f_seq ?_
      refine f_block ?_
      refine f_seq ?_
      refine f_region ?_
      refine f_op rfl rfl (s_mv (v := .int .i64 v4) rfl) ?_
      refine f_op rfl rfl (s_as (v := .int .i64 v4) rfl) ?_
      refine f_nil ?_
      refine f_seq ?_
      refine f_region ?_
      refine f_op rfl rfl (s_mv (v := .sl v1) rfl) ?_
      refine f_op rfl rfl (s_mv (v := .int .i64 v4) rfl) ?_
      refine o_bind ?_; intro p2 hp2
      refine f_op rfl rfl (s_callF rfl ok78 (sim78 hp2)) ?_
      refine f_op rfl rfl (s_lenS rfl Try.underlying22 rfl) ?_
      refine f_op rfl rfl (s_neq rfl rfl) ?_
      refine f_nil ?_
      refine f_if (fun h3 => ?_) (fun h3 => ?_)
      · skip
        refine f_know 14 rfl (dec_true h3) ?_
        refine f_condT rfl ?_
        refine f_seq ?_
        refine f_region ?_
        refine f_op rfl rfl (s_as (v := .bool false) rfl) ?_
        refine f_nil ?_
        exact f_ret (.tmp rfl (.nil)) rfl
      · skip
        refine f_know 14 rfl (dec_false h3) ?_
        refine f_condF rfl ?_
        refine f_skip ?_
        refine f_inBlock ?_
        refine f_region ?_
        refine f_op rfl rfl (s_add rfl rfl) ?_
        refine f_op rfl rfl (s_mv (v := .int .i64 (w64 (v4 + 1))) rfl) ?_
        refine f_nil ?_
        refine f_inLoop ?_
        refine f_keep [0, 1, 6, 7] ?_
        exact ih v1 v2 v3 (w64 (v4 + 1)) p2.2
    · skip
      refine f_know 8 rfl (dec_false h1) ?_
      refine f_condF rfl ?_
      refine f_exit rfl ?_
      refine f_seq ?_
      refine f_region ?_
      refine f_op rfl rfl (s_mv (v := .sl v1) rfl) ?_
      refine f_op rfl rfl (s_lenS rfl Try.underlying22 rfl) ?_
      refine f_op rfl rfl (s_mv (v := .int .i64 v2) rfl) ?_
      refine f_op rfl rfl (s_eql rfl rfl) ?_
      refine f_op rfl rfl (s_as (v := .bool (decide ((v1.len : Int) = v2))) rfl) ?_
      refine f_nil ?_
      exact f_ret (.tmp rfl (.nil)) rfl

theorem sim65 {a0 : Sl} {a1 : Int} {H : Hp} {p : Bool × Hp} (h : r65 a0 a1 H = some p) : CallSim Try.prog 65 [.sl a0, .int .i64 a1] H (.bool p.1) p.2 := by
  refine callSim (fn := Try.f65) (ret := ret65) Try.func65 rfl Try.ntmps65 rfl ?_ h
  unfold r65
  refine f_seq ?_
  refine f_region ?_
  refine f_op rfl rfl (s_as (v := .bool false) rfl) ?_
  refine f_nil ?_
  refine f_seq ?_
  refine f_seq ?_
  refine f_region ?_
  refine f_op rfl rfl (s_mv (v := .int .i64 a1) rfl) ?_
  refine f_op rfl rfl (s_mv (v := .int .i64 0) rfl) ?_
  refine f_nil ?_
  refine f_block ?_
  refine f_loop ?_
  refine f_keep [0, 1, 6, 7] ?_
  exact s65_l0 FUEL a0 a1 a1 0 H

/- 114 slices.insertionSortCmpFunc[[2]int] -/
theorem ok114 : FnOk Try.prog 114 := ⟨⟨Try.f114, Try.func114, by kernel_rfl, rfl⟩⟩
theorem s114_j2 {app : App} (happ : AppSim Try.prog app) (kt0 : Sl → Int → Int → AV → Int → Hp → Option (Unit × Hp)) (hkt0 : ∀ (v1 : Sl) (v2 : Int) (v3 : Int) (v4 : AV) (v5 : Int) (H : Hp), Fin Try.prog Try.f114 ret114 53 (todoAt (bodyOf Try.f114) [1, 0, 0] []) [(0, .sl v1), (1, .int .i64 v2), (2, .int .i64 v3), (3, v4), (8, .int .i64 v5)] H (kt0 v1 v2 v3 v4 v5 H)) (kt1 : Sl → Int → Int → AV → Int → Int → Hp → Option (Unit × Hp)) (hkt1 : ∀ (v1 : Sl) (v2 : Int) (v3 : Int) (v4 : AV) (v5 : Int) (v6 : Int) (H : Hp), Fin Try.prog Try.f114 ret114 53 (todoAt (bodyOf Try.f114) [1, 0, 0, 1, 0, 0, 1, 0, 0] []) [(0, .sl v1), (1, .int .i64 v2), (2, .int .i64 v3), (3, v4), (8, .int .i64 v5), (9, .int .i64 v6)] H (kt1 v1 v2 v3 v4 v5 v6 H)) (v1 : Sl) (v2 : Int) (v3 : Int) (v4 : AV) (v5 : Int) (v6 : Int) (v7 : Bool) (H : Hp) : Fin Try.prog Try.f114 ret114 53 (todoAt (bodyOf Try.f114) [1, 0, 0, 1, 0, 0, 1, 0, 0, 0, 1] []) [(0, .sl v1), (1, .int .i64 v2), (2, .int .i64 v3), (3, v4), (8, .int .i64 v5), (9, .int .i64 v6), (34, .bool v7)] H (r114_j2 app kt0 kt1 v1 v2 v3 v4 v5 v6 v7 H) := by
  unfold r114_j2
  refine f_if (fun h1 => ?_) (fun h1 => ?_)
  · skip
    refine f_know 34 rfl (bool_T h1) ?_
    refine f_condT rfl ?_
    refine f_skip ?_
    refine f_seq ?_
    refine f_block ?_
    refine f_ck fun g2 => ?_
    refine f_bind ?_; intro x3 hx3
    refine f_bind ?_; intro x4 hx4
    refine f_ck fun g5 => ?_
    refine f_bind ?_; intro x6 hx6
    refine f_bind ?_; intro x7 hx7
    refine f_ck fun g8 => ?_
    refine f_bind ?_; intro H9 hH9
    refine f_ck fun g10 => ?_
    refine f_bind ?_; intro H11 hH11
    refine f_draw (Φ := fun _ => True) [0, 0, 0, 0, 0, 0, 0, 0, 0, 1, 0, 0, 0, 1, 0, 2, 0, 2] (Trc.pure rfl rfl rfl (fun _ _ => s_mv (v := .sl v1) rfl) (Trc.pure rfl rfl rfl (fun _ _ => s_mv (v := .int .i64 v6) rfl) (Trc.pure rfl rfl rfl (fun _ _ => s_mv (v := .sl v1) rfl) (Trc.pure rfl rfl rfl (fun _ _ => s_mv (v := .int .i64 v6) rfl) (Trc.pure rfl rfl rfl (fun _ _ => s_sub rfl rfl) (Trc.pure rfl rfl rfl (fun _ _ => s_mv (v := .sl v1) rfl) (Trc.pure rfl rfl rfl (fun _ _ => s_mv (v := .int .i64 v6) rfl) (Trc.pure rfl rfl rfl (fun _ _ => s_sub rfl rfl) (Trc.pure rfl rfl rfl (fun _ _ => s_idx Try.underlying40 ty43 rfl rfl g2) (Trc.read rfl rfl rfl (s_loads Try.underlying43 rfl ty43 rfl (lds_cons (ldI_eq hx3) (lds_cons (ldI_eq hx4) (lds_nil)))) (Trc.pure rfl rfl rfl (fun _ _ => s_mv (v := .sl v1) rfl) (Trc.pure rfl rfl rfl (fun _ _ => s_mv (v := .int .i64 v6) rfl) (Trc.pure rfl rfl rfl (fun _ _ => s_idx Try.underlying40 ty43 rfl rfl g5) (Trc.read rfl rfl rfl (s_loads Try.underlying43 rfl ty43 rfl (lds_cons (ldI_eq hx6) (lds_cons (ldI_eq hx7) (lds_nil)))) (Trc.pure rfl rfl rfl (fun _ _ => s_idx Try.underlying40 ty43 rfl rfl g8) (Trc.eff rfl rfl rfl (trivial) (s_stores ty43 rfl rfl rfl rfl hH9 (Nat.le_of_eq (sts_mono hH9).symm)) (Trc.pure rfl rfl rfl (fun _ _ => s_idx Try.underlying40 ty43 rfl rfl g10) (Trc.eff rfl rfl rfl (trivial) (s_stores ty43 rfl rfl rfl rfl hH11 (Nat.le_of_eq (sts_mono hH11).symm)) (Trc.nil (trivial)))))))))))))))))))) rfl (by decide +kernel) mixed ?_
    refine f_inBlock ?_
    refine f_region ?_
    refine f_op rfl rfl (s_mv (v := .int .i64 v6) rfl) ?_
    refine f_op rfl rfl (s_sub rfl rfl) ?_
    refine f_op rfl rfl (s_as (v := .int .i64 (w64 (v6 - 1))) rfl) ?_
    refine f_nil ?_
    refine f_inLoop ?_
    refine f_keep [0, 1, 2, 3, 8, 9] ?_
    exact hkt1 v1 v2 v3 v4 v5 (w64 (v6 - 1)) H11
  · skip
    refine f_know 34 rfl (bool_F h1) ?_
    refine f_condF rfl ?_
    refine f_exit rfl ?_
    refine f_inBlock ?_
    refine f_region ?_
    refine f_op rfl rfl (s_mv (v := .int .i64 v5) rfl) ?_
    refine f_op rfl rfl (s_add rfl rfl) ?_
    refine f_op rfl rfl (s_as (v := .int .i64 (w64 (v5 + 1))) rfl) ?_
    refine f_nil ?_
    refine f_inLoop ?_
    refine f_keep [0, 1, 2, 3, 8] ?_
    exact hkt0 v1 v2 v3 v4 (w64 (v5 + 1)) H

theorem s114_l1 {app : App} (happ : AppSim Try.prog app) (kt0 : Sl → Int → Int → AV → Int → Hp → Option (Unit × Hp)) (hkt0 : ∀ (v1 : Sl) (v2 : Int) (v3 : Int) (v4 : AV) (v5 : Int) (H : Hp), Fin Try.prog Try.f114 ret114 53 (todoAt (bodyOf Try.f114) [1, 0, 0] []) [(0, .sl v1), (1, .int .i64 v2), (2, .int .i64 v3), (3, v4), (8, .int .i64 v5)] H (kt0 v1 v2 v3 v4 v5 H)) : ∀ (k_ : Nat) (v1 : Sl) (v2 : Int) (v3 : Int) (v4 : AV) (v5 : Int) (v6 : Int) (H : Hp), Fin Try.prog Try.f114 ret114 53 (todoAt (bodyOf Try.f114) [1, 0, 0, 1, 0, 0, 1, 0, 0] []) [(0, .sl v1), (1, .int .i64 v2), (2, .int .i64 v3), (3, v4), (8, .int .i64 v5), (9, .int .i64 v6)] H (r114_l1 app kt0 k_ v1 v2 v3 v4 v5 v6 H) := by
  intro k_
  induction k_ with
  | zero => intro _ _ _ _ _ _ _; exact f_none
  | succ k_ ih =>
    intro v1 v2 v3 v4 v5 v6 H
    rw [r114_l1]
    refine f_seq ?_
    refine f_seq ?_
    refine f_if (fun h1 => ?_) (fun h1 => ?_)
    · skip
      refine f_ck fun g2 => ?_
      refine f_bind ?_; intro x3 hx3
      refine f_bind ?_; intro x4 hx4
      refine f_ck fun g5 => ?_
      refine f_bind ?_; intro x6 hx6
      refine f_bind ?_; intro x7 hx7
      refine f_bind ?_; intro p8 hp8
      refine f_bind ?_; intro x9 hx9
      refine f_draw (Φ := fun _ => True) [0, 0, 0, 0, 0, 0, 0, 0, 1, 0, 0, 0, 0, 1, 2, 0, 0] (Trc.pure rfl rfl rfl (fun _ _ => s_mv (v := .int .i64 v6) rfl) (Trc.pure rfl rfl rfl (fun _ _ => s_mv (v := .int .i64 v2) rfl) (Trc.pure rfl rfl rfl (fun _ _ => s_gtr rfl rfl) (Trc.pure rfl rfl rfl (fun _ _ => s_mv (v := .bool (decide (v2 < v6))) rfl) (Trc.know 21 rfl (dec_true h1) (Trc.pure rfl rfl rfl (fun _ _ => s_mv (v := v4) rfl) (Trc.pure rfl rfl rfl (fun _ _ => s_mv (v := .sl v1) rfl) (Trc.pure rfl rfl rfl (fun _ _ => s_mv (v := .int .i64 v6) rfl) (Trc.pure rfl rfl rfl (fun _ _ => s_idx Try.underlying40 ty43 rfl rfl g2) (Trc.read rfl rfl rfl (s_loads Try.underlying43 rfl ty43 rfl (lds_cons (ldI_eq hx3) (lds_cons (ldI_eq hx4) (lds_nil)))) (Trc.pure rfl rfl rfl (fun _ _ => s_mv (v := .sl v1) rfl) (Trc.pure rfl rfl rfl (fun _ _ => s_mv (v := .int .i64 v6) rfl) (Trc.pure rfl rfl rfl (fun _ _ => s_sub rfl rfl) (Trc.pure rfl rfl rfl (fun _ _ => s_idx Try.underlying40 ty43 rfl rfl g5) (Trc.read rfl rfl rfl (s_loads Try.underlying43 rfl ty43 rfl (lds_cons (ldI_eq hx6) (lds_cons (ldI_eq hx7) (lds_nil)))) (Trc.eff rfl rfl rfl (trivial) (s_callv happ rfl rfl hp8) (Trc.know 32 rfl (asI_eq hx9) (Trc.pure rfl rfl rfl (fun _ _ => s_lss rfl rfl) (Trc.pure rfl rfl rfl (fun _ _ => s_pickT (v := .bool (decide (x9 < 0))) rfl rfl) (Trc.nil (trivial))))))))))))))))))))) rfl (by decide +kernel) mixed ?_
      refine f_keep [0, 1, 2, 3, 8, 9, 34] ?_
      exact s114_j2 happ _ hkt0 _ (fun v1_ v2_ v3_ v4_ v5_ v6_ H_ => ih v1_ v2_ v3_ v4_ v5_ v6_ H_) v1 v2 v3 v4 v5 v6 (decide (x9 < 0)) p8.2
    · skip
      refine f_draw (Φ := fun _ => True) [0, 0, 0, 0, 0, 0, 0, 0, 0, 0, 0, 0, 0, 0, 0, 0, 0] (Trc.pure rfl rfl rfl (fun _ _ => s_mv (v := .int .i64 v6) rfl) (Trc.pure rfl rfl rfl (fun _ _ => s_mv (v := .int .i64 v2) rfl) (Trc.pure rfl rfl rfl (fun _ _ => s_gtr rfl rfl) (Trc.pure rfl rfl rfl (fun _ _ => s_mv (v := .bool (decide (v2 < v6))) rfl) (Trc.know 21 rfl (dec_false h1) (Trc.no rfl rfl rfl (Trc.no rfl rfl rfl (Trc.no rfl rfl rfl (Trc.no rfl rfl rfl (Trc.no rfl rfl rfl (Trc.no rfl rfl rfl (Trc.no rfl rfl rfl (Trc.no rfl rfl rfl (Trc.no rfl rfl rfl (Trc.no rfl rfl rfl (Trc.no rfl rfl rfl (Trc.no rfl rfl rfl (Trc.pure rfl rfl rfl (fun _ _ => s_pickF (v := .bool false) rfl rfl) (Trc.nil (trivial)))))))))))))))))))) rfl (by decide +kernel) mixed ?_
      refine f_keep [0, 1, 2, 3, 8, 9, 34] ?_
      exact s114_j2 happ _ hkt0 _ (fun v1_ v2_ v3_ v4_ v5_ v6_ H_ => ih v1_ v2_ v3_ v4_ v5_ v6_ H_) v1 v2 v3 v4 v5 v6 false H

theorem s114_l0 {app : App} (happ : AppSim Try.prog app) : ∀ (k_ : Nat) (v1 : Sl) (v2 : Int) (v3 : Int) (v4 : AV) (v5 : Int) (H : Hp), Fin Try.prog Try.f114 ret114 53 (todoAt (bodyOf Try.f114) [1, 0, 0] []) [(0, .sl v1), (1, .int .i64 v2), (2, .int .i64 v3), (3, v4), (8, .int .i64 v5)] H (r114_l0 app k_ v1 v2 v3 v4 v5 H) := by
  intro k_
  induction k_ with
  | zero => intro _ _ _ _ _ _; exact f_none
  | succ k_ ih =>
    intro v1 v2 v3 v4 v5 H
    rw [r114_l0]
    refine f_seq ?_
    refine f_seq ?_
    refine f_region ?_
    refine f_op rfl rfl (s_mv (v := .int .i64 v5) rfl) ?_
    refine f_op rfl rfl (s_mv (v := .int .i64 v3) rfl) ?_
    refine f_op rfl rfl (s_lss rfl rfl) ?_
    refine f_nil ?_
    refine f_if (fun h1 => ?_) (fun h1 => ?_)
    · skip
      refine f_know 14 rfl (dec_true h1) ?_
      refine f_condT rfl ?_
      refine f_skip ?_
      refine f_seq ?_
      refine f_block ?_
      refine f_seq ?_
      refine f_region ?_
      refine f_op rfl rfl (s_mv (v := .int .i64 v5) rfl) ?_
      refine f_op rfl rfl (s_as (v := .int .i64 v5) rfl) ?_
      refine f_nil ?_
      refine f_block ?_
      refine f_loop ?_
      refine f_keep [0, 1, 2, 3, 8, 9] ?_
      exact s114_l1 happ _ (fun v1_ v2_ v3_ v4_ v5_ H_ => ih v1_ v2_ v3_ v4_ v5_ H_) FUEL v1 v2 v3 v4 v5 v5 H
    · skip
      refine f_know 14 rfl (dec_false h1) ?_
      refine f_condF rfl ?_
      refine f_exit rfl ?_
      exact f_end (.nil) rfl

theorem sim114 {app : App} (happ : AppSim Try.prog app) {a0 : Sl} {a1 : Int} {a2 : Int} {a3 : AV} {H : Hp} {p : Unit × Hp} (h : r114 app a0 a1 a2 a3 H = some p) : CallSim Try.prog 114 [.sl a0, .int .i64 a1, .int .i64 a2, a3] H (.tup []) p.2 := by
  refine callSim (fn := Try.f114) (ret := ret114) Try.func114 rfl Try.ntmps114 rfl ?_ h
  unfold r114
  refine f_seq ?_
  refine f_region ?_
  refine f_op rfl rfl (s_mv (v := .int .i64 a1) rfl) ?_
  refine f_op rfl rfl (s_add rfl rfl) ?_
  refine f_op rfl rfl (s_as (v := .int .i64 (w64 (a1 + 1))) rfl) ?_
  refine f_nil ?_
  refine f_block ?_
  refine f_loop ?_
  refine f_keep [0, 1, 2, 3, 8] ?_
  exact s114_l0 happ FUEL a0 a1 a2 a3 (w64 (a1 + 1)) H

/- 125 slices.siftDownCmpFunc[[2]int] -/
theorem ok125 : FnOk Try.prog 125 := ⟨⟨Try.f125, Try.func125, by kernel_rfl, rfl⟩⟩
theorem s125_j1 {app : App} (happ : AppSim Try.prog app) (kt0 : Sl → Int → Int → AV → Int → Hp → Option (Unit × Hp)) (hkt0 : ∀ (v1 : Sl) (v2 : Int) (v3 : Int) (v4 : AV) (v5 : Int) (H : Hp), Fin Try.prog Try.f125 ret125 82 (todoAt (bodyOf Try.f125) [1, 0, 0] []) [(0, .sl v1), (2, .int .i64 v2), (3, .int .i64 v3), (4, v4), (10, .int .i64 v5)] H (kt0 v1 v2 v3 v4 v5 H)) (v1 : Sl) (v2 : Int) (v3 : Int) (v4 : AV) (v5 : Int) (v6 : Int) (H : Hp) : Fin Try.prog Try.f125 ret125 82 (todoAt (bodyOf Try.f125) [1, 0, 0, 0, 1, 1, 1] []) [(0, .sl v1), (2, .int .i64 v2), (3, .int .i64 v3), (4, v4), (10, .int .i64 v5), (11, .int .i64 v6)] H (r125_j1 app kt0 v1 v2 v3 v4 v5 v6 H) := by
  unfold r125_j1
  refine f_seq ?_
  refine f_seq ?_
  refine f_ck fun g1 => ?_
  refine f_bind ?_; intro x2 hx2
  refine f_bind ?_; intro x3 hx3
  refine f_ck fun g4 => ?_
  refine f_bind ?_; intro x5 hx5
  refine f_bind ?_; intro x6 hx6
  refine f_bind ?_; intro p7 hp7
  refine f_bind ?_; intro x8 hx8
  refine f_draw (Φ := fun _ => True) [0, 0, 0, 0, 0, 0, 1, 0, 0, 0, 0, 0, 1, 2, 0, 0] (Trc.pure rfl rfl rfl (fun _ _ => s_mv (v := v4) rfl) (Trc.pure rfl rfl rfl (fun _ _ => s_mv (v := .sl v1) rfl) (Trc.pure rfl rfl rfl (fun _ _ => s_mv (v := .int .i64 v3) rfl) (Trc.pure rfl rfl rfl (fun _ _ => s_mv (v := .int .i64 v5) rfl) (Trc.pure rfl rfl rfl (fun _ _ => s_add rfl rfl) (Trc.pure rfl rfl rfl (fun _ _ => s_idx Try.underlying40 ty43 rfl rfl g1) (Trc.read rfl rfl rfl (s_loads Try.underlying43 rfl ty43 rfl (lds_cons (ldI_eq hx2) (lds_cons (ldI_eq hx3) (lds_nil)))) (Trc.pure rfl rfl rfl (fun _ _ => s_mv (v := .sl v1) rfl) (Trc.pure rfl rfl rfl (fun _ _ => s_mv (v := .int .i64 v3) rfl) (Trc.pure rfl rfl rfl (fun _ _ => s_mv (v := .int .i64 v6) rfl) (Trc.pure rfl rfl rfl (fun _ _ => s_add rfl rfl) (Trc.pure rfl rfl rfl (fun _ _ => s_idx Try.underlying40 ty43 rfl rfl g4) (Trc.read rfl rfl rfl (s_loads Try.underlying43 rfl ty43 rfl (lds_cons (ldI_eq hx5) (lds_cons (ldI_eq hx6) (lds_nil)))) (Trc.eff rfl rfl rfl (trivial) (s_callv happ rfl rfl hp7) (Trc.know 56 rfl (asI_eq hx8) (Trc.pure rfl rfl rfl (fun _ _ => s_lss rfl rfl) (Trc.pure rfl rfl rfl (fun _ _ => s_not rfl) (Trc.nil (trivial))))))))))))))))))) rfl (by decide +kernel) mixed ?_
  refine f_if (fun h9 => ?_) (fun h9 => ?_)
  · skip
    refine f_know 58 rfl (dec_notT h9) ?_
    refine f_condF rfl ?_
    refine f_skip ?_
    refine f_seq ?_
    refine f_ck fun g10 => ?_
    refine f_bind ?_; intro x11 hx11
    refine f_bind ?_; intro x12 hx12
    refine f_ck fun g13 => ?_
    refine f_bind ?_; intro x14 hx14
    refine f_bind ?_; intro x15 hx15
    refine f_ck fun g16 => ?_
    refine f_bind ?_; intro H17 hH17
    refine f_ck fun g18 => ?_
    refine f_bind ?_; intro H19 hH19
    refine f_draw (Φ := fun _ => True) [0, 0, 0, 0, 0, 0, 0, 0, 0, 0, 0, 0, 0, 1, 0, 0, 0, 0, 0, 1, 0, 2, 0, 2] (Trc.pure rfl rfl rfl (fun _ _ => s_mv (v := .sl v1) rfl) (Trc.pure rfl rfl rfl (fun _ _ => s_mv (v := .int .i64 v3) rfl) (Trc.pure rfl rfl rfl (fun _ _ => s_mv (v := .int .i64 v5) rfl) (Trc.pure rfl rfl rfl (fun _ _ => s_add rfl rfl) (Trc.pure rfl rfl rfl (fun _ _ => s_mv (v := .sl v1) rfl) (Trc.pure rfl rfl rfl (fun _ _ => s_mv (v := .int .i64 v3) rfl) (Trc.pure rfl rfl rfl (fun _ _ => s_mv (v := .int .i64 v6) rfl) (Trc.pure rfl rfl rfl (fun _ _ => s_add rfl rfl) (Trc.pure rfl rfl rfl (fun _ _ => s_mv (v := .sl v1) rfl) (Trc.pure rfl rfl rfl (fun _ _ => s_mv (v := .int .i64 v3) rfl) (Trc.pure rfl rfl rfl (fun _ _ => s_mv (v := .int .i64 v6) rfl) (Trc.pure rfl rfl rfl (fun _ _ => s_add rfl rfl) (Trc.pure rfl rfl rfl (fun _ _ => s_idx Try.underlying40 ty43 rfl rfl g10) (Trc.read rfl rfl rfl (s_loads Try.underlying43 rfl ty43 rfl (lds_cons (ldI_eq hx11) (lds_cons (ldI_eq hx12) (lds_nil)))) (Trc.pure rfl rfl rfl (fun _ _ => s_mv (v := .sl v1) rfl) (Trc.pure rfl rfl rfl (fun _ _ => s_mv (v := .int .i64 v3) rfl) (Trc.pure rfl rfl rfl (fun _ _ => s_mv (v := .int .i64 v5) rfl) (Trc.pure rfl rfl rfl (fun _ _ => s_add rfl rfl) (Trc.pure rfl rfl rfl (fun _ _ => s_idx Try.underlying40 ty43 rfl rfl g13) (Trc.read rfl rfl rfl (s_loads Try.underlying43 rfl ty43 rfl (lds_cons (ldI_eq hx14) (lds_cons (ldI_eq hx15) (lds_nil)))) (Trc.pure rfl rfl rfl (fun _ _ => s_idx Try.underlying40 ty43 rfl rfl g16) (Trc.eff rfl rfl rfl (trivial) (s_stores ty43 rfl rfl rfl rfl hH17 (Nat.le_of_eq (sts_mono hH17).symm)) (Trc.pure rfl rfl rfl (fun _ _ => s_idx Try.underlying40 ty43 rfl rfl g18) (Trc.eff rfl rfl rfl (trivial) (s_stores ty43 rfl rfl rfl rfl hH19 (Nat.le_of_eq (sts_mono hH19).symm)) (Trc.nil (trivial)))))))))))))))))))))))))) rfl (by decide +kernel) mixed ?_
    refine f_region ?_
    refine f_op rfl rfl (s_mv (v := .int .i64 v6) rfl) ?_
    refine f_op rfl rfl (s_as (v := .int .i64 v6) rfl) ?_
    refine f_nil ?_
    refine f_inBlock ?_
    refine f_inLoop ?_
    refine f_keep [0, 2, 3, 4, 10] ?_
    exact hkt0 v1 v2 v3 v4 v6 H19
  · skip
    refine f_know 58 rfl (dec_notF h9) ?_
    refine f_condT rfl ?_
    exact f_ret (.nil) rfl

theorem s125_j2 {app : App} (happ : AppSim Try.prog app) (kt0 : Sl → Int → Int → AV → Int → Hp → Option (Unit × Hp)) (hkt0 : ∀ (v1 : Sl) (v2 : Int) (v3 : Int) (v4 : AV) (v5 : Int) (H : Hp), Fin Try.prog Try.f125 ret125 82 (todoAt (bodyOf Try.f125) [1, 0, 0] []) [(0, .sl v1), (2, .int .i64 v2), (3, .int .i64 v3), (4, v4), (10, .int .i64 v5)] H (kt0 v1 v2 v3 v4 v5 H)) (v1 : Sl) (v2 : Int) (v3 : Int) (v4 : AV) (v5 : Int) (v6 : Int) (v7 : Bool) (H : Hp) : Fin Try.prog Try.f125 ret125 82 (todoAt (bodyOf Try.f125) [1, 0, 0, 0, 1, 1, 0, 1] []) [(0, .sl v1), (2, .int .i64 v2), (3, .int .i64 v3), (4, v4), (10, .int .i64 v5), (11, .int .i64 v6), (40, .bool v7)] H (r125_j2 app kt0 v1 v2 v3 v4 v5 v6 v7 H) := by
  unfold r125_j2
  refine f_if (fun h1 => ?_) (fun h1 => ?_)
  · skip
    refine f_know 40 rfl (bool_T h1) ?_
    refine f_condT rfl ?_
    refine f_region ?_
    refine f_op rfl rfl (s_mv (v := .int .i64 v6) rfl) ?_
    refine f_op rfl rfl (s_add rfl rfl) ?_
    refine f_op rfl rfl (s_as (v := .int .i64 (w64 (v6 + 1))) rfl) ?_
    refine f_nil ?_
    refine f_keep [0, 2, 3, 4, 10, 11] ?_
    exact s125_j1 happ _ hkt0 v1 v2 v3 v4 v5 (w64 (v6 + 1)) H
  · skip
    refine f_know 40 rfl (bool_F h1) ?_
    refine f_condF rfl ?_
    refine f_skip ?_
    refine f_keep [0, 2, 3, 4, 10, 11] ?_
    exact s125_j1 happ _ hkt0 v1 v2 v3 v4 v5 v6 H

theorem s125_l0 {app : App} (happ : AppSim Try.prog app) : ∀ (k_ : Nat) (v1 : Sl) (v2 : Int) (v3 : Int) (v4 : AV) (v5 : Int) (H : Hp), Fin Try.prog Try.f125 ret125 82 (todoAt (bodyOf Try.f125) [1, 0, 0] []) [(0, .sl v1), (2, .int .i64 v2), (3, .int .i64 v3), (4, v4), (10, .int .i64 v5)] H (r125_l0 app k_ v1 v2 v3 v4 v5 H) := by
  intro k_
  induction k_ with
  | zero => intro _ _ _ _ _ _; exact f_none
  | succ k_ ih =>
    intro v1 v2 v3 v4 v5 H
    rw [r125_l0]
    refine f_block ?_
    refine f_seq ?_
    refine f_region ?_
    refine f_op rfl rfl (s_mv (v := .int .i64 v5) rfl) ?_
    refine f_op rfl rfl (s_mul rfl rfl) ?_
    refine f_op rfl rfl (s_add rfl rfl) ?_
    refine f_op rfl rfl (s_as (v := .int .i64 (w64 ((w64 (2 * v5)) + 1))) rfl) ?_
    refine f_nil ?_
    refine f_seq ?_
    refine f_seq ?_
    refine f_region ?_
    refine f_op rfl rfl (s_mv (v := .int .i64 (w64 ((w64 (2 * v5)) + 1))) rfl) ?_
    refine f_op rfl rfl (s_mv (v := .int .i64 v2) rfl) ?_
    refine f_op rfl rfl (s_geq rfl rfl) ?_
    refine f_nil ?_
    refine f_if (fun h1 => ?_) (fun h1 => ?_)
    · skip
      refine f_know 18 rfl (dec_true h1) ?_
      refine f_condT rfl ?_
      refine f_exit rfl ?_
      exact f_end (.nil) rfl
    · skip
      refine f_know 18 rfl (dec_false h1) ?_
      refine f_condF rfl ?_
      refine f_skip ?_
      refine f_seq ?_
      refine f_seq ?_
      refine f_if (fun h2 => ?_) (fun h2 => ?_)
      · skip
        refine f_ck fun g3 => ?_
        refine f_bind ?_; intro x4 hx4
        refine f_bind ?_; intro x5 hx5
        refine f_ck fun g6 => ?_
        refine f_bind ?_; intro x7 hx7
        refine f_bind ?_; intro x8 hx8
        refine f_bind ?_; intro p9 hp9
        refine f_bind ?_; intro x10 hx10
        refine f_draw (Φ := fun _ => True) [0, 0, 0, 0, 0, 0, 0, 0, 0, 0, 0, 1, 0, 0, 0, 0, 0, 0, 1, 2, 0, 0] (Trc.pure rfl rfl rfl (fun _ _ => s_mv (v := .int .i64 (w64 ((w64 (2 * v5)) + 1))) rfl) (Trc.pure rfl rfl rfl (fun _ _ => s_add rfl rfl) (Trc.pure rfl rfl rfl (fun _ _ => s_mv (v := .int .i64 v2) rfl) (Trc.pure rfl rfl rfl (fun _ _ => s_lss rfl rfl) (Trc.pure rfl rfl rfl (fun _ _ => s_mv (v := .bool (decide ((w64 ((w64 ((w64 (2 * v5)) + 1)) + 1)) < v2))) rfl) (Trc.know 23 rfl (dec_true h2) (Trc.pure rfl rfl rfl (fun _ _ => s_mv (v := v4) rfl) (Trc.pure rfl rfl rfl (fun _ _ => s_mv (v := .sl v1) rfl) (Trc.pure rfl rfl rfl (fun _ _ => s_mv (v := .int .i64 v3) rfl) (Trc.pure rfl rfl rfl (fun _ _ => s_mv (v := .int .i64 (w64 ((w64 (2 * v5)) + 1))) rfl) (Trc.pure rfl rfl rfl (fun _ _ => s_add rfl rfl) (Trc.pure rfl rfl rfl (fun _ _ => s_idx Try.underlying40 ty43 rfl rfl g3) (Trc.read rfl rfl rfl (s_loads Try.underlying43 rfl ty43 rfl (lds_cons (ldI_eq hx4) (lds_cons (ldI_eq hx5) (lds_nil)))) (Trc.pure rfl rfl rfl (fun _ _ => s_mv (v := .sl v1) rfl) (Trc.pure rfl rfl rfl (fun _ _ => s_mv (v := .int .i64 v3) rfl) (Trc.pure rfl rfl rfl (fun _ _ => s_mv (v := .int .i64 (w64 ((w64 (2 * v5)) + 1))) rfl) (Trc.pure rfl rfl rfl (fun _ _ => s_add rfl rfl) (Trc.pure rfl rfl rfl (fun _ _ => s_add rfl rfl) (Trc.pure rfl rfl rfl (fun _ _ => s_idx Try.underlying40 ty43 rfl rfl g6) (Trc.read rfl rfl rfl (s_loads Try.underlying43 rfl ty43 rfl (lds_cons (ldI_eq hx7) (lds_cons (ldI_eq hx8) (lds_nil)))) (Trc.eff rfl rfl rfl (trivial) (s_callv happ rfl rfl hp9) (Trc.know 38 rfl (asI_eq hx10) (Trc.pure rfl rfl rfl (fun _ _ => s_lss rfl rfl) (Trc.pure rfl rfl rfl (fun _ _ => s_pickT (v := .bool (decide (x10 < 0))) rfl rfl) (Trc.nil (trivial)))))))))))))))))))))))))) rfl (by decide +kernel) mixed ?_
        refine f_keep [0, 2, 3, 4, 10, 11, 40] ?_
        exact s125_j2 happ _ (fun v1_ v2_ v3_ v4_ v5_ H_ => ih v1_ v2_ v3_ v4_ v5_ H_) v1 v2 v3 v4 v5 (w64 ((w64 (2 * v5)) + 1)) (decide (x10 < 0)) p9.2
      · skip
        refine f_draw (Φ := fun _ => True) [0, 0, 0, 0, 0, 0, 0, 0, 0, 0, 0, 0, 0, 0, 0, 0, 0, 0, 0, 0, 0, 0] (Trc.pure rfl rfl rfl (fun _ _ => s_mv (v := .int .i64 (w64 ((w64 (2 * v5)) + 1))) rfl) (Trc.pure rfl rfl rfl (fun _ _ => s_add rfl rfl) (Trc.pure rfl rfl rfl (fun _ _ => s_mv (v := .int .i64 v2) rfl) (Trc.pure rfl rfl rfl (fun _ _ => s_lss rfl rfl) (Trc.pure rfl rfl rfl (fun _ _ => s_mv (v := .bool (decide ((w64 ((w64 ((w64 (2 * v5)) + 1)) + 1)) < v2))) rfl) (Trc.know 23 rfl (dec_false h2) (Trc.no rfl rfl rfl (Trc.no rfl rfl rfl (Trc.no rfl rfl rfl (Trc.no rfl rfl rfl (Trc.no rfl rfl rfl (Trc.no rfl rfl rfl (Trc.no rfl rfl rfl (Trc.no rfl rfl rfl (Trc.no rfl rfl rfl (Trc.no rfl rfl rfl (Trc.no rfl rfl rfl (Trc.no rfl rfl rfl (Trc.no rfl rfl rfl (Trc.no rfl rfl rfl (Trc.no rfl rfl rfl (Trc.no rfl rfl rfl (Trc.pure rfl rfl rfl (fun _ _ => s_pickF (v := .bool false) rfl rfl) (Trc.nil (trivial))))))))))))))))))))))))) rfl (by decide +kernel) mixed ?_
        refine f_keep [0, 2, 3, 4, 10, 11, 40] ?_
        exact s125_j2 happ _ (fun v1_ v2_ v3_ v4_ v5_ H_ => ih v1_ v2_ v3_ v4_ v5_ H_) v1 v2 v3 v4 v5 (w64 ((w64 (2 * v5)) + 1)) false H

theorem sim125 {app : App} (happ : AppSim Try.prog app) {a0 : Sl} {a1 : Int} {a2 : Int} {a3 : Int} {a4 : AV} {H : Hp} {p : Unit × Hp} (h : r125 app a0 a1 a2 a3 a4 H = some p) : CallSim Try.prog 125 [.sl a0, .int .i64 a1, .int .i64 a2, .int .i64 a3, a4] H (.tup []) p.2 := by
  refine callSim (fn := Try.f125) (ret := ret125) Try.func125 rfl Try.ntmps125 rfl ?_ h
  unfold r125
  refine f_seq ?_
  refine f_region ?_
  refine f_op rfl rfl (s_mv (v := .int .i64 a1) rfl) ?_
  refine f_op rfl rfl (s_as (v := .int .i64 a1) rfl) ?_
  refine f_nil ?_
  refine f_block ?_
  refine f_loop ?_
  refine f_keep [0, 2, 3, 4, 10] ?_
  exact s125_l0 happ FUEL a0 a2 a3 a4 a1 H

end Go.Lt.P8
