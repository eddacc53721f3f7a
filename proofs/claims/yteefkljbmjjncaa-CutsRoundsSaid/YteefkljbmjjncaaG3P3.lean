/- PRINTED BY A PROGRAM OF OURS: what each function that 'CutsRounds' reaches computes on the abstract heap, and that the translated code does just that. Nothing is asked of the input. -/
import Derived.Test.YteefkljbmjjncaaG3P2
set_option linter.unusedVariables false
set_option linter.unusedSimpArgs false
set_option maxRecDepth 100000
set_option maxHeartbeats 4000000
namespace Go.Lt.P2
open Go Go.Lt Go.Proofs
/- 91 congou/congouref02.with -/
theorem ok91 : FnOk Try.prog 91 := ⟨⟨Try.f91, Try.func91, by kernel_rfl, rfl⟩⟩
theorem s91_j2 (v1 : Sl) (v2 : Nat) (v3 : Int) (v4 : Bool) (H : Hp) : Fin Try.prog Try.f91 ret91 45 (todoAt (bodyOf Try.f91) [1, 1, 1, 0, 1] []) [(0, .sl v1), (3, .ptr v2 0), (5, .int .i64 v3), (31, .bool v4)] H (r91_j2 v1 v2 v3 v4 H) := by
  unfold r91_j2
  refine f_if (fun h1 => ?_) (fun h1 => ?_)
  · skip
    refine f_know 31 rfl (bool_T h1) ?_
    refine f_condT rfl ?_
    refine f_seq ?_
    refine f_region ?_
    refine f_op rfl rfl (s_mv (v := .sl v1) rfl) ?_
    refine f_op rfl rfl (s_as (v := .sl v1) rfl) ?_
    refine f_nil ?_
    exact f_ret (.tmp rfl (.nil)) rfl
  · skip
    refine f_know 31 rfl (bool_F h1) ?_
    refine f_condF rfl ?_
    refine f_skip ?_
    refine f_seq ?_
    refine f_ck fun g2 => ?_
    refine f_bind ?_; intro x3 hx3
    refine f_ck fun g4 => ?_
    refine f_bind ?_; intro x5 hx5
    refine f_bind ?_; intro x6 hx6
    refine f_bind ?_; intro x7 hx7
    refine f_bind ?_; intro x8 hx8
    refine f_bind ?_; intro x9 hx9
    refine f_bind ?_; intro x10 hx10
    refine f_ck fun g11 => ?_
    refine f_bind ?_; intro x12 hx12
    refine f_ck fun g13 => ?_
    refine f_bind ?_; intro x14 hx14
    refine f_ck fun g15 => ?_
    refine f_ck fun g16 => ?_
    refine f_ck fun g17 => ?_
    refine f_ck fun g18 => ?_
    refine f_ck fun g19 => ?_
    refine f_ck fun g20 => ?_
    refine f_ck fun g21 => ?_
    refine f_ck fun g22 => ?_
    refine f_drawF (Φ := fun H_ => H_.ld v2 0 = some (.int .i64 x6) ∧ H_.ld v2 (0 + 1) = some (.int .i64 x7) ∧ H_.ld v2 (0 + 2) = some (.int .i64 x8) ∧ H_.ld v2 (0 + 3) = some (.int .i64 x9)) (lim := 6) [2, 0, 0, 0, 2, 0, 2, 2, 0, 0, 0, 2, 0] [false, false, false, false, false, false, true, false, false, false, false, false, false] 6 7 (Trc.eff rfl rfl rfl (fun _ => ⟨ldI_eq g15, ldI_eq g16, ldI_eq g17, ldI_eq g18⟩) (s_buildSlice0 Try.underlying87 ty26) (Trc.pure rfl rfl rfl (.inl fun _ => s_mv (v := .sl v1) rfl) (Trc.pure rfl rfl rfl (.inl fun _ => s_mv (v := .int .i64 v3) rfl) (Trc.pure rfl rfl rfl (.inl fun _ => s_slice Try.underlying87 ty26 rfl rfl rfl g2.1 g2.2) (Trc.eff rfl rfl rfl (fun _ => ⟨ldI_eq g19, ldI_eq g20, ldI_eq g21, ldI_eq g22⟩) (s_append rfl rfl Try.underlying87 Try.underlying87 ty26 (by decide) rfl (by decide) rfl rfl hx3 g4 hx5) (Trc.pure rfl rfl rfl (.inr ⟨by decide +kernel, fun _ hp_ => s_loads Try.underlying26 rfl ty26 rfl (lds_cons hp_.1 (lds_cons hp_.2.1 (lds_cons hp_.2.2.1 (lds_cons hp_.2.2.2 (lds_nil)))))⟩) (Trc.fl (.s 1) rfl rfl rfl (fun _ => ⟨ldI_eq hx6, ldI_eq hx7, ldI_eq hx8, ldI_eq hx9⟩) rfl (by rfl) (fun _ => s_buildSlice (cs := [.int .i64 x6, .int .i64 x7, .int .i64 x8, .int .i64 x9]) Try.underlying87 ty26 (by decide) (by decide) rfl (by decide) rfl) (Trc.eff rfl rfl rfl (fun h_ => absurd h_ (by decide +kernel)) (s_ap rfl rfl Try.underlying87 Try.underlying87 ty26 rfl rfl rfl rfl rfl rfl rfl hx10) (Trc.pure rfl rfl rfl (.inl fun _ => s_mv (v := .sl v1) rfl) (Trc.pure rfl rfl rfl (.inl fun _ => s_mv (v := .int .i64 v3) rfl) (Trc.pure rfl rfl rfl (.inl fun _ => s_slice Try.underlying87 ty26 rfl rfl rfl g11.1 g11.2) (Trc.eff rfl rfl rfl (fun h_ => absurd h_ (by decide +kernel)) (s_append rfl rfl Try.underlying87 Try.underlying87 ty26 (by decide) rfl (by decide) rfl rfl hx12 g13 hx14) (Trc.pure rfl rfl rfl (.inl fun _ => s_as (v := .sl x14.1) rfl) (Trc.nil (fun h_ => absurd h_ (by decide +kernel)))))))))))))))) rfl rfl (by decide +kernel) mixed ?_
    exact f_ret (.tmp rfl (.nil)) rfl

theorem s91_j1 (kt0 : Sl → Nat → Int → Hp → Option (Sl × Hp)) (hkt0 : ∀ (v1 : Sl) (v2 : Nat) (v3 : Int) (H : Hp), Fin Try.prog Try.f91 ret91 45 (todoAt (bodyOf Try.f91) [1, 1, 0, 0, 0] []) [(0, .sl v1), (3, .ptr v2 0), (5, .int .i64 v3)] H (kt0 v1 v2 v3 H)) (v1 : Sl) (v2 : Nat) (v3 : Int) (v4 : Bool) (H : Hp) : Fin Try.prog Try.f91 ret91 45 (todoAt (bodyOf Try.f91) [1, 1, 0, 0, 0, 0, 1] []) [(0, .sl v1), (3, .ptr v2 0), (5, .int .i64 v3), (17, .bool v4)] H (r91_j1 kt0 v1 v2 v3 v4 H) := by
  unfold r91_j1
  refine f_if (fun h1 => ?_) (fun h1 => ?_)
  · skip
    refine f_know 17 rfl (bool_T h1) ?_
    refine f_condT rfl ?_
    refine f_skip ?_
    refine f_block ?_
    refine f_region ?_
    refine f_op rfl rfl (s_mv (v := .int .i64 v3) rfl) ?_
    refine f_op rfl rfl (s_add rfl rfl) ?_
    refine f_op rfl rfl (s_as (v := .int .i64 (w64 (v3 + 1))) rfl) ?_
    refine f_nil ?_
    refine f_inBlock ?_
    refine f_inLoop ?_
    refine f_keep [0, 3, 5] ?_
    exact hkt0 v1 v2 (w64 (v3 + 1)) H
  · skip
    refine f_know 17 rfl (bool_F h1) ?_
    refine f_condF rfl ?_
    refine f_exit rfl ?_
    refine f_seq ?_
    refine f_seq ?_
    refine f_if (fun h2 => ?_) (fun h2 => ?_)
    · skip
      refine f_ck fun g3 => ?_
      refine f_bind ?_; intro x4 hx4
      refine f_bind ?_; intro x5 hx5
      refine f_bind ?_; intro x6 hx6
      refine f_bind ?_; intro x7 hx7
      refine f_bind ?_; intro x8 hx8
      refine f_bind ?_; intro x9 hx9
      refine f_bind ?_; intro x10 hx10
      refine f_bind ?_; intro x11 hx11
      refine f_draw (Φ := fun _ => True) (lim := 1000000) [0, 0, 0, 0, 0, 0, 0, 0, 1, 1, 0, 0] (Trc.pure rfl rfl rfl (.inl fun _ => s_mv (v := .int .i64 v3) rfl) (Trc.pure rfl rfl rfl (.inl fun _ => s_mv (v := .sl v1) rfl) (Trc.pure rfl rfl rfl (.inl fun _ => s_lenS rfl Try.underlying87 rfl) (Trc.pure rfl rfl rfl (.inl fun _ => s_lss rfl rfl) (Trc.pure rfl rfl rfl (.inl fun _ => s_mv (v := .bool (decide (v3 < (v1.len : Int)))) rfl) (Trc.know 24 rfl (dec_true h2) (Trc.pure rfl rfl rfl (.inl fun _ => s_mv (v := .sl v1) rfl) (Trc.pure rfl rfl rfl (.inl fun _ => s_mv (v := .int .i64 v3) rfl) (Trc.pure rfl rfl rfl (.inl fun _ => s_idx Try.underlying87 ty26 rfl rfl g3) (Trc.read rfl rfl rfl (s_loads Try.underlying26 rfl ty26 rfl (lds_cons (ldI_eq hx4) (lds_cons (ldI_eq hx5) (lds_cons (ldI_eq hx6) (lds_cons (ldI_eq hx7) (lds_nil)))))) (Trc.read rfl rfl rfl (s_loads Try.underlying26 rfl ty26 rfl (lds_cons (ldI_eq hx8) (lds_cons (ldI_eq hx9) (lds_cons (ldI_eq hx10) (lds_cons (ldI_eq hx11) (lds_nil)))))) (Trc.pure rfl rfl rfl (.inl fun _ => s_eqAgg eg26 rfl rfl (eq22 Try.underlying26 Try.underlying24 Try.underlying3 Try.underlying3 ty24 (by decide) (by decide) (by decide) (by decide) rfl rfl rfl rfl sih26 sih24 x4 x5 x6 x7 x8 x9 x10 x11)) (Trc.pure rfl rfl rfl (.inl fun _ => s_pickT (v := .bool (((x4 == x8) && (x5 == x9)) && ((x6 == x10) && (x7 == x11)))) rfl rfl) (Trc.nil (fun _ => trivial))))))))))))))) rfl (by decide +kernel) mixed ?_
      refine f_keep [0, 3, 5, 31] ?_
      exact s91_j2 v1 v2 v3 (((x4 == x8) && (x5 == x9)) && ((x6 == x10) && (x7 == x11))) H
    · skip
      refine f_draw (Φ := fun _ => True) (lim := 1000000) [0, 0, 0, 0, 0, 0, 0, 0, 0, 0, 0, 0] (Trc.pure rfl rfl rfl (.inl fun _ => s_mv (v := .int .i64 v3) rfl) (Trc.pure rfl rfl rfl (.inl fun _ => s_mv (v := .sl v1) rfl) (Trc.pure rfl rfl rfl (.inl fun _ => s_lenS rfl Try.underlying87 rfl) (Trc.pure rfl rfl rfl (.inl fun _ => s_lss rfl rfl) (Trc.pure rfl rfl rfl (.inl fun _ => s_mv (v := .bool (decide (v3 < (v1.len : Int)))) rfl) (Trc.know 24 rfl (dec_false h2) (Trc.no rfl rfl rfl (Trc.no rfl rfl rfl (Trc.no rfl rfl rfl (Trc.no rfl rfl rfl (Trc.no rfl rfl rfl (Trc.no rfl rfl rfl (Trc.pure rfl rfl rfl (.inl fun _ => s_pickF (v := .bool false) rfl rfl) (Trc.nil (fun _ => trivial))))))))))))))) rfl (by decide +kernel) mixed ?_
      refine f_keep [0, 3, 5, 31] ?_
      exact s91_j2 v1 v2 v3 false H

theorem s91_l0 : ∀ (k_ : Nat) (v1 : Sl) (v2 : Nat) (v3 : Int) (H : Hp), Fin Try.prog Try.f91 ret91 45 (todoAt (bodyOf Try.f91) [1, 1, 0, 0, 0] []) [(0, .sl v1), (3, .ptr v2 0), (5, .int .i64 v3)] H (r91_l0 k_ v1 v2 v3 H) := by
  intro k_
  induction k_ with
  | zero => intro _ _ _ _; exact f_none
  | succ k_ ih =>
    intro v1 v2 v3 H
    rw [r91_l0]
    refine f_seq ?_
    refine f_seq ?_
    refine f_if (fun h1 => ?_) (fun h1 => ?_)
    · skip
      refine f_ck fun g2 => ?_
      refine f_bind ?_; intro x3 hx3
      refine f_bind ?_; intro x4 hx4
      refine f_bind ?_; intro x5 hx5
      refine f_bind ?_; intro x6 hx6
      refine f_bind ?_; intro x7 hx7
      refine f_bind ?_; intro x8 hx8
      refine f_bind ?_; intro x9 hx9
      refine f_bind ?_; intro x10 hx10
      refine f_bind ?_; intro p11 hp11
      refine f_draw (Φ := fun _ => True) (lim := 1000000) [0, 0, 0, 0, 0, 0, 0, 0, 1, 1, 0, 0] (Trc.pure rfl rfl rfl (.inl fun _ => s_mv (v := .int .i64 v3) rfl) (Trc.pure rfl rfl rfl (.inl fun _ => s_mv (v := .sl v1) rfl) (Trc.pure rfl rfl rfl (.inl fun _ => s_lenS rfl Try.underlying87 rfl) (Trc.pure rfl rfl rfl (.inl fun _ => s_lss rfl rfl) (Trc.pure rfl rfl rfl (.inl fun _ => s_mv (v := .bool (decide (v3 < (v1.len : Int)))) rfl) (Trc.know 10 rfl (dec_true h1) (Trc.pure rfl rfl rfl (.inl fun _ => s_mv (v := .sl v1) rfl) (Trc.pure rfl rfl rfl (.inl fun _ => s_mv (v := .int .i64 v3) rfl) (Trc.pure rfl rfl rfl (.inl fun _ => s_idx Try.underlying87 ty26 rfl rfl g2) (Trc.read rfl rfl rfl (s_loads Try.underlying26 rfl ty26 rfl (lds_cons (ldI_eq hx3) (lds_cons (ldI_eq hx4) (lds_cons (ldI_eq hx5) (lds_cons (ldI_eq hx6) (lds_nil)))))) (Trc.read rfl rfl rfl (s_loads Try.underlying26 rfl ty26 rfl (lds_cons (ldI_eq hx7) (lds_cons (ldI_eq hx8) (lds_cons (ldI_eq hx9) (lds_cons (ldI_eq hx10) (lds_nil)))))) (Trc.pure rfl rfl rfl (.inl fun _ => s_callO rfl ok110 (sim110 hp11) rfl rfl) (Trc.pure rfl rfl rfl (.inl fun _ => s_pickT (v := .bool p11.1) rfl rfl) (Trc.nil (fun _ => trivial))))))))))))))) rfl (by decide +kernel) mixed ?_
      refine f_keep [0, 3, 5, 17] ?_
      exact s91_j1 _ (fun v1_ v2_ v3_ H_ => ih v1_ v2_ v3_ H_) v1 v2 v3 p11.1 H
    · skip
      refine f_draw (Φ := fun _ => True) (lim := 1000000) [0, 0, 0, 0, 0, 0, 0, 0, 0, 0, 0, 0] (Trc.pure rfl rfl rfl (.inl fun _ => s_mv (v := .int .i64 v3) rfl) (Trc.pure rfl rfl rfl (.inl fun _ => s_mv (v := .sl v1) rfl) (Trc.pure rfl rfl rfl (.inl fun _ => s_lenS rfl Try.underlying87 rfl) (Trc.pure rfl rfl rfl (.inl fun _ => s_lss rfl rfl) (Trc.pure rfl rfl rfl (.inl fun _ => s_mv (v := .bool (decide (v3 < (v1.len : Int)))) rfl) (Trc.know 10 rfl (dec_false h1) (Trc.no rfl rfl rfl (Trc.no rfl rfl rfl (Trc.no rfl rfl rfl (Trc.no rfl rfl rfl (Trc.no rfl rfl rfl (Trc.no rfl rfl rfl (Trc.pure rfl rfl rfl (.inl fun _ => s_pickF (v := .bool false) rfl rfl) (Trc.nil (fun _ => trivial))))))))))))))) rfl (by decide +kernel) mixed ?_
      refine f_keep [0, 3, 5, 17] ?_
      exact s91_j1 _ (fun v1_ v2_ v3_ H_ => ih v1_ v2_ v3_ H_) v1 v2 v3 false H

theorem sim91 {a0 : Sl} {a1_0 : Int} {a1_1 : Int} {a1_2 : Int} {a1_3 : Int} {H : Hp} {p : Sl × Hp} (h : r91 a0 a1_0 a1_1 a1_2 a1_3 H = some p) : CallSim Try.prog 91 [.sl a0, .agg [.int .i64 a1_0, .int .i64 a1_1, .int .i64 a1_2, .int .i64 a1_3]] H (.sl p.1) p.2 := by
  refine callSim (fn := Try.f91) (ret := ret91) Try.func91 rfl Try.ntmps91 rfl ?_ h
  unfold r91
  refine f_seq ?_
  refine f_region ?_
  refine f_op rfl rfl (s_box (v := .agg [.int .i64 a1_0, .int .i64 a1_1, .int .i64 a1_2, .int .i64 a1_3]) rfl rfl) ?_
  refine f_op rfl rfl (s_as (v := .sl ⟨true, 0, 0, 0, 0, 0⟩) rfl) ?_
  refine o_hp ?_; intro H1 hH1
  refine f_nil ?_
  refine f_seq ?_
  refine f_region ?_
  refine f_op rfl rfl (s_as (v := .int .i64 0) rfl) ?_
  refine f_nil ?_
  refine f_seq ?_
  refine f_block ?_
  refine f_loop ?_
  refine f_keep [0, 3, 5] ?_
  exact s91_l0 FUEL a0 H.n 0 H1

/- 54 congou/congouref02.Corners -/
theorem ok54 : FnOk Try.prog 54 := ⟨⟨Try.f54, Try.func54, by kernel_rfl, rfl⟩⟩
theorem s54_l2 (kt1 : Sl → Sl → Nat → Sl → Int → Int → Sl → Int → Int → Hp → Option (Sl × Hp)) (hkt1 : ∀ (v1 : Sl) (v2 : Sl) (v3 : Nat) (v4 : Sl) (v5 : Int) (v6 : Int) (v7 : Sl) (v8 : Int) (v9 : Int) (H : Hp), Fin Try.prog Try.f54 ret54 100 (todoAt (bodyOf Try.f54) [1, 1, 0, 1, 0, 0, 1, 1, 0, 0, 1, 1, 0, 0] []) [(0, .sl v1), (3, .sl v2), (5, .ptr v3 0), (14, .sl v4), (15, .int .i64 v5), (16, .int .i64 v6), (23, .sl v7), (24, .int .i64 v8), (25, .int .i64 v9)] H (kt1 v1 v2 v3 v4 v5 v6 v7 v8 v9 H)) : ∀ (k_ : Nat) (v1 : Sl) (v2 : Sl) (v3 : Nat) (v4 : Int) (v5 : Int) (v6 : Int) (v7 : Bool) (v8 : Sl) (v9 : Int) (v10 : Int) (v11 : Sl) (v12 : Int) (v13 : Int) (v14 : Sl) (v15 : Int) (v16 : Int) (H : Hp), Fin Try.prog Try.f54 ret54 100 (todoAt (bodyOf Try.f54) [1, 1, 0, 1, 0, 0, 1, 1, 0, 0, 1, 1, 0, 0, 1, 1, 0, 0, 1, 1, 1, 1, 1, 1, 0, 1, 0, 0] []) [(0, .sl v1), (3, .sl v2), (5, .ptr v3 0), (8, .int .i64 v4), (9, .int .i64 v5), (10, .int .i64 v6), (11, .bool v7), (14, .sl v8), (15, .int .i64 v9), (16, .int .i64 v10), (23, .sl v11), (24, .int .i64 v12), (25, .int .i64 v13), (72, .sl v14), (73, .int .i64 v15), (74, .int .i64 v16)] H (r54_l2 kt1 k_ v1 v2 v3 v4 v5 v6 v7 v8 v9 v10 v11 v12 v13 v14 v15 v16 H) := by
  intro k_
  induction k_ with
  | zero => intro _ _ _ _ _ _ _ _ _ _ _ _ _ _ _ _ _; exact f_none
  | succ k_ ih =>
    intro v1 v2 v3 v4 v5 v6 v7 v8 v9 v10 v11 v12 v13 v14 v15 v16 H
    rw [r54_l2]
    refine f_seq ?_
    refine f_region ?_
    refine f_op rfl rfl (s_lss rfl rfl) ?_
    refine f_nil ?_
    refine f_seq ?_
    refine f_if (fun h1 => ?_) (fun h1 => ?_)
    · skip
      refine f_know 75 rfl (dec_true h1) ?_
      refine f_condT rfl ?_
      refine f_skip ?_
      refine f_seq ?_
      refine f_block ?_
      refine f_seq ?_
      refine f_region ?_
      refine o_ck fun g2 => ?_
      refine f_op rfl rfl (s_idx Try.underlying22 ty46 rfl rfl g2) ?_
      refine o_bind ?_; intro x3 hx3
      refine o_bind ?_; intro x4 hx4
      refine o_bind ?_; intro x5 hx5
      refine f_op rfl rfl (s_loads Try.underlying46 rfl ty46 rfl (lds_cons (ldI_eq hx3) (lds_cons (ldI_eq hx4) (lds_cons (ldI_eq hx5) (lds_nil))))) ?_
      refine f_op rfl rfl (s_alloc (zs := [.int .i64 0, .int .i64 0, .int .i64 0]) ty46 rfl rfl) ?_
      refine o_bind ?_; intro H6 hH6
      refine f_op rfl rfl (s_stores ty46 rfl rfl rfl rfl hH6 (Nat.le_of_eq (sts_mono hH6).symm)) ?_
      refine f_nil ?_
      refine f_region ?_
      refine f_op rfl rfl (s_mv (v := .bool v7) rfl) ?_
      refine f_op rfl rfl (s_mv (v := .bool v7) rfl) ?_
      refine o_if (fun h7 => ?_) (fun h7 => ?_)
      · skip
        refine o_know 79 rfl (bool_T h7) ?_
        refine o_bind ?_; intro x8 hx8
        refine o_bind ?_; intro x9 hx9
        refine o_bind ?_; intro x10 hx10
        refine f_op rfl rfl (s_loads Try.underlying46 rfl ty46 rfl (lds_cons (ldI_eq hx8) (lds_cons (ldI_eq hx9) (lds_cons (ldI_eq hx10) (lds_nil))))) ?_
        refine f_op rfl rfl (s_mv (v := .int .i64 v5) rfl) ?_
        refine f_op rfl rfl (s_mv (v := .int .i64 v6) rfl) ?_
        refine f_op rfl rfl (s_mv (v := .int .i64 v4) rfl) ?_
        refine o_bind ?_; intro p11 hp11
        refine f_op rfl rfl (s_callO rfl ok75 (sim75 hp11) rfl rfl) ?_
        refine f_op rfl rfl (s_pickT (v := .bool p11.1) rfl rfl) ?_
        refine f_op rfl rfl (s_as (v := .bool p11.1) rfl) ?_
        refine f_nil ?_
        refine f_inBlock ?_
        refine f_region ?_
        refine f_op rfl rfl (s_add rfl rfl) ?_
        refine f_op rfl rfl (s_mv (v := .int .i64 (w64 (v16 + 1))) rfl) ?_
        refine f_nil ?_
        refine f_inLoop ?_
        refine f_keep [0, 3, 5, 8, 9, 10, 11, 14, 15, 16, 23, 24, 25, 72, 73, 74] ?_
        exact ih v1 v2 v3 v4 v5 v6 p11.1 v8 v9 v10 v11 v12 v13 v14 v15 (w64 (v16 + 1)) H6
      · skip
        refine o_know 79 rfl (bool_F h7) ?_
        refine f_no rfl rfl ?_
        refine f_no rfl rfl ?_
        refine f_no rfl rfl ?_
        refine f_no rfl rfl ?_
        refine f_no rfl rfl ?_
        refine f_op rfl rfl (s_pickF (v := .bool false) rfl rfl) ?_
        refine f_op rfl rfl (s_as (v := .bool false) rfl) ?_
        refine f_nil ?_
        refine f_inBlock ?_
        refine f_region ?_
        refine f_op rfl rfl (s_add rfl rfl) ?_
        refine f_op rfl rfl (s_mv (v := .int .i64 (w64 (v16 + 1))) rfl) ?_
        refine f_nil ?_
        refine f_inLoop ?_
        refine f_keep [0, 3, 5, 8, 9, 10, 11, 14, 15, 16, 23, 24, 25, 72, 73, 74] ?_
        exact ih v1 v2 v3 v4 v5 v6 false v8 v9 v10 v11 v12 v13 v14 v15 (w64 (v16 + 1)) H6
    · skip
      refine f_know 75 rfl (dec_false h1) ?_
      refine f_condF rfl ?_
      refine f_exit rfl ?_
      refine f_seq ?_
      refine f_region ?_
      refine f_op rfl rfl (s_mv (v := .bool v7) rfl) ?_
      refine f_nil ?_
      refine f_if (fun h12 => ?_) (fun h12 => ?_)
      · skip
        refine f_know 87 rfl (bool_T h12) ?_
        refine f_condT rfl ?_
        refine f_region ?_
        refine f_op rfl rfl (s_mv (v := .sl v2) rfl) ?_
        refine f_op rfl rfl (s_mv (v := .int .i64 v5) rfl) ?_
        refine f_op rfl rfl (s_mv (v := .int .i64 v4) rfl) ?_
        refine o_bind ?_; intro p13 hp13
        refine f_op rfl rfl (s_callO rfl ok56 (sim56 hp13) rfl rfl) ?_
        refine f_op rfl rfl (s_mv (v := .int .i64 v6) rfl) ?_
        refine f_op rfl rfl (s_mv (v := .int .i64 v4) rfl) ?_
        refine o_bind ?_; intro p14 hp14
        refine f_op rfl rfl (s_callO rfl ok56 (sim56 hp14) rfl rfl) ?_
        refine f_op rfl rfl (s_build (cs := [.int .i64 p13.1.1, .int .i64 p13.1.2, .int .i64 p14.1.1, .int .i64 p14.1.2]) Try.underlying26 ty26 rfl pl26 rfl) ?_
        refine o_bind ?_; intro p15 hp15
        refine f_op rfl rfl (s_callF rfl ok91 (sim91 hp15)) ?_
        refine f_op rfl rfl (s_as (v := .sl p15.1) rfl) ?_
        refine f_nil ?_
        refine f_inBlock ?_
        refine f_region ?_
        refine f_op rfl rfl (s_add rfl rfl) ?_
        refine f_op rfl rfl (s_mv (v := .int .i64 (w64 (v13 + 1))) rfl) ?_
        refine f_nil ?_
        refine f_inLoop ?_
        refine f_keep [0, 3, 5, 14, 15, 16, 23, 24, 25] ?_
        exact hkt1 v1 p15.1 v3 v8 v9 v10 v11 v12 (w64 (v13 + 1)) p15.2
      · skip
        refine f_know 87 rfl (bool_F h12) ?_
        refine f_condF rfl ?_
        refine f_skip ?_
        refine f_inBlock ?_
        refine f_region ?_
        refine f_op rfl rfl (s_add rfl rfl) ?_
        refine f_op rfl rfl (s_mv (v := .int .i64 (w64 (v13 + 1))) rfl) ?_
        refine f_nil ?_
        refine f_inLoop ?_
        refine f_keep [0, 3, 5, 14, 15, 16, 23, 24, 25] ?_
        exact hkt1 v1 v2 v3 v8 v9 v10 v11 v12 (w64 (v13 + 1)) H

theorem s54_j3 (kt1 : Sl → Sl → Nat → Sl → Int → Int → Sl → Int → Int → Hp → Option (Sl × Hp)) (hkt1 : ∀ (v1 : Sl) (v2 : Sl) (v3 : Nat) (v4 : Sl) (v5 : Int) (v6 : Int) (v7 : Sl) (v8 : Int) (v9 : Int) (H : Hp), Fin Try.prog Try.f54 ret54 100 (todoAt (bodyOf Try.f54) [1, 1, 0, 1, 0, 0, 1, 1, 0, 0, 1, 1, 0, 0] []) [(0, .sl v1), (3, .sl v2), (5, .ptr v3 0), (14, .sl v4), (15, .int .i64 v5), (16, .int .i64 v6), (23, .sl v7), (24, .int .i64 v8), (25, .int .i64 v9)] H (kt1 v1 v2 v3 v4 v5 v6 v7 v8 v9 H)) (v1 : Sl) (v2 : Sl) (v3 : Nat) (v4 : Int) (v5 : Int) (v6 : Int) (v7 : Sl) (v8 : Int) (v9 : Int) (v10 : Sl) (v11 : Int) (v12 : Int) (H : Hp) : Fin Try.prog Try.f54 ret54 100 (todoAt (bodyOf Try.f54) [1, 1, 0, 1, 0, 0, 1, 1, 0, 0, 1, 1, 0, 0, 1, 1, 0, 0, 1, 1, 1, 1, 1] []) [(0, .sl v1), (3, .sl v2), (5, .ptr v3 0), (8, .int .i64 v4), (9, .int .i64 v5), (10, .int .i64 v6), (14, .sl v7), (15, .int .i64 v8), (16, .int .i64 v9), (23, .sl v10), (24, .int .i64 v11), (25, .int .i64 v12)] H (r54_j3 kt1 v1 v2 v3 v4 v5 v6 v7 v8 v9 v10 v11 v12 H) := by
  unfold r54_j3
  refine f_seq ?_
  refine f_region ?_
  refine f_op rfl rfl (s_as (v := .bool true) rfl) ?_
  refine f_nil ?_
  refine f_seq ?_
  refine f_seq ?_
  refine f_region ?_
  refine f_op rfl rfl (s_mv (v := .sl v1) rfl) ?_
  refine f_op rfl rfl (s_lenS rfl Try.underlying22 rfl) ?_
  refine f_op rfl rfl (s_mv (v := .int .i64 0) rfl) ?_
  refine f_nil ?_
  refine f_block ?_
  refine f_loop ?_
  refine f_keep [0, 3, 5, 8, 9, 10, 11, 14, 15, 16, 23, 24, 25, 72, 73, 74] ?_
  exact s54_l2 _ hkt1 FUEL v1 v2 v3 v4 v5 v6 true v7 v8 v9 v10 v11 v12 v1 (v1.len : Int) 0 H

theorem s54_l1 (kt0 : Sl → Sl → Sl → Int → Int → Hp → Option (Sl × Hp)) (hkt0 : ∀ (v1 : Sl) (v2 : Sl) (v3 : Sl) (v4 : Int) (v5 : Int) (H : Hp), Fin Try.prog Try.f54 ret54 100 (todoAt (bodyOf Try.f54) [1, 1, 0, 1, 0, 0] []) [(0, .sl v1), (3, .sl v2), (14, .sl v3), (15, .int .i64 v4), (16, .int .i64 v5)] H (kt0 v1 v2 v3 v4 v5 H)) : ∀ (k_ : Nat) (v1 : Sl) (v2 : Sl) (v3 : Nat) (v4 : Sl) (v5 : Int) (v6 : Int) (v7 : Sl) (v8 : Int) (v9 : Int) (H : Hp), Fin Try.prog Try.f54 ret54 100 (todoAt (bodyOf Try.f54) [1, 1, 0, 1, 0, 0, 1, 1, 0, 0, 1, 1, 0, 0] []) [(0, .sl v1), (3, .sl v2), (5, .ptr v3 0), (14, .sl v4), (15, .int .i64 v5), (16, .int .i64 v6), (23, .sl v7), (24, .int .i64 v8), (25, .int .i64 v9)] H (r54_l1 kt0 k_ v1 v2 v3 v4 v5 v6 v7 v8 v9 H) := by
  intro k_
  induction k_ with
  | zero => intro _ _ _ _ _ _ _ _ _ _; exact f_none
  | succ k_ ih =>
    intro v1 v2 v3 v4 v5 v6 v7 v8 v9 H
    rw [r54_l1]
    refine f_seq ?_
    refine f_region ?_
    refine f_op rfl rfl (s_lss rfl rfl) ?_
    refine f_nil ?_
    refine f_seq ?_
    refine f_if (fun h1 => ?_) (fun h1 => ?_)
    · skip
      refine f_know 26 rfl (dec_true h1) ?_
      refine f_condT rfl ?_
      refine f_skip ?_
      refine f_seq ?_
      refine f_block ?_
      refine f_seq ?_
      refine f_region ?_
      refine o_ck fun g2 => ?_
      refine f_op rfl rfl (s_idx Try.underlying22 ty46 rfl rfl g2) ?_
      refine o_bind ?_; intro x3 hx3
      refine o_bind ?_; intro x4 hx4
      refine o_bind ?_; intro x5 hx5
      refine f_op rfl rfl (s_loads Try.underlying46 rfl ty46 rfl (lds_cons (ldI_eq hx3) (lds_cons (ldI_eq hx4) (lds_cons (ldI_eq hx5) (lds_nil))))) ?_
      refine f_op rfl rfl (s_alloc (zs := [.int .i64 0, .int .i64 0, .int .i64 0]) ty46 rfl rfl) ?_
      refine o_bind ?_; intro H6 hH6
      refine f_op rfl rfl (s_stores ty46 rfl rfl rfl rfl hH6 (Nat.le_of_eq (sts_mono hH6).symm)) ?_
      refine f_nil ?_
      refine f_seq ?_
      refine f_region ?_
      refine f_op rfl rfl (s_fieldAddr Try.underlying46 rfl ty3 rfl) ?_
      refine o_bind ?_; intro x7 hx7
      refine f_op rfl rfl (s_load Try.underlying3 rfl rfl (ldI_eq hx7)) ?_
      refine f_op rfl rfl (s_fieldAddr Try.underlying46 rfl ty3 rfl) ?_
      refine o_bind ?_; intro x8 hx8
      refine f_op rfl rfl (s_load Try.underlying3 rfl rfl (ldI_eq hx8)) ?_
      refine f_op rfl rfl (s_mul rfl rfl) ?_
      refine f_op rfl rfl (s_fieldAddr Try.underlying46 rfl ty3 rfl) ?_
      refine o_bind ?_; intro x9 hx9
      refine f_op rfl rfl (s_load Try.underlying3 rfl rfl (ldI_eq hx9)) ?_
      refine f_op rfl rfl (s_fieldAddr Try.underlying46 rfl ty3 rfl) ?_
      refine o_bind ?_; intro x10 hx10
      refine f_op rfl rfl (s_load Try.underlying3 rfl rfl (ldI_eq hx10)) ?_
      refine f_op rfl rfl (s_mul rfl rfl) ?_
      refine f_op rfl rfl (s_sub rfl rfl) ?_
      refine f_op rfl rfl (s_as (v := .int .i64 (w64 ((w64 (x7 * x8)) - (w64 (x9 * x10))))) rfl) ?_
      refine f_nil ?_
      refine f_seq ?_
      refine f_seq ?_
      refine f_region ?_
      refine f_op rfl rfl (s_mv (v := .int .i64 (w64 ((w64 (x7 * x8)) - (w64 (x9 * x10))))) rfl) ?_
      refine f_op rfl rfl (s_eql rfl rfl) ?_
      refine f_nil ?_
      refine f_if (fun h11 => ?_) (fun h11 => ?_)
      · skip
        refine f_know 41 rfl (dec_true h11) ?_
        refine f_condT rfl ?_
        refine f_exit rfl ?_
        refine f_region ?_
        refine f_op rfl rfl (s_add rfl rfl) ?_
        refine f_op rfl rfl (s_mv (v := .int .i64 (w64 (v9 + 1))) rfl) ?_
        refine f_nil ?_
        refine f_inLoop ?_
        refine f_keep [0, 3, 5, 14, 15, 16, 23, 24, 25] ?_
        exact ih v1 v2 v3 v4 v5 v6 v7 v8 (w64 (v9 + 1)) H6
      · skip
        refine f_know 41 rfl (dec_false h11) ?_
        refine f_condF rfl ?_
        refine f_skip ?_
        refine f_seq ?_
        refine f_bind ?_; intro x12 hx12
        refine f_bind ?_; intro x13 hx13
        refine f_bind ?_; intro x14 hx14
        refine f_bind ?_; intro x15 hx15
        refine f_bind ?_; intro x16 hx16
        refine f_bind ?_; intro x17 hx17
        refine f_bind ?_; intro x18 hx18
        refine f_bind ?_; intro x19 hx19
        refine f_draw (Φ := fun _ => True) (lim := 1000000) [0, 1, 0, 1, 0, 0, 1, 0, 1, 0, 0, 0, 1, 0, 1, 0, 0, 1, 0, 1, 0, 0, 0, 0] (Trc.pure rfl rfl rfl (.inl fun _ => s_fieldAddr Try.underlying46 rfl ty3 rfl) (Trc.read rfl rfl rfl (s_load Try.underlying3 rfl rfl (ldI_eq hx12)) (Trc.pure rfl rfl rfl (.inl fun _ => s_fieldAddr Try.underlying46 rfl ty3 rfl) (Trc.read rfl rfl rfl (s_load Try.underlying3 rfl rfl (ldI_eq hx13)) (Trc.pure rfl rfl rfl (.inl fun _ => s_mul rfl rfl) (Trc.pure rfl rfl rfl (.inl fun _ => s_fieldAddr Try.underlying46 rfl ty3 rfl) (Trc.read rfl rfl rfl (s_load Try.underlying3 rfl rfl (ldI_eq hx14)) (Trc.pure rfl rfl rfl (.inl fun _ => s_fieldAddr Try.underlying46 rfl ty3 rfl) (Trc.read rfl rfl rfl (s_load Try.underlying3 rfl rfl (ldI_eq hx15)) (Trc.pure rfl rfl rfl (.inl fun _ => s_mul rfl rfl) (Trc.pure rfl rfl rfl (.inl fun _ => s_sub rfl rfl) (Trc.pure rfl rfl rfl (.inl fun _ => s_fieldAddr Try.underlying46 rfl ty3 rfl) (Trc.read rfl rfl rfl (s_load Try.underlying3 rfl rfl (ldI_eq hx16)) (Trc.pure rfl rfl rfl (.inl fun _ => s_fieldAddr Try.underlying46 rfl ty3 rfl) (Trc.read rfl rfl rfl (s_load Try.underlying3 rfl rfl (ldI_eq hx17)) (Trc.pure rfl rfl rfl (.inl fun _ => s_mul rfl rfl) (Trc.pure rfl rfl rfl (.inl fun _ => s_fieldAddr Try.underlying46 rfl ty3 rfl) (Trc.read rfl rfl rfl (s_load Try.underlying3 rfl rfl (ldI_eq hx18)) (Trc.pure rfl rfl rfl (.inl fun _ => s_fieldAddr Try.underlying46 rfl ty3 rfl) (Trc.read rfl rfl rfl (s_load Try.underlying3 rfl rfl (ldI_eq hx19)) (Trc.pure rfl rfl rfl (.inl fun _ => s_mul rfl rfl) (Trc.pure rfl rfl rfl (.inl fun _ => s_sub rfl rfl) (Trc.pure rfl rfl rfl (.inl fun _ => s_as (v := .int .i64 (w64 ((w64 (x12 * x13)) - (w64 (x14 * x15))))) rfl) (Trc.pure rfl rfl rfl (.inl fun _ => s_as (v := .int .i64 (w64 ((w64 (x16 * x17)) - (w64 (x18 * x19))))) rfl) (Trc.nil (fun _ => trivial)))))))))))))))))))))))))) rfl (by decide +kernel) mixed ?_
        refine f_seq ?_
        refine f_seq ?_
        refine f_region ?_
        refine f_op rfl rfl (s_mv (v := .int .i64 (w64 ((w64 (x7 * x8)) - (w64 (x9 * x10))))) rfl) ?_
        refine f_op rfl rfl (s_lss rfl rfl) ?_
        refine f_nil ?_
        refine f_if (fun h20 => ?_) (fun h20 => ?_)
        · skip
          refine f_know 65 rfl (dec_true h20) ?_
          refine f_condT rfl ?_
          refine f_region ?_
          refine f_op rfl rfl (s_mv (v := .int .i64 (w64 ((w64 (x12 * x13)) - (w64 (x14 * x15))))) rfl) ?_
          refine f_op rfl rfl (s_neg rfl) ?_
          refine f_op rfl rfl (s_mv (v := .int .i64 (w64 ((w64 (x16 * x17)) - (w64 (x18 * x19))))) rfl) ?_
          refine f_op rfl rfl (s_neg rfl) ?_
          refine f_op rfl rfl (s_mv (v := .int .i64 (w64 ((w64 (x7 * x8)) - (w64 (x9 * x10))))) rfl) ?_
          refine f_op rfl rfl (s_neg rfl) ?_
          refine f_op rfl rfl (s_as (v := .int .i64 (w64 (0 - (w64 ((w64 (x12 * x13)) - (w64 (x14 * x15))))))) rfl) ?_
          refine f_op rfl rfl (s_as (v := .int .i64 (w64 (0 - (w64 ((w64 (x16 * x17)) - (w64 (x18 * x19))))))) rfl) ?_
          refine f_op rfl rfl (s_as (v := .int .i64 (w64 (0 - (w64 ((w64 (x7 * x8)) - (w64 (x9 * x10))))))) rfl) ?_
          refine f_nil ?_
          refine f_keep [0, 3, 5, 8, 9, 10, 14, 15, 16, 23, 24, 25] ?_
          exact s54_j3 _ (fun v1_ v2_ v3_ v4_ v5_ v6_ v7_ v8_ v9_ H_ => ih v1_ v2_ v3_ v4_ v5_ v6_ v7_ v8_ v9_ H_) v1 v2 v3 (w64 (0 - (w64 ((w64 (x7 * x8)) - (w64 (x9 * x10)))))) (w64 (0 - (w64 ((w64 (x12 * x13)) - (w64 (x14 * x15)))))) (w64 (0 - (w64 ((w64 (x16 * x17)) - (w64 (x18 * x19)))))) v4 v5 v6 v7 v8 v9 H6
        · skip
          refine f_know 65 rfl (dec_false h20) ?_
          refine f_condF rfl ?_
          refine f_skip ?_
          refine f_keep [0, 3, 5, 8, 9, 10, 14, 15, 16, 23, 24, 25] ?_
          exact s54_j3 _ (fun v1_ v2_ v3_ v4_ v5_ v6_ v7_ v8_ v9_ H_ => ih v1_ v2_ v3_ v4_ v5_ v6_ v7_ v8_ v9_ H_) v1 v2 v3 (w64 ((w64 (x7 * x8)) - (w64 (x9 * x10)))) (w64 ((w64 (x12 * x13)) - (w64 (x14 * x15)))) (w64 ((w64 (x16 * x17)) - (w64 (x18 * x19)))) v4 v5 v6 v7 v8 v9 H6
    · skip
      refine f_know 26 rfl (dec_false h1) ?_
      refine f_condF rfl ?_
      refine f_exit rfl ?_
      refine f_inBlock ?_
      refine f_region ?_
      refine f_op rfl rfl (s_add rfl rfl) ?_
      refine f_op rfl rfl (s_mv (v := .int .i64 (w64 (v6 + 1))) rfl) ?_
      refine f_nil ?_
      refine f_inLoop ?_
      refine f_keep [0, 3, 14, 15, 16] ?_
      exact hkt0 v1 v2 v4 v5 (w64 (v6 + 1)) H

theorem s54_l0 : ∀ (k_ : Nat) (v1 : Sl) (v2 : Sl) (v3 : Sl) (v4 : Int) (v5 : Int) (H : Hp), Fin Try.prog Try.f54 ret54 100 (todoAt (bodyOf Try.f54) [1, 1, 0, 1, 0, 0] []) [(0, .sl v1), (3, .sl v2), (14, .sl v3), (15, .int .i64 v4), (16, .int .i64 v5)] H (r54_l0 k_ v1 v2 v3 v4 v5 H) := by
  intro k_
  induction k_ with
  | zero => intro _ _ _ _ _ _; exact f_none
  | succ k_ ih =>
    intro v1 v2 v3 v4 v5 H
    rw [r54_l0]
    refine f_seq ?_
    refine f_region ?_
    refine f_op rfl rfl (s_lss rfl rfl) ?_
    refine f_nil ?_
    refine f_seq ?_
    refine f_if (fun h1 => ?_) (fun h1 => ?_)
    · skip
      refine f_know 17 rfl (dec_true h1) ?_
      refine f_condT rfl ?_
      refine f_skip ?_
      refine f_seq ?_
      refine f_block ?_
      refine f_seq ?_
      refine f_region ?_
      refine f_op rfl rfl (s_mv (v := .int .i64 v5) rfl) ?_
      refine o_ck fun g2 => ?_
      refine f_op rfl rfl (s_idx Try.underlying22 ty46 rfl rfl g2) ?_
      refine o_bind ?_; intro x3 hx3
      refine o_bind ?_; intro x4 hx4
      refine o_bind ?_; intro x5 hx5
      refine f_op rfl rfl (s_loads Try.underlying46 rfl ty46 rfl (lds_cons (ldI_eq hx3) (lds_cons (ldI_eq hx4) (lds_cons (ldI_eq hx5) (lds_nil))))) ?_
      refine f_op rfl rfl (s_alloc (zs := [.int .i64 0, .int .i64 0, .int .i64 0]) ty46 rfl rfl) ?_
      refine f_op rfl rfl (s_as (v := .int .i64 v5) rfl) ?_
      refine o_bind ?_; intro H6 hH6
      refine f_op rfl rfl (s_stores ty46 rfl rfl rfl rfl hH6 (Nat.le_of_eq (sts_mono hH6).symm)) ?_
      refine f_nil ?_
      refine f_seq ?_
      refine f_region ?_
      refine f_op rfl rfl (s_mv (v := .sl v1) rfl) ?_
      refine f_op rfl rfl (s_mv (v := .int .i64 v5) rfl) ?_
      refine o_ck fun g7 => ?_
      refine f_op rfl rfl (s_slice Try.underlying22 ty46 rfl rfl rfl g7.1 g7.2) ?_
      refine f_op rfl rfl (s_lenS rfl Try.underlying22 rfl) ?_
      refine f_op rfl rfl (s_mv (v := .int .i64 0) rfl) ?_
      refine f_nil ?_
      refine f_block ?_
      refine f_loop ?_
      refine f_keep [0, 3, 5, 14, 15, 16, 23, 24, 25] ?_
      exact s54_l1 _ (fun v1_ v2_ v3_ v4_ v5_ H_ => ih v1_ v2_ v3_ v4_ v5_ H_) FUEL v1 v2 H.n v3 v4 v5 (v1.cut 3 (0 : Int).toNat (v5 : Int).toNat) ((v1.cut 3 (0 : Int).toNat (v5 : Int).toNat).len : Int) 0 H6
    · skip
      refine f_know 17 rfl (dec_false h1) ?_
      refine f_condF rfl ?_
      refine f_exit rfl ?_
      refine f_seq ?_
      refine f_region ?_
      refine f_op rfl rfl (s_mv (v := .sl v2) rfl) ?_
      refine f_op rfl rfl (s_as (v := .sl v2) rfl) ?_
      refine f_nil ?_
      exact f_ret (.tmp rfl (.nil)) rfl

theorem sim54 {a0 : Sl} {H : Hp} {p : Sl × Hp} (h : r54 a0 H = some p) : CallSim Try.prog 54 [.sl a0] H (.sl p.1) p.2 := by
  refine callSim (fn := Try.f54) (ret := ret54) Try.func54 rfl Try.ntmps54 rfl ?_ h
  unfold r54
  refine f_seq ?_
  refine f_region ?_
  refine f_op rfl rfl (s_as (v := .sl ⟨true, 0, 0, 0, 0, 0⟩) rfl) ?_
  refine f_nil ?_
  refine f_seq ?_
  refine f_region ?_
  refine f_op rfl rfl (s_as (v := .sl ⟨true, 0, 0, 0, 0, 0⟩) rfl) ?_
  refine f_nil ?_
  refine f_seq ?_
  refine f_seq ?_
  refine f_region ?_
  refine f_op rfl rfl (s_mv (v := .sl a0) rfl) ?_
  refine f_op rfl rfl (s_lenS rfl Try.underlying22 rfl) ?_
  refine f_op rfl rfl (s_mv (v := .int .i64 0) rfl) ?_
  refine f_nil ?_
  refine f_block ?_
  refine f_loop ?_
  refine f_keep [0, 3, 14, 15, 16] ?_
  exact s54_l0 FUEL a0 ⟨true, 0, 0, 0, 0, 0⟩ a0 (a0.len : Int) 0 H

/- 60 congou/congouref02.Bound -/
theorem ok60 : FnOk Try.prog 60 := ⟨⟨Try.f60, Try.func60, by kernel_rfl, rfl⟩⟩
theorem s60_j1 (kt0 : Int → Int → Nat → Nat → Sl → Int → Int → Hp → Option ((Int × Int × Int) × Hp)) (hkt0 : ∀ (v1 : Int) (v2 : Int) (v3 : Nat) (v4 : Nat) (v5 : Sl) (v6 : Int) (v7 : Int) (H : Hp), Fin Try.prog Try.f60 ret60 60 (todoAt (bodyOf Try.f60) [1, 1, 1, 0, 1, 0, 0] []) [(1, .int .i64 v1), (2, .int .i64 v2), (6, .ptr v3 0), (8, .ptr v4 0), (16, .sl v5), (17, .int .i64 v6), (18, .int .i64 v7)] H (kt0 v1 v2 v3 v4 v5 v6 v7 H)) (v1 : Int) (v2 : Int) (v3 : Nat) (v4 : Nat) (v5 : Nat) (v6 : Sl) (v7 : Int) (v8 : Int) (v9 : Bool) (H : Hp) : Fin Try.prog Try.f60 ret60 60 (todoAt (bodyOf Try.f60) [1, 1, 1, 0, 1, 0, 0, 1, 1, 0, 0, 1, 1, 1] []) [(1, .int .i64 v1), (2, .int .i64 v2), (6, .ptr v3 0), (8, .ptr v4 0), (11, .ptr v5 0), (16, .sl v6), (17, .int .i64 v7), (18, .int .i64 v8), (56, .bool v9)] H (r60_j1 kt0 v1 v2 v3 v4 v5 v6 v7 v8 v9 H) := by
  unfold r60_j1
  refine f_if (fun h1 => ?_) (fun h1 => ?_)
  · skip
    refine f_know 56 rfl (bool_T h1) ?_
    refine f_condT rfl ?_
    refine f_region ?_
    refine o_bind ?_; intro x2 hx2
    refine o_bind ?_; intro x3 hx3
    refine f_op rfl rfl (s_loads Try.underlying24 rfl ty24 rfl (lds_cons (ldI_eq hx2) (lds_cons (ldI_eq hx3) (lds_nil)))) ?_
    refine o_bind ?_; intro H4 hH4
    refine f_op rfl rfl (s_stores ty24 rfl rfl rfl rfl hH4 (Nat.le_of_eq (sts_mono hH4).symm)) ?_
    refine f_nil ?_
    refine f_inBlock ?_
    refine f_region ?_
    refine f_op rfl rfl (s_add rfl rfl) ?_
    refine f_op rfl rfl (s_mv (v := .int .i64 (w64 (v8 + 1))) rfl) ?_
    refine f_nil ?_
    refine f_inLoop ?_
    refine f_keep [1, 2, 6, 8, 16, 17, 18] ?_
    exact hkt0 v1 v2 v3 v4 v6 v7 (w64 (v8 + 1)) H4
  · skip
    refine f_know 56 rfl (bool_F h1) ?_
    refine f_condF rfl ?_
    refine f_skip ?_
    refine f_inBlock ?_
    refine f_region ?_
    refine f_op rfl rfl (s_add rfl rfl) ?_
    refine f_op rfl rfl (s_mv (v := .int .i64 (w64 (v8 + 1))) rfl) ?_
    refine f_nil ?_
    refine f_inLoop ?_
    refine f_keep [1, 2, 6, 8, 16, 17, 18] ?_
    exact hkt0 v1 v2 v3 v4 v6 v7 (w64 (v8 + 1)) H

theorem s60_l0 : ∀ (k_ : Nat) (v1 : Int) (v2 : Int) (v3 : Nat) (v4 : Nat) (v5 : Sl) (v6 : Int) (v7 : Int) (H : Hp), Fin Try.prog Try.f60 ret60 60 (todoAt (bodyOf Try.f60) [1, 1, 1, 0, 1, 0, 0] []) [(1, .int .i64 v1), (2, .int .i64 v2), (6, .ptr v3 0), (8, .ptr v4 0), (16, .sl v5), (17, .int .i64 v6), (18, .int .i64 v7)] H (r60_l0 k_ v1 v2 v3 v4 v5 v6 v7 H) := by
  intro k_
  induction k_ with
  | zero => intro _ _ _ _ _ _ _ _; exact f_none
  | succ k_ ih =>
    intro v1 v2 v3 v4 v5 v6 v7 H
    rw [r60_l0]
    refine f_seq ?_
    refine f_region ?_
    refine f_op rfl rfl (s_lss rfl rfl) ?_
    refine f_nil ?_
    refine f_seq ?_
    refine f_if (fun h1 => ?_) (fun h1 => ?_)
    · skip
      refine f_know 19 rfl (dec_true h1) ?_
      refine f_condT rfl ?_
      refine f_skip ?_
      refine f_seq ?_
      refine f_block ?_
      refine f_seq ?_
      refine f_region ?_
      refine f_op rfl rfl (s_mv (v := .int .i64 v7) rfl) ?_
      refine o_ck fun g2 => ?_
      refine f_op rfl rfl (s_idx Try.underlying87 ty26 rfl rfl g2) ?_
      refine o_bind ?_; intro x3 hx3
      refine o_bind ?_; intro x4 hx4
      refine o_bind ?_; intro x5 hx5
      refine o_bind ?_; intro x6 hx6
      refine f_op rfl rfl (s_loads Try.underlying26 rfl ty26 rfl (lds_cons (ldI_eq hx3) (lds_cons (ldI_eq hx4) (lds_cons (ldI_eq hx5) (lds_cons (ldI_eq hx6) (lds_nil)))))) ?_
      refine f_op rfl rfl (s_alloc (zs := [.int .i64 0, .int .i64 0, .int .i64 0, .int .i64 0]) ty26 rfl rfl) ?_
      refine f_op rfl rfl (s_as (v := .int .i64 v7) rfl) ?_
      refine o_bind ?_; intro H7 hH7
      refine f_op rfl rfl (s_stores ty26 rfl rfl rfl rfl hH7 (Nat.le_of_eq (sts_mono hH7).symm)) ?_
      refine f_nil ?_
      refine f_seq ?_
      refine f_region ?_
      refine f_op rfl rfl (s_mv (v := .int .i64 v1) rfl) ?_
      refine f_op rfl rfl (s_fieldAddr Try.underlying26 rfl ty24 rfl) ?_
      refine f_op rfl rfl (s_fieldAddr Try.underlying24 rfl ty3 rfl) ?_
      refine o_bind ?_; intro x8 hx8
      refine f_op rfl rfl (s_load Try.underlying3 rfl rfl (ldI_eq hx8)) ?_
      refine f_op rfl rfl (s_mul rfl rfl) ?_
      refine f_op rfl rfl (s_fieldAddr Try.underlying26 rfl ty24 rfl) ?_
      refine f_op rfl rfl (s_fieldAddr Try.underlying24 rfl ty3 rfl) ?_
      refine o_bind ?_; intro x9 hx9
      refine f_op rfl rfl (s_load Try.underlying3 rfl rfl (ldI_eq hx9)) ?_
      refine f_op rfl rfl (s_mul rfl rfl) ?_
      refine f_op rfl rfl (s_mv (v := .int .i64 v2) rfl) ?_
      refine f_op rfl rfl (s_fieldAddr Try.underlying26 rfl ty24 rfl) ?_
      refine f_op rfl rfl (s_fieldAddr Try.underlying24 rfl ty3 rfl) ?_
      refine o_bind ?_; intro x10 hx10
      refine f_op rfl rfl (s_load Try.underlying3 rfl rfl (ldI_eq hx10)) ?_
      refine f_op rfl rfl (s_mul rfl rfl) ?_
      refine f_op rfl rfl (s_fieldAddr Try.underlying26 rfl ty24 rfl) ?_
      refine f_op rfl rfl (s_fieldAddr Try.underlying24 rfl ty3 rfl) ?_
      refine o_bind ?_; intro x11 hx11
      refine f_op rfl rfl (s_load Try.underlying3 rfl rfl (ldI_eq hx11)) ?_
      refine f_op rfl rfl (s_mul rfl rfl) ?_
      refine f_op rfl rfl (s_add rfl rfl) ?_
      refine f_op rfl rfl (s_fieldAddr Try.underlying26 rfl ty24 rfl) ?_
      refine f_op rfl rfl (s_fieldAddr Try.underlying24 rfl ty3 rfl) ?_
      refine o_bind ?_; intro x12 hx12
      refine f_op rfl rfl (s_load Try.underlying3 rfl rfl (ldI_eq hx12)) ?_
      refine f_op rfl rfl (s_fieldAddr Try.underlying26 rfl ty24 rfl) ?_
      refine f_op rfl rfl (s_fieldAddr Try.underlying24 rfl ty3 rfl) ?_
      refine o_bind ?_; intro x13 hx13
      refine f_op rfl rfl (s_load Try.underlying3 rfl rfl (ldI_eq hx13)) ?_
      refine f_op rfl rfl (s_mul rfl rfl) ?_
      refine o_bind ?_; intro p14 hp14
      refine f_op rfl rfl (s_callO rfl ok56 (sim56 hp14) rfl rfl) ?_
      refine f_op rfl rfl (s_alloc (zs := [.int .i64 0, .int .i64 0]) ty24 rfl rfl) ?_
      refine o_bind ?_; intro H15 hH15
      refine f_op rfl rfl (s_stores ty24 rfl rfl rfl rfl hH15 (Nat.le_of_eq (sts_mono hH15).symm)) ?_
      refine f_nil ?_
      refine f_seq ?_
      refine f_region ?_
      refine f_op rfl rfl (s_mv (v := .int .i64 v7) rfl) ?_
      refine f_op rfl rfl (s_eql rfl rfl) ?_
      refine f_op rfl rfl (s_mv (v := .bool (decide (v7 = 0))) rfl) ?_
      refine o_if (fun h16 => ?_) (fun h16 => ?_)
      · skip
        refine o_know 52 rfl (dec_true h16) ?_
        refine f_no rfl rfl ?_
        refine f_no rfl rfl ?_
        refine f_no rfl rfl ?_
        refine f_op rfl rfl (s_pickT (v := .bool true) rfl rfl) ?_
        refine f_nil ?_
        refine f_keep [1, 2, 6, 8, 11, 16, 17, 18, 56] ?_
        exact s60_j1 _ (fun v1_ v2_ v3_ v4_ v5_ v6_ v7_ H_ => ih v1_ v2_ v3_ v4_ v5_ v6_ v7_ H_) v1 v2 v3 v4 H7.n v5 v6 v7 true H15
      · skip
        refine o_know 52 rfl (dec_false h16) ?_
        refine o_bind ?_; intro x17 hx17
        refine o_bind ?_; intro x18 hx18
        refine f_op rfl rfl (s_loads Try.underlying24 rfl ty24 rfl (lds_cons (ldI_eq hx17) (lds_cons (ldI_eq hx18) (lds_nil)))) ?_
        refine o_bind ?_; intro x19 hx19
        refine o_bind ?_; intro x20 hx20
        refine f_op rfl rfl (s_loads Try.underlying24 rfl ty24 rfl (lds_cons (ldI_eq hx19) (lds_cons (ldI_eq hx20) (lds_nil)))) ?_
        refine o_bind ?_; intro p21 hp21
        refine f_op rfl rfl (s_callO rfl ok57 (sim57 hp21) rfl rfl) ?_
        refine f_op rfl rfl (s_pickF (v := .bool p21.1) rfl rfl) ?_
        refine f_nil ?_
        refine f_keep [1, 2, 6, 8, 11, 16, 17, 18, 56] ?_
        exact s60_j1 _ (fun v1_ v2_ v3_ v4_ v5_ v6_ v7_ H_ => ih v1_ v2_ v3_ v4_ v5_ v6_ v7_ H_) v1 v2 v3 v4 H7.n v5 v6 v7 p21.1 H15
    · skip
      refine f_know 19 rfl (dec_false h1) ?_
      refine f_condF rfl ?_
      refine f_exit rfl ?_
      refine f_seq ?_
      refine f_region ?_
      refine o_bind ?_; intro x22 hx22
      refine o_bind ?_; intro x23 hx23
      refine f_op rfl rfl (s_loads Try.underlying24 rfl ty24 rfl (lds_cons (ldI_eq hx22) (lds_cons (ldI_eq hx23) (lds_nil)))) ?_
      refine o_bind ?_; intro H24 hH24
      refine f_op rfl rfl (s_stores ty24 rfl rfl rfl rfl hH24 (Nat.le_of_eq (sts_mono hH24).symm)) ?_
      refine f_op rfl rfl (s_as (v := .int .i64 0) rfl) ?_
      refine f_nil ?_
      refine f_bind ?_; intro x25 hx25
      refine f_bind ?_; intro x26 hx26
      exact f_ret (.cells Try.underlying24 rfl sz24 rfl (lds_cons (ldI_eq hx25) (lds_cons (ldI_eq hx26) (lds_nil))) (.tmp rfl (.nil))) rfl

theorem sim60 {a0 : Sl} {a1 : Int} {a2 : Int} {H : Hp} {p : (Int × Int × Int) × Hp} (h : r60 a0 a1 a2 H = some p) : CallSim Try.prog 60 [.sl a0, .int .i64 a1, .int .i64 a2] H (.tup [.agg [.int .i64 p.1.1, .int .i64 p.1.2.1], .int .i64 p.1.2.2]) p.2 := by
  refine callSim (fn := Try.f60) (ret := ret60) Try.func60 rfl Try.ntmps60 rfl ?_ h
  unfold r60
  refine f_seq ?_
  refine f_region ?_
  refine f_op rfl rfl (s_alloc (zs := [.int .i64 0, .int .i64 0]) ty24 rfl rfl) ?_
  refine f_op rfl rfl (s_as (v := .int .i64 0) rfl) ?_
  refine o_hp ?_; intro H1 hH1
  refine f_nil ?_
  refine f_seq ?_
  refine f_seq ?_
  refine f_region ?_
  refine f_op rfl rfl (s_mv (v := .sl a0) rfl) ?_
  refine f_op rfl rfl (s_lenS rfl Try.underlying87 rfl) ?_
  refine f_op rfl rfl (s_eql rfl rfl) ?_
  refine f_nil ?_
  refine f_if (fun h2 => ?_) (fun h2 => ?_)
  · skip
    refine f_know 14 rfl (dec_true h2) ?_
    refine f_condT rfl ?_
    refine f_seq ?_
    refine f_region ?_
    refine f_op rfl rfl (s_build (cs := [.int .i64 0, .int .i64 0]) Try.underlying24 ty24 rfl pl24 rfl) ?_
    refine o_bind ?_; intro H3 hH3
    refine f_op rfl rfl (s_stores ty24 rfl rfl rfl rfl hH3 (Nat.le_of_eq (sts_mono hH3).symm)) ?_
    refine f_op rfl rfl (s_as (v := .int .i64 4) rfl) ?_
    refine f_nil ?_
    refine f_bind ?_; intro x4 hx4
    refine f_bind ?_; intro x5 hx5
    exact f_ret (.cells Try.underlying24 rfl sz24 rfl (lds_cons (ldI_eq hx4) (lds_cons (ldI_eq hx5) (lds_nil))) (.tmp rfl (.nil))) rfl
  · skip
    refine f_know 14 rfl (dec_false h2) ?_
    refine f_condF rfl ?_
    refine f_skip ?_
    refine f_seq ?_
    refine f_region ?_
    refine f_op rfl rfl (s_alloc (zs := [.int .i64 0, .int .i64 0]) ty24 rfl rfl) ?_
    refine o_hp ?_; intro H6 hH6
    refine f_nil ?_
    refine f_seq ?_
    refine f_seq ?_
    refine f_region ?_
    refine f_op rfl rfl (s_mv (v := .sl a0) rfl) ?_
    refine f_op rfl rfl (s_lenS rfl Try.underlying87 rfl) ?_
    refine f_op rfl rfl (s_mv (v := .int .i64 0) rfl) ?_
    refine f_nil ?_
    refine f_block ?_
    refine f_loop ?_
    refine f_keep [1, 2, 6, 8, 16, 17, 18] ?_
    exact s60_l0 FUEL a1 a2 H.n H1.n a0 (a0.len : Int) 0 H6

/- 61 congou/congouref02.Floor -/
theorem ok61 : FnOk Try.prog 61 := ⟨⟨Try.f61, Try.func61, by kernel_rfl, rfl⟩⟩
theorem sim61 {a0_0 : Int} {a0_1 : Int} {H : Hp} {p : Int × Hp} (h : r61 a0_0 a0_1 H = some p) : CallSim Try.prog 61 [.agg [.int .i64 a0_0, .int .i64 a0_1]] H (.int .i64 p.1) p.2 := by
  refine callSim (fn := Try.f61) (ret := ret61) Try.func61 rfl Try.ntmps61 rfl ?_ h
  unfold r61
  refine f_seq ?_
  refine f_region ?_
  refine f_op rfl rfl (s_box (v := .agg [.int .i64 a0_0, .int .i64 a0_1]) rfl rfl) ?_
  refine f_op rfl rfl (s_as (v := .int .i64 0) rfl) ?_
  refine o_hp ?_; intro H1 hH1
  refine f_nil ?_
  refine f_seq ?_
  refine f_region ?_
  refine f_op rfl rfl (s_fieldAddr Try.underlying24 rfl ty3 rfl) ?_
  refine o_bind ?_; intro x2 hx2
  refine f_op rfl rfl (s_load Try.underlying3 rfl rfl (ldI_eq hx2)) ?_
  refine f_op rfl rfl (s_fieldAddr Try.underlying24 rfl ty3 rfl) ?_
  refine o_bind ?_; intro x3 hx3
  refine f_op rfl rfl (s_load Try.underlying3 rfl rfl (ldI_eq hx3)) ?_
  refine o_ck fun g4 => ?_
  refine f_op rfl rfl (s_quo rfl rfl g4) ?_
  refine f_op rfl rfl (s_as (v := .int .i64 (w64 (Int.tdiv x2 x3))) rfl) ?_
  refine f_nil ?_
  refine f_seq ?_
  refine f_seq ?_
  refine f_region ?_
  refine f_op rfl rfl (s_mv (v := .int .i64 (w64 (Int.tdiv x2 x3))) rfl) ?_
  refine f_op rfl rfl (s_fieldAddr Try.underlying24 rfl ty3 rfl) ?_
  refine o_bind ?_; intro x5 hx5
  refine f_op rfl rfl (s_load Try.underlying3 rfl rfl (ldI_eq hx5)) ?_
  refine f_op rfl rfl (s_mul rfl rfl) ?_
  refine f_op rfl rfl (s_fieldAddr Try.underlying24 rfl ty3 rfl) ?_
  refine o_bind ?_; intro x6 hx6
  refine f_op rfl rfl (s_load Try.underlying3 rfl rfl (ldI_eq hx6)) ?_
  refine f_op rfl rfl (s_gtr rfl rfl) ?_
  refine f_nil ?_
  refine f_if (fun h7 => ?_) (fun h7 => ?_)
  · skip
    refine f_know 15 rfl (dec_true h7) ?_
    refine f_condT rfl ?_
    refine f_region ?_
    refine f_op rfl rfl (s_mv (v := .int .i64 (w64 (Int.tdiv x2 x3))) rfl) ?_
    refine f_op rfl rfl (s_sub rfl rfl) ?_
    refine f_op rfl rfl (s_as (v := .int .i64 (w64 ((w64 (Int.tdiv x2 x3)) - 1))) rfl) ?_
    refine f_nil ?_
    refine f_seq ?_
    refine f_region ?_
    refine f_op rfl rfl (s_mv (v := .int .i64 (w64 ((w64 (Int.tdiv x2 x3)) - 1))) rfl) ?_
    refine f_op rfl rfl (s_as (v := .int .i64 (w64 ((w64 (Int.tdiv x2 x3)) - 1))) rfl) ?_
    refine f_nil ?_
    exact f_ret (.tmp rfl (.nil)) rfl
  · skip
    refine f_know 15 rfl (dec_false h7) ?_
    refine f_condF rfl ?_
    refine f_skip ?_
    refine f_seq ?_
    refine f_region ?_
    refine f_op rfl rfl (s_mv (v := .int .i64 (w64 (Int.tdiv x2 x3))) rfl) ?_
    refine f_op rfl rfl (s_as (v := .int .i64 (w64 (Int.tdiv x2 x3))) rfl) ?_
    refine f_nil ?_
    exact f_ret (.tmp rfl (.nil)) rfl

/- 22 congou/congouref02.InRound -/
theorem ok22 : FnOk Try.prog 22 := ⟨⟨Try.f22, Try.func22, by kernel_rfl, rfl⟩⟩
theorem s22_l1 (kt0 : Nat → Sl → Int → Hp → Option (Bool × Hp)) (hkt0 : ∀ (v1 : Nat) (v2 : Sl) (v3 : Int) (H : Hp), Fin Try.prog Try.f22 ret22 59 (todoAt (bodyOf Try.f22) [1, 1, 0, 1, 0, 0] []) [(3, .ptr v1 0), (5, .sl v2), (6, .int .i64 v3)] H (kt0 v1 v2 v3 H)) : ∀ (k_ : Nat) (v1 : Nat) (v2 : Sl) (v3 : Int) (v4 : Int) (H : Hp), Fin Try.prog Try.f22 ret22 59 (todoAt (bodyOf Try.f22) [1, 1, 0, 1, 0, 0, 1, 0, 0, 1, 0, 0] []) [(3, .ptr v1 0), (5, .sl v2), (6, .int .i64 v3), (7, .int .i64 v4)] H (r22_l1 kt0 k_ v1 v2 v3 v4 H) := by
  intro k_
  induction k_ with
  | zero => intro _ _ _ _ _; exact f_none
  | succ k_ ih =>
    intro v1 v2 v3 v4 H
    rw [r22_l1]
    refine f_seq ?_
    refine f_seq ?_
    refine f_region ?_
    refine f_op rfl rfl (s_mv (v := .int .i64 v4) rfl) ?_
    refine f_op rfl rfl (s_leq rfl rfl) ?_
    refine f_nil ?_
    refine f_if (fun h1 => ?_) (fun h1 => ?_)
    · skip
      refine f_know 17 rfl (dec_true h1) ?_
      refine f_condT rfl ?_
      refine f_skip ?_
      refine f_seq ?_
      refine f_block ?_
      refine f_seq ?_
      refine f_region ?_
      refine f_op rfl rfl (s_mv (v := .sl v2) rfl) ?_
      refine f_op rfl rfl (s_mv (v := .int .i64 v3) rfl) ?_
      refine f_op rfl rfl (s_mv (v := .int .i64 v4) rfl) ?_
      refine o_bind ?_; intro p2 hp2
      refine f_op rfl rfl (s_callF rfl ok60 (sim60 hp2)) ?_
      refine f_op rfl rfl (s_mv (v := .tup [.agg [.int .i64 p2.1.1, .int .i64 p2.1.2.1], .int .i64 p2.1.2.2]) rfl) ?_
      refine f_op rfl rfl (s_extract (r := .agg [.int .i64 p2.1.1, .int .i64 p2.1.2.1]) rfl rfl) ?_
      refine f_op rfl rfl (s_extract (r := .int .i64 p2.1.2.2) rfl rfl) ?_
      refine f_op rfl rfl (s_alloc (zs := [.int .i64 0, .int .i64 0]) ty24 rfl rfl) ?_
      refine o_bind ?_; intro H3 hH3
      refine f_op rfl rfl (s_stores ty24 rfl rfl rfl rfl hH3 (Nat.le_of_eq (sts_mono hH3).symm)) ?_
      refine f_op rfl rfl (s_as (v := .int .i64 p2.1.2.2) rfl) ?_
      refine f_nil ?_
      refine f_seq ?_
      refine f_seq ?_
      refine f_region ?_
      refine f_op rfl rfl (s_mv (v := .int .i64 p2.1.2.2) rfl) ?_
      refine f_op rfl rfl (s_neq rfl rfl) ?_
      refine f_nil ?_
      refine f_if (fun h4 => ?_) (fun h4 => ?_)
      · skip
        refine f_know 28 rfl (dec_true h4) ?_
        refine f_condT rfl ?_
        refine f_seq ?_
        refine f_region ?_
        refine f_op rfl rfl (s_as (v := .bool false) rfl) ?_
        refine f_nil ?_
        exact f_ret (.tmp rfl (.nil)) rfl
      · skip
        refine f_know 28 rfl (dec_false h4) ?_
        refine f_condF rfl ?_
        refine f_skip ?_
        refine f_seq ?_
        refine f_bind ?_; intro x5 hx5
        refine f_bind ?_; intro x6 hx6
        refine f_bind ?_; intro x7 hx7
        refine f_bind ?_; intro x8 hx8
        refine f_bind ?_; intro x9 hx9
        refine f_bind ?_; intro x10 hx10
        refine f_bind ?_; intro p11 hp11
        refine f_bind ?_; intro x12 hx12
        refine f_bind ?_; intro x13 hx13
        refine f_draw (Φ := fun _ => True) (lim := 1000000) [0, 0, 0, 1, 0, 0, 0, 1, 0, 0, 0, 0, 1, 0, 0, 0, 1, 0, 0, 1, 0, 0, 0, 1, 0, 0, 0, 1, 0, 0] (Trc.pure rfl rfl rfl (.inl fun _ => s_mv (v := .int .i64 v3) rfl) (Trc.pure rfl rfl rfl (.inl fun _ => s_fieldAddr Try.underlying26 rfl ty24 rfl) (Trc.pure rfl rfl rfl (.inl fun _ => s_fieldAddr Try.underlying24 rfl ty3 rfl) (Trc.read rfl rfl rfl (s_load Try.underlying3 rfl rfl (ldI_eq hx5)) (Trc.pure rfl rfl rfl (.inl fun _ => s_mul rfl rfl) (Trc.pure rfl rfl rfl (.inl fun _ => s_fieldAddr Try.underlying26 rfl ty24 rfl) (Trc.pure rfl rfl rfl (.inl fun _ => s_fieldAddr Try.underlying24 rfl ty3 rfl) (Trc.read rfl rfl rfl (s_load Try.underlying3 rfl rfl (ldI_eq hx6)) (Trc.pure rfl rfl rfl (.inl fun _ => s_mul rfl rfl) (Trc.pure rfl rfl rfl (.inl fun _ => s_mv (v := .int .i64 v4) rfl) (Trc.pure rfl rfl rfl (.inl fun _ => s_fieldAddr Try.underlying26 rfl ty24 rfl) (Trc.pure rfl rfl rfl (.inl fun _ => s_fieldAddr Try.underlying24 rfl ty3 rfl) (Trc.read rfl rfl rfl (s_load Try.underlying3 rfl rfl (ldI_eq hx7)) (Trc.pure rfl rfl rfl (.inl fun _ => s_mul rfl rfl) (Trc.pure rfl rfl rfl (.inl fun _ => s_fieldAddr Try.underlying26 rfl ty24 rfl) (Trc.pure rfl rfl rfl (.inl fun _ => s_fieldAddr Try.underlying24 rfl ty3 rfl) (Trc.read rfl rfl rfl (s_load Try.underlying3 rfl rfl (ldI_eq hx8)) (Trc.pure rfl rfl rfl (.inl fun _ => s_mul rfl rfl) (Trc.pure rfl rfl rfl (.inl fun _ => s_add rfl rfl) (Trc.read rfl rfl rfl (s_loads Try.underlying24 rfl ty24 rfl (lds_cons (ldI_eq hx9) (lds_cons (ldI_eq hx10) (lds_nil)))) (Trc.pure rfl rfl rfl (.inl fun _ => s_callO rfl ok61 (sim61 hp11) rfl rfl) (Trc.pure rfl rfl rfl (.inl fun _ => s_fieldAddr Try.underlying26 rfl ty24 rfl) (Trc.pure rfl rfl rfl (.inl fun _ => s_fieldAddr Try.underlying24 rfl ty3 rfl) (Trc.read rfl rfl rfl (s_load Try.underlying3 rfl rfl (ldI_eq hx12)) (Trc.pure rfl rfl rfl (.inl fun _ => s_mul rfl rfl) (Trc.pure rfl rfl rfl (.inl fun _ => s_fieldAddr Try.underlying26 rfl ty24 rfl) (Trc.pure rfl rfl rfl (.inl fun _ => s_fieldAddr Try.underlying24 rfl ty3 rfl) (Trc.read rfl rfl rfl (s_load Try.underlying3 rfl rfl (ldI_eq hx13)) (Trc.pure rfl rfl rfl (.inl fun _ => s_mul rfl rfl) (Trc.pure rfl rfl rfl (.inl fun _ => s_gtr rfl rfl) (Trc.nil (fun _ => trivial)))))))))))))))))))))))))))))))) rfl (by decide +kernel) mixed ?_
        refine f_if (fun h14 => ?_) (fun h14 => ?_)
        · skip
          refine f_know 58 rfl (dec_true h14) ?_
          refine f_condT rfl ?_
          refine f_seq ?_
          refine f_region ?_
          refine f_op rfl rfl (s_as (v := .bool false) rfl) ?_
          refine f_nil ?_
          exact f_ret (.tmp rfl (.nil)) rfl
        · skip
          refine f_know 58 rfl (dec_false h14) ?_
          refine f_condF rfl ?_
          refine f_skip ?_
          refine f_inBlock ?_
          refine f_region ?_
          refine f_op rfl rfl (s_mv (v := .int .i64 v4) rfl) ?_
          refine f_op rfl rfl (s_add rfl rfl) ?_
          refine f_op rfl rfl (s_as (v := .int .i64 (w64 (v4 + 1))) rfl) ?_
          refine f_nil ?_
          refine f_inLoop ?_
          refine f_keep [3, 5, 6, 7] ?_
          exact ih v1 v2 v3 (w64 (v4 + 1)) H3
    · skip
      refine f_know 17 rfl (dec_false h1) ?_
      refine f_condF rfl ?_
      refine f_exit rfl ?_
      refine f_inBlock ?_
      refine f_region ?_
      refine f_op rfl rfl (s_mv (v := .int .i64 v3) rfl) ?_
      refine f_op rfl rfl (s_add rfl rfl) ?_
      refine f_op rfl rfl (s_as (v := .int .i64 (w64 (v3 + 1))) rfl) ?_
      refine f_nil ?_
      refine f_inLoop ?_
      refine f_keep [3, 5, 6] ?_
      exact hkt0 v1 v2 (w64 (v3 + 1)) H

theorem s22_l0 : ∀ (k_ : Nat) (v1 : Nat) (v2 : Sl) (v3 : Int) (H : Hp), Fin Try.prog Try.f22 ret22 59 (todoAt (bodyOf Try.f22) [1, 1, 0, 1, 0, 0] []) [(3, .ptr v1 0), (5, .sl v2), (6, .int .i64 v3)] H (r22_l0 k_ v1 v2 v3 H) := by
  intro k_
  induction k_ with
  | zero => intro _ _ _ _; exact f_none
  | succ k_ ih =>
    intro v1 v2 v3 H
    rw [r22_l0]
    refine f_seq ?_
    refine f_seq ?_
    refine f_region ?_
    refine f_op rfl rfl (s_mv (v := .int .i64 v3) rfl) ?_
    refine f_op rfl rfl (s_leq rfl rfl) ?_
    refine f_nil ?_
    refine f_if (fun h1 => ?_) (fun h1 => ?_)
    · skip
      refine f_know 13 rfl (dec_true h1) ?_
      refine f_condT rfl ?_
      refine f_skip ?_
      refine f_seq ?_
      refine f_block ?_
      refine f_seq ?_
      refine f_region ?_
      refine f_op rfl rfl (s_as (v := .int .i64 (-24)) rfl) ?_
      refine f_nil ?_
      refine f_block ?_
      refine f_loop ?_
      refine f_keep [3, 5, 6, 7] ?_
      exact s22_l1 _ (fun v1_ v2_ v3_ H_ => ih v1_ v2_ v3_ H_) FUEL v1 v2 v3 (-24) H
    · skip
      refine f_know 13 rfl (dec_false h1) ?_
      refine f_condF rfl ?_
      refine f_exit rfl ?_
      refine f_seq ?_
      refine f_region ?_
      refine f_op rfl rfl (s_as (v := .bool true) rfl) ?_
      refine f_nil ?_
      exact f_ret (.tmp rfl (.nil)) rfl

theorem sim22 {a0 : Sl} {a1_0 : Int} {a1_1 : Int} {a1_2 : Int} {a1_3 : Int} {H : Hp} {p : Bool × Hp} (h : r22 a0 a1_0 a1_1 a1_2 a1_3 H = some p) : CallSim Try.prog 22 [.sl a0, .agg [.int .i64 a1_0, .int .i64 a1_1, .int .i64 a1_2, .int .i64 a1_3]] H (.bool p.1) p.2 := by
  refine callSim (fn := Try.f22) (ret := ret22) Try.func22 rfl Try.ntmps22 rfl ?_ h
  unfold r22
  refine f_seq ?_
  refine f_region ?_
  refine f_op rfl rfl (s_box (v := .agg [.int .i64 a1_0, .int .i64 a1_1, .int .i64 a1_2, .int .i64 a1_3]) rfl rfl) ?_
  refine f_op rfl rfl (s_as (v := .bool false) rfl) ?_
  refine o_hp ?_; intro H1 hH1
  refine f_nil ?_
  refine f_seq ?_
  refine f_region ?_
  refine f_op rfl rfl (s_mv (v := .sl a0) rfl) ?_
  refine o_bind ?_; intro p2 hp2
  refine f_op rfl rfl (s_callF rfl ok54 (sim54 hp2)) ?_
  refine f_op rfl rfl (s_as (v := .sl p2.1) rfl) ?_
  refine f_nil ?_
  refine f_seq ?_
  refine f_seq ?_
  refine f_region ?_
  refine f_op rfl rfl (s_as (v := .int .i64 (-24)) rfl) ?_
  refine f_nil ?_
  refine f_block ?_
  refine f_loop ?_
  refine f_keep [3, 5, 6] ?_
  exact s22_l0 FUEL H.n p2.1 (-24) p2.2

end Go.Lt.P2
