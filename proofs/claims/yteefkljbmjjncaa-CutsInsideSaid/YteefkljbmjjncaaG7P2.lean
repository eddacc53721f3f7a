/- PRINTED BY A PROGRAM OF OURS: what each function that 'CutsInside' reaches computes on the abstract heap, and that the translated code does just that. Nothing is asked of the input. -/
import Derived.Test.YteefkljbmjjncaaG7P1
set_option linter.unusedVariables false
set_option linter.unusedSimpArgs false
set_option maxRecDepth 100000
set_option maxHeartbeats 4000000
namespace Go.Lt.P2
open Go Go.Lt Go.Proofs
/- 20 congou/congouref02.IsPoint -/
theorem ok20 : FnOk Try.prog 20 := ⟨⟨Try.f20, Try.func20, by kernel_rfl, rfl⟩⟩
theorem s20_j1 (kt0 : Sl → Int → Int → Hp → Option (Bool × Hp)) (hkt0 : ∀ (v1 : Sl) (v2 : Int) (v3 : Int) (H : Hp), Fin Try.prog Try.f20 ret20 49 (todoAt (bodyOf Try.f20) [1, 0, 1, 0, 0] []) [(9, .sl v1), (10, .int .i64 v2), (11, .int .i64 v3)] H (kt0 v1 v2 v3 H)) (v1 : Sl) (v2 : Int) (v3 : Int) (v4 : Bool) (H : Hp) : Fin Try.prog Try.f20 ret20 49 (todoAt (bodyOf Try.f20) [1, 0, 1, 0, 0, 1, 1, 0, 0, 1, 1] []) [(9, .sl v1), (10, .int .i64 v2), (11, .int .i64 v3), (47, .bool v4)] H (r20_j1 kt0 v1 v2 v3 v4 H) := by
  unfold r20_j1
  refine f_if (fun h1 => ?_) (fun h1 => ?_)
  · skip
    refine f_know 47 rfl (bool_T h1) ?_
    refine f_condT rfl ?_
    refine f_seq ?_
    refine f_region ?_
    refine f_op rfl rfl (s_as (v := .bool false) rfl) ?_
    refine f_nil ?_
    exact f_ret (.tmp rfl (.nil)) rfl
  · skip
    refine f_know 47 rfl (bool_F h1) ?_
    refine f_condF rfl ?_
    refine f_skip ?_
    refine f_inBlock ?_
    refine f_region ?_
    refine f_op rfl rfl (s_add rfl rfl) ?_
    refine f_op rfl rfl (s_mv (v := .int .i64 (w64 (v3 + 1))) rfl) ?_
    refine f_nil ?_
    refine f_inLoop ?_
    refine f_keep [9, 10, 11] ?_
    exact hkt0 v1 v2 (w64 (v3 + 1)) H

theorem s20_l0 : ∀ (k_ : Nat) (v1 : Sl) (v2 : Int) (v3 : Int) (H : Hp), Fin Try.prog Try.f20 ret20 49 (todoAt (bodyOf Try.f20) [1, 0, 1, 0, 0] []) [(9, .sl v1), (10, .int .i64 v2), (11, .int .i64 v3)] H (r20_l0 k_ v1 v2 v3 H) := by
  intro k_
  induction k_ with
  | zero => intro _ _ _ _; exact f_none
  | succ k_ ih =>
    intro v1 v2 v3 H
    rw [r20_l0]
    refine f_seq ?_
    refine f_region ?_
    refine f_op rfl rfl (s_lss rfl rfl) ?_
    refine f_nil ?_
    refine f_seq ?_
    refine f_if (fun h1 => ?_) (fun h1 => ?_)
    · skip
      refine f_know 12 rfl (dec_true h1) ?_
      refine f_condT rfl ?_
      refine f_skip ?_
      refine f_seq ?_
      refine f_block ?_
      refine f_seq ?_
      refine f_region ?_
      refine o_ck fun g2 => ?_
      refine f_op rfl rfl (s_idx Try.underlying44 ty24 rfl rfl g2) ?_
      refine o_bind ?_; intro x3 hx3
      refine o_bind ?_; intro x4 hx4
      refine f_op rfl rfl (s_loads Try.underlying24 rfl ty24 rfl (lds_cons (ldI_eq hx3) (lds_cons (ldI_eq hx4) (lds_nil)))) ?_
      refine f_op rfl rfl (s_alloc (zs := [.int .i64 0, .int .i64 0]) ty24 rfl rfl) ?_
      refine o_bind ?_; intro H5 hH5
      refine f_op rfl rfl (s_stores ty24 rfl rfl rfl rfl hH5 (Nat.le_of_eq (sts_mono hH5).symm)) ?_
      refine f_nil ?_
      refine f_seq ?_
      refine f_bind ?_; intro x6 hx6
      refine f_if (fun h7 => ?_) (fun h7 => ?_)
      · skip
        refine f_draw (Φ := fun _ => True) (lim := 1000000) [0, 1, 0, 0, 0, 0, 0, 0, 0, 0, 0, 0, 0, 0, 0, 0, 0, 0, 0, 0, 0, 0, 0, 0, 0, 0, 0, 0, 0, 0, 0, 0, 0] (Trc.pure rfl rfl rfl (.inl fun _ => s_fieldAddr Try.underlying24 rfl ty3 rfl) (Trc.read rfl rfl rfl (s_load Try.underlying3 rfl rfl (ldI_eq hx6)) (Trc.pure rfl rfl rfl (.inl fun _ => s_lss rfl rfl) (Trc.pure rfl rfl rfl (.inl fun _ => s_mv (v := .bool (decide (x6 < 1))) rfl) (Trc.know 18 rfl (dec_true h7) (Trc.no rfl rfl rfl (Trc.no rfl rfl rfl (Trc.no rfl rfl rfl (Trc.pure rfl rfl rfl (.inl fun _ => s_pickT (v := .bool true) rfl rfl) (Trc.pure rfl rfl rfl (.inl fun _ => s_mv (v := .bool true) rfl) (Trc.no rfl rfl rfl (Trc.no rfl rfl rfl (Trc.no rfl rfl rfl (Trc.no rfl rfl rfl (Trc.no rfl rfl rfl (Trc.no rfl rfl rfl (Trc.pure rfl rfl rfl (.inl fun _ => s_pickT (v := .bool true) rfl rfl) (Trc.pure rfl rfl rfl (.inl fun _ => s_mv (v := .bool true) rfl) (Trc.no rfl rfl rfl (Trc.no rfl rfl rfl (Trc.no rfl rfl rfl (Trc.no rfl rfl rfl (Trc.no rfl rfl rfl (Trc.no rfl rfl rfl (Trc.pure rfl rfl rfl (.inl fun _ => s_pickT (v := .bool true) rfl rfl) (Trc.pure rfl rfl rfl (.inl fun _ => s_mv (v := .bool true) rfl) (Trc.no rfl rfl rfl (Trc.no rfl rfl rfl (Trc.no rfl rfl rfl (Trc.no rfl rfl rfl (Trc.no rfl rfl rfl (Trc.no rfl rfl rfl (Trc.no rfl rfl rfl (Trc.pure rfl rfl rfl (.inl fun _ => s_pickT (v := .bool true) rfl rfl) (Trc.nil (fun _ => trivial)))))))))))))))))))))))))))))))))))) rfl (by decide +kernel) mixed ?_
        refine f_keep [9, 10, 11, 47] ?_
        exact s20_j1 _ (fun v1_ v2_ v3_ H_ => ih v1_ v2_ v3_ H_) v1 v2 v3 true H5
      · skip
        refine f_bind ?_; intro x8 hx8
        refine f_if (fun h9 => ?_) (fun h9 => ?_)
        · skip
          refine f_draw (Φ := fun _ => True) (lim := 1000000) [0, 1, 0, 0, 0, 1, 0, 0, 0, 0, 0, 0, 0, 0, 0, 0, 0, 0, 0, 0, 0, 0, 0, 0, 0, 0, 0, 0, 0, 0, 0, 0, 0] (Trc.pure rfl rfl rfl (.inl fun _ => s_fieldAddr Try.underlying24 rfl ty3 rfl) (Trc.read rfl rfl rfl (s_load Try.underlying3 rfl rfl (ldI_eq hx6)) (Trc.pure rfl rfl rfl (.inl fun _ => s_lss rfl rfl) (Trc.pure rfl rfl rfl (.inl fun _ => s_mv (v := .bool (decide (x6 < 1))) rfl) (Trc.know 18 rfl (dec_false h7) (Trc.pure rfl rfl rfl (.inl fun _ => s_fieldAddr Try.underlying24 rfl ty3 rfl) (Trc.read rfl rfl rfl (s_load Try.underlying3 rfl rfl (ldI_eq hx8)) (Trc.pure rfl rfl rfl (.inl fun _ => s_gtr rfl rfl) (Trc.pure rfl rfl rfl (.inl fun _ => s_pickF (v := .bool (decide (100 < x8))) rfl rfl) (Trc.pure rfl rfl rfl (.inl fun _ => s_mv (v := .bool (decide (100 < x8))) rfl) (Trc.know 23 rfl (dec_true h9) (Trc.no rfl rfl rfl (Trc.no rfl rfl rfl (Trc.no rfl rfl rfl (Trc.no rfl rfl rfl (Trc.no rfl rfl rfl (Trc.no rfl rfl rfl (Trc.pure rfl rfl rfl (.inl fun _ => s_pickT (v := .bool true) rfl rfl) (Trc.pure rfl rfl rfl (.inl fun _ => s_mv (v := .bool true) rfl) (Trc.no rfl rfl rfl (Trc.no rfl rfl rfl (Trc.no rfl rfl rfl (Trc.no rfl rfl rfl (Trc.no rfl rfl rfl (Trc.no rfl rfl rfl (Trc.pure rfl rfl rfl (.inl fun _ => s_pickT (v := .bool true) rfl rfl) (Trc.pure rfl rfl rfl (.inl fun _ => s_mv (v := .bool true) rfl) (Trc.no rfl rfl rfl (Trc.no rfl rfl rfl (Trc.no rfl rfl rfl (Trc.no rfl rfl rfl (Trc.no rfl rfl rfl (Trc.no rfl rfl rfl (Trc.no rfl rfl rfl (Trc.pure rfl rfl rfl (.inl fun _ => s_pickT (v := .bool true) rfl rfl) (Trc.nil (fun _ => trivial))))))))))))))))))))))))))))))))))))) rfl (by decide +kernel) mixed ?_
          refine f_keep [9, 10, 11, 47] ?_
          exact s20_j1 _ (fun v1_ v2_ v3_ H_ => ih v1_ v2_ v3_ H_) v1 v2 v3 true H5
        · skip
          refine f_bind ?_; intro x10 hx10
          refine f_bind ?_; intro x11 hx11
          refine f_if (fun h12 => ?_) (fun h12 => ?_)
          · skip
            refine f_draw (Φ := fun _ => True) (lim := 1000000) [0, 1, 0, 0, 0, 1, 0, 0, 0, 0, 1, 0, 1, 0, 0, 0, 0, 0, 0, 0, 0, 0, 0, 0, 0, 0, 0, 0, 0, 0, 0, 0, 0] (Trc.pure rfl rfl rfl (.inl fun _ => s_fieldAddr Try.underlying24 rfl ty3 rfl) (Trc.read rfl rfl rfl (s_load Try.underlying3 rfl rfl (ldI_eq hx6)) (Trc.pure rfl rfl rfl (.inl fun _ => s_lss rfl rfl) (Trc.pure rfl rfl rfl (.inl fun _ => s_mv (v := .bool (decide (x6 < 1))) rfl) (Trc.know 18 rfl (dec_false h7) (Trc.pure rfl rfl rfl (.inl fun _ => s_fieldAddr Try.underlying24 rfl ty3 rfl) (Trc.read rfl rfl rfl (s_load Try.underlying3 rfl rfl (ldI_eq hx8)) (Trc.pure rfl rfl rfl (.inl fun _ => s_gtr rfl rfl) (Trc.pure rfl rfl rfl (.inl fun _ => s_pickF (v := .bool (decide (100 < x8))) rfl rfl) (Trc.pure rfl rfl rfl (.inl fun _ => s_mv (v := .bool (decide (100 < x8))) rfl) (Trc.know 23 rfl (dec_false h9) (Trc.pure rfl rfl rfl (.inl fun _ => s_fieldAddr Try.underlying24 rfl ty3 rfl) (Trc.read rfl rfl rfl (s_load Try.underlying3 rfl rfl (ldI_eq hx10)) (Trc.pure rfl rfl rfl (.inl fun _ => s_fieldAddr Try.underlying24 rfl ty3 rfl) (Trc.read rfl rfl rfl (s_load Try.underlying3 rfl rfl (ldI_eq hx11)) (Trc.pure rfl rfl rfl (.inl fun _ => s_mul rfl rfl) (Trc.pure rfl rfl rfl (.inl fun _ => s_lss rfl rfl) (Trc.pure rfl rfl rfl (.inl fun _ => s_pickF (v := .bool (decide (x10 < (w64 ((-100) * x11))))) rfl rfl) (Trc.pure rfl rfl rfl (.inl fun _ => s_mv (v := .bool (decide (x10 < (w64 ((-100) * x11))))) rfl) (Trc.know 31 rfl (dec_true h12) (Trc.no rfl rfl rfl (Trc.no rfl rfl rfl (Trc.no rfl rfl rfl (Trc.no rfl rfl rfl (Trc.no rfl rfl rfl (Trc.no rfl rfl rfl (Trc.pure rfl rfl rfl (.inl fun _ => s_pickT (v := .bool true) rfl rfl) (Trc.pure rfl rfl rfl (.inl fun _ => s_mv (v := .bool true) rfl) (Trc.no rfl rfl rfl (Trc.no rfl rfl rfl (Trc.no rfl rfl rfl (Trc.no rfl rfl rfl (Trc.no rfl rfl rfl (Trc.no rfl rfl rfl (Trc.no rfl rfl rfl (Trc.pure rfl rfl rfl (.inl fun _ => s_pickT (v := .bool true) rfl rfl) (Trc.nil (fun _ => trivial)))))))))))))))))))))))))))))))))))))) rfl (by decide +kernel) mixed ?_
            refine f_keep [9, 10, 11, 47] ?_
            exact s20_j1 _ (fun v1_ v2_ v3_ H_ => ih v1_ v2_ v3_ H_) v1 v2 v3 true H5
          · skip
            refine f_bind ?_; intro x13 hx13
            refine f_bind ?_; intro x14 hx14
            refine f_if (fun h15 => ?_) (fun h15 => ?_)
            · skip
              refine f_draw (Φ := fun _ => True) (lim := 1000000) [0, 1, 0, 0, 0, 1, 0, 0, 0, 0, 1, 0, 1, 0, 0, 0, 0, 0, 1, 0, 1, 0, 0, 0, 0, 0, 0, 0, 0, 0, 0, 0, 0] (Trc.pure rfl rfl rfl (.inl fun _ => s_fieldAddr Try.underlying24 rfl ty3 rfl) (Trc.read rfl rfl rfl (s_load Try.underlying3 rfl rfl (ldI_eq hx6)) (Trc.pure rfl rfl rfl (.inl fun _ => s_lss rfl rfl) (Trc.pure rfl rfl rfl (.inl fun _ => s_mv (v := .bool (decide (x6 < 1))) rfl) (Trc.know 18 rfl (dec_false h7) (Trc.pure rfl rfl rfl (.inl fun _ => s_fieldAddr Try.underlying24 rfl ty3 rfl) (Trc.read rfl rfl rfl (s_load Try.underlying3 rfl rfl (ldI_eq hx8)) (Trc.pure rfl rfl rfl (.inl fun _ => s_gtr rfl rfl) (Trc.pure rfl rfl rfl (.inl fun _ => s_pickF (v := .bool (decide (100 < x8))) rfl rfl) (Trc.pure rfl rfl rfl (.inl fun _ => s_mv (v := .bool (decide (100 < x8))) rfl) (Trc.know 23 rfl (dec_false h9) (Trc.pure rfl rfl rfl (.inl fun _ => s_fieldAddr Try.underlying24 rfl ty3 rfl) (Trc.read rfl rfl rfl (s_load Try.underlying3 rfl rfl (ldI_eq hx10)) (Trc.pure rfl rfl rfl (.inl fun _ => s_fieldAddr Try.underlying24 rfl ty3 rfl) (Trc.read rfl rfl rfl (s_load Try.underlying3 rfl rfl (ldI_eq hx11)) (Trc.pure rfl rfl rfl (.inl fun _ => s_mul rfl rfl) (Trc.pure rfl rfl rfl (.inl fun _ => s_lss rfl rfl) (Trc.pure rfl rfl rfl (.inl fun _ => s_pickF (v := .bool (decide (x10 < (w64 ((-100) * x11))))) rfl rfl) (Trc.pure rfl rfl rfl (.inl fun _ => s_mv (v := .bool (decide (x10 < (w64 ((-100) * x11))))) rfl) (Trc.know 31 rfl (dec_false h12) (Trc.pure rfl rfl rfl (.inl fun _ => s_fieldAddr Try.underlying24 rfl ty3 rfl) (Trc.read rfl rfl rfl (s_load Try.underlying3 rfl rfl (ldI_eq hx13)) (Trc.pure rfl rfl rfl (.inl fun _ => s_fieldAddr Try.underlying24 rfl ty3 rfl) (Trc.read rfl rfl rfl (s_load Try.underlying3 rfl rfl (ldI_eq hx14)) (Trc.pure rfl rfl rfl (.inl fun _ => s_mul rfl rfl) (Trc.pure rfl rfl rfl (.inl fun _ => s_gtr rfl rfl) (Trc.pure rfl rfl rfl (.inl fun _ => s_pickF (v := .bool (decide ((w64 (100 * x14)) < x13))) rfl rfl) (Trc.pure rfl rfl rfl (.inl fun _ => s_mv (v := .bool (decide ((w64 (100 * x14)) < x13))) rfl) (Trc.know 39 rfl (dec_true h15) (Trc.no rfl rfl rfl (Trc.no rfl rfl rfl (Trc.no rfl rfl rfl (Trc.no rfl rfl rfl (Trc.no rfl rfl rfl (Trc.no rfl rfl rfl (Trc.no rfl rfl rfl (Trc.pure rfl rfl rfl (.inl fun _ => s_pickT (v := .bool true) rfl rfl) (Trc.nil (fun _ => trivial))))))))))))))))))))))))))))))))))))))) rfl (by decide +kernel) mixed ?_
              refine f_keep [9, 10, 11, 47] ?_
              exact s20_j1 _ (fun v1_ v2_ v3_ H_ => ih v1_ v2_ v3_ H_) v1 v2 v3 true H5
            · skip
              refine f_bind ?_; intro x16 hx16
              refine f_bind ?_; intro x17 hx17
              refine f_bind ?_; intro p18 hp18
              refine f_bind ?_; intro x19 hx19
              refine f_bind ?_; intro x20 hx20
              refine f_draw (Φ := fun _ => True) (lim := 1000000) [0, 1, 0, 0, 0, 1, 0, 0, 0, 0, 1, 0, 1, 0, 0, 0, 0, 0, 1, 0, 1, 0, 0, 0, 0, 0, 1, 0, 1, 0, 1, 0, 0] (Trc.pure rfl rfl rfl (.inl fun _ => s_fieldAddr Try.underlying24 rfl ty3 rfl) (Trc.read rfl rfl rfl (s_load Try.underlying3 rfl rfl (ldI_eq hx6)) (Trc.pure rfl rfl rfl (.inl fun _ => s_lss rfl rfl) (Trc.pure rfl rfl rfl (.inl fun _ => s_mv (v := .bool (decide (x6 < 1))) rfl) (Trc.know 18 rfl (dec_false h7) (Trc.pure rfl rfl rfl (.inl fun _ => s_fieldAddr Try.underlying24 rfl ty3 rfl) (Trc.read rfl rfl rfl (s_load Try.underlying3 rfl rfl (ldI_eq hx8)) (Trc.pure rfl rfl rfl (.inl fun _ => s_gtr rfl rfl) (Trc.pure rfl rfl rfl (.inl fun _ => s_pickF (v := .bool (decide (100 < x8))) rfl rfl) (Trc.pure rfl rfl rfl (.inl fun _ => s_mv (v := .bool (decide (100 < x8))) rfl) (Trc.know 23 rfl (dec_false h9) (Trc.pure rfl rfl rfl (.inl fun _ => s_fieldAddr Try.underlying24 rfl ty3 rfl) (Trc.read rfl rfl rfl (s_load Try.underlying3 rfl rfl (ldI_eq hx10)) (Trc.pure rfl rfl rfl (.inl fun _ => s_fieldAddr Try.underlying24 rfl ty3 rfl) (Trc.read rfl rfl rfl (s_load Try.underlying3 rfl rfl (ldI_eq hx11)) (Trc.pure rfl rfl rfl (.inl fun _ => s_mul rfl rfl) (Trc.pure rfl rfl rfl (.inl fun _ => s_lss rfl rfl) (Trc.pure rfl rfl rfl (.inl fun _ => s_pickF (v := .bool (decide (x10 < (w64 ((-100) * x11))))) rfl rfl) (Trc.pure rfl rfl rfl (.inl fun _ => s_mv (v := .bool (decide (x10 < (w64 ((-100) * x11))))) rfl) (Trc.know 31 rfl (dec_false h12) (Trc.pure rfl rfl rfl (.inl fun _ => s_fieldAddr Try.underlying24 rfl ty3 rfl) (Trc.read rfl rfl rfl (s_load Try.underlying3 rfl rfl (ldI_eq hx13)) (Trc.pure rfl rfl rfl (.inl fun _ => s_fieldAddr Try.underlying24 rfl ty3 rfl) (Trc.read rfl rfl rfl (s_load Try.underlying3 rfl rfl (ldI_eq hx14)) (Trc.pure rfl rfl rfl (.inl fun _ => s_mul rfl rfl) (Trc.pure rfl rfl rfl (.inl fun _ => s_gtr rfl rfl) (Trc.pure rfl rfl rfl (.inl fun _ => s_pickF (v := .bool (decide ((w64 (100 * x14)) < x13))) rfl rfl) (Trc.pure rfl rfl rfl (.inl fun _ => s_mv (v := .bool (decide ((w64 (100 * x14)) < x13))) rfl) (Trc.know 39 rfl (dec_false h15) (Trc.pure rfl rfl rfl (.inl fun _ => s_fieldAddr Try.underlying24 rfl ty3 rfl) (Trc.read rfl rfl rfl (s_load Try.underlying3 rfl rfl (ldI_eq hx16)) (Trc.pure rfl rfl rfl (.inl fun _ => s_fieldAddr Try.underlying24 rfl ty3 rfl) (Trc.read rfl rfl rfl (s_load Try.underlying3 rfl rfl (ldI_eq hx17)) (Trc.pure rfl rfl rfl (.inl fun _ => s_callO rfl ok56 (sim56 hp18) rfl rfl) (Trc.read rfl rfl rfl (s_loads Try.underlying24 rfl ty24 rfl (lds_cons (ldI_eq hx19) (lds_cons (ldI_eq hx20) (lds_nil)))) (Trc.pure rfl rfl rfl (.inl fun _ => s_neAgg eg24 rfl rfl (eq2 Try.underlying24 Try.underlying3 Try.underlying3 (by decide) (by decide) rfl rfl sih24 p18.1.1 p18.1.2 x19 x20)) (Trc.pure rfl rfl rfl (.inl fun _ => s_pickF (v := .bool (!((p18.1.1 == x19) && (p18.1.2 == x20)))) rfl rfl) (Trc.nil (fun _ => trivial))))))))))))))))))))))))))))))))))))))) rfl (by decide +kernel) mixed ?_
              refine f_keep [9, 10, 11, 47] ?_
              exact s20_j1 _ (fun v1_ v2_ v3_ H_ => ih v1_ v2_ v3_ H_) v1 v2 v3 (!((p18.1.1 == x19) && (p18.1.2 == x20))) H5
    · skip
      refine f_know 12 rfl (dec_false h1) ?_
      refine f_condF rfl ?_
      refine f_exit rfl ?_
      refine f_seq ?_
      refine f_region ?_
      refine f_op rfl rfl (s_as (v := .bool true) rfl) ?_
      refine f_nil ?_
      exact f_ret (.tmp rfl (.nil)) rfl

theorem sim20 {a0_0 : Int} {a0_1 : Int} {a0_2 : Int} {a0_3 : Int} {H : Hp} {p : Bool × Hp} (h : r20 a0_0 a0_1 a0_2 a0_3 H = some p) : CallSim Try.prog 20 [.agg [.int .i64 a0_0, .int .i64 a0_1, .int .i64 a0_2, .int .i64 a0_3]] H (.bool p.1) p.2 := by
  refine callSim (fn := Try.f20) (ret := ret20) Try.func20 rfl Try.ntmps20 rfl ?_ h
  unfold r20
  refine f_seq ?_
  refine f_region ?_
  refine f_op rfl rfl (s_box (v := .agg [.int .i64 a0_0, .int .i64 a0_1, .int .i64 a0_2, .int .i64 a0_3]) rfl rfl) ?_
  refine f_op rfl rfl (s_as (v := .bool false) rfl) ?_
  refine o_hp ?_; intro H1 hH1
  refine f_nil ?_
  refine f_seq ?_
  refine f_seq ?_
  refine f_region ?_
  refine f_op rfl rfl (s_fieldAddr Try.underlying26 rfl ty24 rfl) ?_
  refine o_bind ?_; intro x2 hx2
  refine o_bind ?_; intro x3 hx3
  refine f_op rfl rfl (s_loads Try.underlying24 rfl ty24 rfl (lds_cons (ldI_eq hx2) (lds_cons (ldI_eq hx3) (lds_nil)))) ?_
  refine f_op rfl rfl (s_fieldAddr Try.underlying26 rfl ty24 rfl) ?_
  refine o_bind ?_; intro x4 hx4
  refine o_bind ?_; intro x5 hx5
  refine f_op rfl rfl (s_loads Try.underlying24 rfl ty24 rfl (lds_cons (ldI_eq hx4) (lds_cons (ldI_eq hx5) (lds_nil)))) ?_
  refine f_op rfl rfl (s_buildSlice (cs := [.int .i64 x2, .int .i64 x3, .int .i64 x4, .int .i64 x5]) Try.underlying44 ty24 (by decide) (by decide) rfl (by decide) rfl) ?_
  refine f_op rfl rfl (s_lenS rfl Try.underlying44 rfl) ?_
  refine f_op rfl rfl (s_mv (v := .int .i64 0) rfl) ?_
  refine o_hp ?_; intro H6 hH6
  refine f_nil ?_
  refine f_block ?_
  refine f_loop ?_
  refine f_keep [9, 10, 11] ?_
  exact s20_l0 FUEL ⟨false, H1.n, 0, 2, 2, 0⟩ ((⟨false, H1.n, 0, 2, 2, 0⟩ : Sl).len : Int) 0 H6

/- 80 congou/cuts.whole -/
theorem ok80 : FnOk Try.prog 80 := ⟨⟨Try.f80, Try.func80, by kernel_rfl, rfl⟩⟩
theorem sim80 {a0 : Int} {a1 : Int} {H : Hp} {p : (Int × Int × Int × Int) × Hp} (h : r80 a0 a1 H = some p) : CallSim Try.prog 80 [.int .i64 a0, .int .i64 a1] H (.agg [.int .i64 p.1.1, .int .i64 p.1.2.1, .int .i64 p.1.2.2.1, .int .i64 p.1.2.2.2]) p.2 := by
  refine callSim (fn := Try.f80) (ret := ret80) Try.func80 rfl Try.ntmps80 rfl ?_ h
  unfold r80
  refine f_seq ?_
  refine f_region ?_
  refine f_op rfl rfl (s_alloc (zs := [.int .i64 0, .int .i64 0, .int .i64 0, .int .i64 0]) ty32 rfl rfl) ?_
  refine o_hp ?_; intro H1 hH1
  refine f_nil ?_
  refine f_seq ?_
  refine f_region ?_
  refine f_op rfl rfl (s_mv (v := .int .i64 a0) rfl) ?_
  refine o_bind ?_; intro p2 hp2
  refine f_op rfl rfl (s_callO rfl ok100 (sim100 hp2) rfl rfl) ?_
  refine f_op rfl rfl (s_mv (v := .int .i64 a1) rfl) ?_
  refine o_bind ?_; intro p3 hp3
  refine f_op rfl rfl (s_callO rfl ok100 (sim100 hp3) rfl rfl) ?_
  refine f_op rfl rfl (s_build (cs := [.int .i64 p2.1.1, .int .i64 p2.1.2, .int .i64 p3.1.1, .int .i64 p3.1.2]) Try.underlying32 ty32 rfl pl32 rfl) ?_
  refine o_bind ?_; intro H4 hH4
  refine f_op rfl rfl (s_stores ty32 rfl rfl rfl rfl hH4 (Nat.le_of_eq (sts_mono hH4).symm)) ?_
  refine f_nil ?_
  refine f_bind ?_; intro x5 hx5
  refine f_bind ?_; intro x6 hx6
  refine f_bind ?_; intro x7 hx7
  refine f_bind ?_; intro x8 hx8
  exact f_ret (.cells Try.underlying32 rfl sz32 rfl (lds_cons (ldI_eq hx5) (lds_cons (ldI_eq hx6) (lds_cons (ldI_eq hx7) (lds_cons (ldI_eq hx8) (lds_nil))))) (.nil)) rfl

/- 101 (congou/cuts.plate).box -/
theorem ok101 : FnOk Try.prog 101 := ⟨⟨Try.f101, Try.func101, by kernel_rfl, rfl⟩⟩
theorem sim101 {app : App} (happ : AppSim Try.prog app) {a0 : Sl} {H : Hp} {p : (Int × Int × Int × Int × Bool) × Hp} (h : r101 app a0 H = some p) : CallSim Try.prog 101 [.sl a0] H (.tup [.agg [.int .i64 p.1.1, .int .i64 p.1.2.1], .agg [.int .i64 p.1.2.2.1, .int .i64 p.1.2.2.2.1], .bool p.1.2.2.2.2]) p.2 := by
  refine callSim (fn := Try.f101) (ret := ret101) Try.func101 rfl Try.ntmps101 rfl ?_ h
  unfold r101
  refine f_seq ?_
  refine f_region ?_
  refine f_op rfl rfl (s_alloc (zs := [.int .i64 0, .int .i64 0]) ty43 rfl rfl) ?_
  refine f_op rfl rfl (s_alloc (zs := [.int .i64 0, .int .i64 0]) ty43 rfl rfl) ?_
  refine f_op rfl rfl (s_alloc (zs := [.bool false]) ty4 rfl rfl) ?_
  refine o_hp ?_; intro H1 hH1
  refine f_nil ?_
  refine f_seq ?_
  refine f_seq ?_
  refine f_region ?_
  refine f_op rfl rfl (s_mv (v := .sl a0) rfl) ?_
  refine f_op rfl rfl (s_makeFunc rfl rfl) ?_
  refine f_nil ?_
  refine f_block ?_
  refine f_bind ?_; intro p2 hp2
  refine f_bind ?_; intro q3 hq3
  refine f_rangeX happ rfl rfl (lookup_restrict _ [2, 3, 4]) rfl hp2 hq3 ?_
  refine f_if (fun h4 => ?_) (fun h4 => ?_)
  · skip
    refine f_jmp0 h4 ?_
    refine f_inBlock ?_
    refine f_seq ?_
    refine f_bind ?_; intro x5 hx5
    refine f_bind ?_; intro x6 hx6
    refine f_bind ?_; intro x7 hx7
    refine f_bind ?_; intro x8 hx8
    refine f_bind ?_; intro x9 hx9
    refine f_bind ?_; intro H10 hH10
    refine f_bind ?_; intro H11 hH11
    refine f_bind ?_; intro H12 hH12
    refine f_ck fun g13 => ?_
    refine f_ck fun g14 => ?_
    refine f_ck fun g15 => ?_
    refine f_ck fun g16 => ?_
    refine f_ck fun g17 => ?_
    refine f_ck fun g18 => ?_
    refine f_draw (Φ := fun H_ => H_.ld ((H.push (.cells [.int .i64 0, .int .i64 0] false)).n) 0 = some (.int .i64 x7) ∧ H_.ld ((H.push (.cells [.int .i64 0, .int .i64 0] false)).n) (0 + 1) = some (.int .i64 x8) ∧ H_.ld (((H.push (.cells [.int .i64 0, .int .i64 0] false)).push (.cells [.int .i64 0, .int .i64 0] false)).n) 0 = some (.bool x9)) (lim := 5) [1, 0, 0, 2, 2, 2] (Trc.read rfl rfl rfl (s_loads Try.underlying43 rfl ty43 rfl (lds_cons (ldI_eq hx5) (lds_cons (ldI_eq hx6) (lds_nil)))) (Trc.pure rfl rfl rfl (.inr ⟨by decide +kernel, fun _ hp_ => s_loads Try.underlying43 rfl ty43 rfl (lds_cons hp_.1 (lds_cons hp_.2.1 (lds_nil)))⟩) (Trc.pure rfl rfl rfl (.inr ⟨by decide +kernel, fun _ hp_ => s_load Try.underlying4 rfl rfl hp_.2.2⟩) (Trc.eff rfl rfl rfl (fun _ => ⟨ldI_eq hx7, ldI_eq hx8, ldB_eq hx9⟩) (s_stores ty43 rfl rfl rfl rfl hH10 (Nat.le_of_eq (sts_mono hH10).symm)) (Trc.eff rfl rfl rfl (fun _ => ⟨ldI_eq g13, ldI_eq g14, ldB_eq g15⟩) (s_stores ty43 rfl rfl rfl rfl hH11 (Nat.le_of_eq (sts_mono hH11).symm)) (Trc.eff rfl rfl rfl (fun _ => ⟨ldI_eq g16, ldI_eq g17, ldB_eq g18⟩) (s_store (s := 1) ty4 rfl rfl rfl hH12) (Trc.nil (fun h_ => absurd h_ (by decide +kernel))))))))) rfl (by decide +kernel) mixed ?_
    refine f_bind ?_; intro x19 hx19
    refine f_bind ?_; intro x20 hx20
    refine f_bind ?_; intro x21 hx21
    refine f_bind ?_; intro x22 hx22
    refine f_bind ?_; intro x23 hx23
    refine f_ck fun g24 => ?_
    exact f_retD (.cells Try.underlying43 rfl sz43 rfl (lds_cons (ldI_eq hx19) (lds_cons (ldI_eq hx20) (lds_nil))) (.cells Try.underlying43 rfl sz43 rfl (lds_cons (ldI_eq hx21) (lds_cons (ldI_eq hx22) (lds_nil))) (.cell Try.underlying4 rfl rfl (ldB_eq hx23) (.nil)))) rfl (dfrs_of g24)
  · skip
    exact f_none

theorem s101q0_j1 {app : App} (happ : AppSim Try.prog app) {l_ : Nat} (kt0 : Nat → Nat → Nat → Nat → Int → Hp → Option ((Option Code) × Hp)) (hkt0 : ∀ (v1 : Nat) (v2 : Nat) (v3 : Nat) (v4 : Nat) (v5 : Int) (H : Hp), FinG Try.prog PostR ⟨59, [], some l_⟩ (todoAt (bodyOf Try.f101) [1, 0, 1, 0, 1, 0, 1, 0, 1, 0, 0] []) [(2, .ptr v1 0), (3, .ptr v2 0), (4, .ptr v3 0), (6, .ptr v4 0), (20, .int .i64 v5)] H (kt0 v1 v2 v3 v4 v5 H)) (v1 : Nat) (v2 : Nat) (v3 : Nat) (v4 : Nat) (v5 : Int) (v6 : Int) (v7 : Bool) (H : Hp) : FinG Try.prog PostR ⟨59, [], some l_⟩ (todoAt (bodyOf Try.f101) [1, 0, 1, 0, 1, 0, 1, 0, 1, 0, 0, 1, 1, 0, 0, 1, 1, 1] []) [(2, .ptr v1 0), (3, .ptr v2 0), (4, .ptr v3 0), (6, .ptr v4 0), (7, .int .i64 v5), (20, .int .i64 v6), (49, .bool v7)] H (r101q0_j1 app l_ kt0 v1 v2 v3 v4 v5 v6 v7 H) := by
  unfold r101q0_j1
  refine f_if (fun h1 => ?_) (fun h1 => ?_)
  · skip
    refine f_know 49 rfl (bool_T h1) ?_
    refine f_condT rfl ?_
    refine f_region ?_
    refine f_op rfl rfl (s_mv (v := .int .i64 v5) rfl) ?_
    refine f_op rfl rfl (s_mv (v := .int .i64 v5) rfl) ?_
    refine o_ck fun g2 => ?_
    refine f_op rfl rfl (s_idxA Try.underlying43 ty3 rfl rfl g2) ?_
    refine o_bind ?_; intro x3 hx3
    refine f_op rfl rfl (s_load Try.underlying3 rfl rfl (ldI_eq hx3)) ?_
    refine o_ck fun g4 => ?_
    refine f_op rfl rfl (s_idxA Try.underlying43 ty3 rfl rfl g4) ?_
    refine o_bind ?_; intro H5 hH5
    refine f_op rfl rfl (s_store (s := 1) ty3 rfl rfl rfl hH5) ?_
    refine f_nil ?_
    refine f_inBlock ?_
    refine f_region ?_
    refine f_op rfl rfl (s_add rfl rfl) ?_
    refine f_op rfl rfl (s_mv (v := .int .i64 (w64 (v6 + 1))) rfl) ?_
    refine f_nil ?_
    refine f_inLoop ?_
    refine f_keep [2, 3, 4, 6, 20] ?_
    exact hkt0 v1 v2 v3 v4 (w64 (v6 + 1)) H5
  · skip
    refine f_know 49 rfl (bool_F h1) ?_
    refine f_condF rfl ?_
    refine f_skip ?_
    refine f_inBlock ?_
    refine f_region ?_
    refine f_op rfl rfl (s_add rfl rfl) ?_
    refine f_op rfl rfl (s_mv (v := .int .i64 (w64 (v6 + 1))) rfl) ?_
    refine f_nil ?_
    refine f_inLoop ?_
    refine f_keep [2, 3, 4, 6, 20] ?_
    exact hkt0 v1 v2 v3 v4 (w64 (v6 + 1)) H

theorem s101q0_j2 {app : App} (happ : AppSim Try.prog app) {l_ : Nat} (kt0 : Nat → Nat → Nat → Nat → Int → Hp → Option ((Option Code) × Hp)) (hkt0 : ∀ (v1 : Nat) (v2 : Nat) (v3 : Nat) (v4 : Nat) (v5 : Int) (H : Hp), FinG Try.prog PostR ⟨59, [], some l_⟩ (todoAt (bodyOf Try.f101) [1, 0, 1, 0, 1, 0, 1, 0, 1, 0, 0] []) [(2, .ptr v1 0), (3, .ptr v2 0), (4, .ptr v3 0), (6, .ptr v4 0), (20, .int .i64 v5)] H (kt0 v1 v2 v3 v4 v5 H)) (v1 : Nat) (v2 : Nat) (v3 : Nat) (v4 : Nat) (v5 : Int) (v6 : Int) (H : Hp) : FinG Try.prog PostR ⟨59, [], some l_⟩ (todoAt (bodyOf Try.f101) [1, 0, 1, 0, 1, 0, 1, 0, 1, 0, 0, 1, 1, 0, 0, 1, 1] []) [(2, .ptr v1 0), (3, .ptr v2 0), (4, .ptr v3 0), (6, .ptr v4 0), (7, .int .i64 v5), (20, .int .i64 v6)] H (r101q0_j2 app l_ kt0 v1 v2 v3 v4 v5 v6 H) := by
  unfold r101q0_j2
  refine f_seq ?_
  refine f_bind ?_; intro x1 hx1
  refine f_if (fun h2 => ?_) (fun h2 => ?_)
  · skip
    refine f_ck fun g3 => ?_
    refine f_bind ?_; intro x4 hx4
    refine f_ck fun g5 => ?_
    refine f_bind ?_; intro x6 hx6
    refine f_draw (Φ := fun _ => True) (lim := 1000000) [1, 0, 0, 0, 0, 1, 0, 0, 1, 0, 0] (Trc.read rfl rfl rfl (s_load Try.underlying4 rfl rfl (ldB_eq hx1)) (Trc.pure rfl rfl rfl (.inl fun _ => s_not rfl) (Trc.pure rfl rfl rfl (.inl fun _ => s_mv (v := .bool (!x1)) rfl) (Trc.know 41 rfl (bool_notT h2) (Trc.pure rfl rfl rfl (.inl fun _ => s_mv (v := .int .i64 v5) rfl) (Trc.pure rfl rfl rfl (.inl fun _ => s_idxA Try.underlying43 ty3 rfl rfl g3) (Trc.read rfl rfl rfl (s_load Try.underlying3 rfl rfl (ldI_eq hx4)) (Trc.pure rfl rfl rfl (.inl fun _ => s_mv (v := .int .i64 v5) rfl) (Trc.pure rfl rfl rfl (.inl fun _ => s_idxA Try.underlying43 ty3 rfl rfl g5) (Trc.read rfl rfl rfl (s_load Try.underlying3 rfl rfl (ldI_eq hx6)) (Trc.pure rfl rfl rfl (.inl fun _ => s_gtr rfl rfl) (Trc.pure rfl rfl rfl (.inl fun _ => s_pickF (v := .bool (decide (x6 < x4))) rfl rfl) (Trc.nil (fun _ => trivial)))))))))))))) rfl (by decide +kernel) mixed ?_
    refine f_keep [2, 3, 4, 6, 7, 20, 49] ?_
    exact s101q0_j1 happ _ hkt0 v1 v2 v3 v4 v5 v6 (decide (x6 < x4)) H
  · skip
    refine f_draw (Φ := fun _ => True) (lim := 1000000) [1, 0, 0, 0, 0, 0, 0, 0, 0, 0, 0] (Trc.read rfl rfl rfl (s_load Try.underlying4 rfl rfl (ldB_eq hx1)) (Trc.pure rfl rfl rfl (.inl fun _ => s_not rfl) (Trc.pure rfl rfl rfl (.inl fun _ => s_mv (v := .bool (!x1)) rfl) (Trc.know 41 rfl (bool_notF h2) (Trc.no rfl rfl rfl (Trc.no rfl rfl rfl (Trc.no rfl rfl rfl (Trc.no rfl rfl rfl (Trc.no rfl rfl rfl (Trc.no rfl rfl rfl (Trc.no rfl rfl rfl (Trc.pure rfl rfl rfl (.inl fun _ => s_pickT (v := .bool true) rfl rfl) (Trc.nil (fun _ => trivial)))))))))))))) rfl (by decide +kernel) mixed ?_
    refine f_keep [2, 3, 4, 6, 7, 20, 49] ?_
    exact s101q0_j1 happ _ hkt0 v1 v2 v3 v4 v5 v6 true H

theorem s101q0_j3 {app : App} (happ : AppSim Try.prog app) {l_ : Nat} (kt0 : Nat → Nat → Nat → Nat → Int → Hp → Option ((Option Code) × Hp)) (hkt0 : ∀ (v1 : Nat) (v2 : Nat) (v3 : Nat) (v4 : Nat) (v5 : Int) (H : Hp), FinG Try.prog PostR ⟨59, [], some l_⟩ (todoAt (bodyOf Try.f101) [1, 0, 1, 0, 1, 0, 1, 0, 1, 0, 0] []) [(2, .ptr v1 0), (3, .ptr v2 0), (4, .ptr v3 0), (6, .ptr v4 0), (20, .int .i64 v5)] H (kt0 v1 v2 v3 v4 v5 H)) (v1 : Nat) (v2 : Nat) (v3 : Nat) (v4 : Nat) (v5 : Int) (v6 : Int) (v7 : Bool) (H : Hp) : FinG Try.prog PostR ⟨59, [], some l_⟩ (todoAt (bodyOf Try.f101) [1, 0, 1, 0, 1, 0, 1, 0, 1, 0, 0, 1, 1, 0, 0, 1, 0, 1] []) [(2, .ptr v1 0), (3, .ptr v2 0), (4, .ptr v3 0), (6, .ptr v4 0), (7, .int .i64 v5), (20, .int .i64 v6), (33, .bool v7)] H (r101q0_j3 app l_ kt0 v1 v2 v3 v4 v5 v6 v7 H) := by
  unfold r101q0_j3
  refine f_if (fun h1 => ?_) (fun h1 => ?_)
  · skip
    refine f_know 33 rfl (bool_T h1) ?_
    refine f_condT rfl ?_
    refine f_region ?_
    refine f_op rfl rfl (s_mv (v := .int .i64 v5) rfl) ?_
    refine f_op rfl rfl (s_mv (v := .int .i64 v5) rfl) ?_
    refine o_ck fun g2 => ?_
    refine f_op rfl rfl (s_idxA Try.underlying43 ty3 rfl rfl g2) ?_
    refine o_bind ?_; intro x3 hx3
    refine f_op rfl rfl (s_load Try.underlying3 rfl rfl (ldI_eq hx3)) ?_
    refine o_ck fun g4 => ?_
    refine f_op rfl rfl (s_idxA Try.underlying43 ty3 rfl rfl g4) ?_
    refine o_bind ?_; intro H5 hH5
    refine f_op rfl rfl (s_store (s := 1) ty3 rfl rfl rfl hH5) ?_
    refine f_nil ?_
    refine f_keep [2, 3, 4, 6, 7, 20] ?_
    exact s101q0_j2 happ _ hkt0 v1 v2 v3 v4 v5 v6 H5
  · skip
    refine f_know 33 rfl (bool_F h1) ?_
    refine f_condF rfl ?_
    refine f_skip ?_
    refine f_keep [2, 3, 4, 6, 7, 20] ?_
    exact s101q0_j2 happ _ hkt0 v1 v2 v3 v4 v5 v6 H

theorem s101q0_l0 {app : App} (happ : AppSim Try.prog app) {l_ : Nat} : ∀ (k_ : Nat) (v1 : Nat) (v2 : Nat) (v3 : Nat) (v4 : Nat) (v5 : Int) (H : Hp), FinG Try.prog PostR ⟨59, [], some l_⟩ (todoAt (bodyOf Try.f101) [1, 0, 1, 0, 1, 0, 1, 0, 1, 0, 0] []) [(2, .ptr v1 0), (3, .ptr v2 0), (4, .ptr v3 0), (6, .ptr v4 0), (20, .int .i64 v5)] H (r101q0_l0 app l_ k_ v1 v2 v3 v4 v5 H) := by
  intro k_
  induction k_ with
  | zero => intro _ _ _ _ _ _; exact f_none
  | succ k_ ih =>
    intro v1 v2 v3 v4 v5 H
    rw [r101q0_l0]
    refine f_seq ?_
    refine f_region ?_
    refine f_op rfl rfl (s_lss rfl rfl) ?_
    refine f_nil ?_
    refine f_seq ?_
    refine f_if (fun h1 => ?_) (fun h1 => ?_)
    · skip
      refine f_know 21 rfl (dec_true h1) ?_
      refine f_condT rfl ?_
      refine f_skip ?_
      refine f_seq ?_
      refine f_block ?_
      refine f_seq ?_
      refine f_region ?_
      refine f_op rfl rfl (s_mv (v := .int .i64 v5) rfl) ?_
      refine f_op rfl rfl (s_as (v := .int .i64 v5) rfl) ?_
      refine f_nil ?_
      refine f_seq ?_
      refine f_seq ?_
      refine f_bind ?_; intro x2 hx2
      refine f_if (fun h3 => ?_) (fun h3 => ?_)
      · skip
        refine f_ck fun g4 => ?_
        refine f_bind ?_; intro x5 hx5
        refine f_ck fun g6 => ?_
        refine f_bind ?_; intro x7 hx7
        refine f_draw (Φ := fun _ => True) (lim := 1000000) [1, 0, 0, 0, 0, 1, 0, 0, 1, 0, 0] (Trc.read rfl rfl rfl (s_load Try.underlying4 rfl rfl (ldB_eq hx2)) (Trc.pure rfl rfl rfl (.inl fun _ => s_not rfl) (Trc.pure rfl rfl rfl (.inl fun _ => s_mv (v := .bool (!x2)) rfl) (Trc.know 25 rfl (bool_notT h3) (Trc.pure rfl rfl rfl (.inl fun _ => s_mv (v := .int .i64 v5) rfl) (Trc.pure rfl rfl rfl (.inl fun _ => s_idxA Try.underlying43 ty3 rfl rfl g4) (Trc.read rfl rfl rfl (s_load Try.underlying3 rfl rfl (ldI_eq hx5)) (Trc.pure rfl rfl rfl (.inl fun _ => s_mv (v := .int .i64 v5) rfl) (Trc.pure rfl rfl rfl (.inl fun _ => s_idxA Try.underlying43 ty3 rfl rfl g6) (Trc.read rfl rfl rfl (s_load Try.underlying3 rfl rfl (ldI_eq hx7)) (Trc.pure rfl rfl rfl (.inl fun _ => s_lss rfl rfl) (Trc.pure rfl rfl rfl (.inl fun _ => s_pickF (v := .bool (decide (x5 < x7))) rfl rfl) (Trc.nil (fun _ => trivial)))))))))))))) rfl (by decide +kernel) mixed ?_
        refine f_keep [2, 3, 4, 6, 7, 20, 33] ?_
        exact s101q0_j3 happ _ (fun v1_ v2_ v3_ v4_ v5_ H_ => ih v1_ v2_ v3_ v4_ v5_ H_) v1 v2 v3 v4 v5 v5 (decide (x5 < x7)) H
      · skip
        refine f_draw (Φ := fun _ => True) (lim := 1000000) [1, 0, 0, 0, 0, 0, 0, 0, 0, 0, 0] (Trc.read rfl rfl rfl (s_load Try.underlying4 rfl rfl (ldB_eq hx2)) (Trc.pure rfl rfl rfl (.inl fun _ => s_not rfl) (Trc.pure rfl rfl rfl (.inl fun _ => s_mv (v := .bool (!x2)) rfl) (Trc.know 25 rfl (bool_notF h3) (Trc.no rfl rfl rfl (Trc.no rfl rfl rfl (Trc.no rfl rfl rfl (Trc.no rfl rfl rfl (Trc.no rfl rfl rfl (Trc.no rfl rfl rfl (Trc.no rfl rfl rfl (Trc.pure rfl rfl rfl (.inl fun _ => s_pickT (v := .bool true) rfl rfl) (Trc.nil (fun _ => trivial)))))))))))))) rfl (by decide +kernel) mixed ?_
        refine f_keep [2, 3, 4, 6, 7, 20, 33] ?_
        exact s101q0_j3 happ _ (fun v1_ v2_ v3_ v4_ v5_ H_ => ih v1_ v2_ v3_ v4_ v5_ H_) v1 v2 v3 v4 v5 v5 true H
    · skip
      refine f_know 21 rfl (dec_false h1) ?_
      refine f_condF rfl ?_
      refine f_exit rfl ?_
      refine f_region ?_
      refine o_bind ?_; intro H8 hH8
      refine f_op rfl rfl (s_store (s := 1) ty4 rfl rfl rfl hH8) ?_
      refine f_nil ?_
      refine f_inBlock ?_
      exact f_rend

theorem sim101q0 {app : App} (happ : AppSim Try.prog app) {l_ : Nat} {v1 : Nat} {v2 : Nat} {v3 : Nat} {y0_0 : Int} {y0_1 : Int} {y0_2 : Int} {y0_3 : Int} {y0_4 : Int} {y0_5 : Int} {y0_6 : Int} {y0_7 : Int} {y0_8 : Int} {y0_9 : Int} {H : Hp} : FinG Try.prog PostR ⟨59, [], some l_⟩ [.code (siteTab 0).2.1, .beginRound, .code (siteTab 0).2.2] (zipF [10] [.agg [.int .i64 y0_0, .int .i64 y0_1, .int .i64 y0_2, .int .i64 y0_3, .int .i64 y0_4, .int .i64 y0_5, .int .i64 y0_6, .int .i64 y0_7, .int .i64 y0_8, .int .i64 y0_9]] [(2, .ptr v1 0), (3, .ptr v2 0), (4, .ptr v3 0)]) H (r101q0 app l_ v1 v2 v3 y0_0 y0_1 y0_2 y0_3 y0_4 y0_5 y0_6 y0_7 y0_8 y0_9 H) := by
  show FinG Try.prog PostR ⟨59, [], some l_⟩ (todoAt (bodyOf Try.f101) [1, 0, 1, 0, 0] []) [(10, .agg [.int .i64 y0_0, .int .i64 y0_1, .int .i64 y0_2, .int .i64 y0_3, .int .i64 y0_4, .int .i64 y0_5, .int .i64 y0_6, .int .i64 y0_7, .int .i64 y0_8, .int .i64 y0_9]), (2, .ptr v1 0), (3, .ptr v2 0), (4, .ptr v3 0)] H _
  unfold r101q0
  refine f_region ?_
  refine f_op rfl rfl (s_alloc (zs := [.int .i64 0, .int .i64 0, .int .i64 0, .int .i64 0, .int .i64 0, .int .i64 0, .int .i64 0, .int .i64 0, .int .i64 0, .int .i64 0]) ty105 rfl rfl) ?_
  refine o_bind ?_; intro H1 hH1
  refine f_op rfl rfl (s_stores ty105 rfl rfl rfl rfl hH1 (Nat.le_of_eq (sts_mono hH1).symm)) ?_
  refine f_nil ?_
  refine f_bind ?_; intro H2 hH2
  refine f_beginX rfl hH2 ?_
  refine f_block ?_
  refine f_seq ?_
  refine f_bind ?_; intro x3 hx3
  refine f_bind ?_; intro x4 hx4
  refine f_bind ?_; intro p5 hp5
  refine f_bind ?_; intro x6 hx6
  refine f_bind ?_; intro x7 hx7
  refine f_bind ?_; intro p8 hp8
  refine f_bind ?_; intro H9 hH9
  refine f_drawF (Φ := fun _ => True) (lim := 1000000) [0, 0, 1, 0, 0, 0, 1, 0, 0, 2, 2] [false, false, false, false, false, false, false, false, false, true, false] 9 10 (Trc.pure rfl rfl rfl (.inl fun _ => s_fieldAddr Try.underlying105 rfl ty32 rfl) (Trc.pure rfl rfl rfl (.inl fun _ => s_fieldAddr Try.underlying32 rfl ty24 rfl) (Trc.read rfl rfl rfl (s_loads Try.underlying24 rfl ty24 rfl (lds_cons (ldI_eq hx3) (lds_cons (ldI_eq hx4) (lds_nil)))) (Trc.pure rfl rfl rfl (.inl fun _ => s_callO rfl ok68 (sim68 hp5) rfl rfl) (Trc.pure rfl rfl rfl (.inl fun _ => s_fieldAddr Try.underlying105 rfl ty32 rfl) (Trc.pure rfl rfl rfl (.inl fun _ => s_fieldAddr Try.underlying32 rfl ty24 rfl) (Trc.read rfl rfl rfl (s_loads Try.underlying24 rfl ty24 rfl (lds_cons (ldI_eq hx6) (lds_cons (ldI_eq hx7) (lds_nil)))) (Trc.pure rfl rfl rfl (.inl fun _ => s_callO rfl ok68 (sim68 hp8) rfl rfl) (Trc.pure rfl rfl rfl (.inl fun _ => s_buildA (cs := [.int .i64 p5.1, .int .i64 p8.1]) Try.underlying43 ty43 ty3 rfl rfl) (Trc.fl .p rfl rfl rfl (fun _ => trivial) rfl (by rfl) (fun _ => s_alloc (zs := [.int .i64 0, .int .i64 0]) ty43 rfl rfl) (Trc.eff rfl rfl rfl (fun _ => trivial) (s_stores ty43 rfl rfl rfl rfl hH9 (Nat.le_of_eq (sts_mono hH9).symm)) (Trc.nil (fun _ => trivial))))))))))))) rfl rfl (by decide +kernel) mixed ?_
  refine f_seq ?_
  refine f_seq ?_
  refine f_region ?_
  refine f_op rfl rfl (s_mv (v := .int .i64 0) rfl) ?_
  refine f_nil ?_
  refine f_block ?_
  refine f_loop ?_
  refine f_keep [2, 3, 4, 6, 20] ?_
  exact s101q0_l0 happ FUEL v1 v2 v3 H2.n 0 H9

/- 71 (congou/cuts.plate).points -/
theorem ok71 : FnOk Try.prog 71 := ⟨⟨Try.f71, Try.func71, by kernel_rfl, rfl⟩⟩
theorem s71_l1 {app : App} (happ : AppSim Try.prog app) (kt0 : Sl → Nat → Nat → Sl → Int → Hp → Option (Sl × Hp)) (hkt0 : ∀ (v1 : Sl) (v2 : Nat) (v3 : Nat) (v4 : Sl) (v5 : Int) (H : Hp), Fin Try.prog Try.f71 ret71 45 (todoAt (bodyOf Try.f71) [1, 1, 1, 1, 0, 1, 0, 0] []) [(0, .sl v1), (3, .ptr v2 0), (4, .ptr v3 0), (6, .sl v4), (7, .int .i64 v5)] H (kt0 v1 v2 v3 v4 v5 H)) : ∀ (k_ : Nat) (v1 : Sl) (v2 : Nat) (v3 : Nat) (v4 : Sl) (v5 : Int) (v6 : Int) (H : Hp), Fin Try.prog Try.f71 ret71 45 (todoAt (bodyOf Try.f71) [1, 1, 1, 1, 0, 1, 0, 0, 1, 0, 0, 1, 0, 0] []) [(0, .sl v1), (3, .ptr v2 0), (4, .ptr v3 0), (6, .sl v4), (7, .int .i64 v5), (8, .int .i64 v6)] H (r71_l1 app kt0 k_ v1 v2 v3 v4 v5 v6 H) := by
  intro k_
  induction k_ with
  | zero => intro _ _ _ _ _ _ _; exact f_none
  | succ k_ ih =>
    intro v1 v2 v3 v4 v5 v6 H
    rw [r71_l1]
    refine f_seq ?_
    refine f_seq ?_
    refine f_region ?_
    refine f_op rfl rfl (s_mv (v := .int .i64 v6) rfl) ?_
    refine f_op rfl rfl (s_idxA Try.underlying43 ty3 rfl rfl (by decide)) ?_
    refine o_bind ?_; intro x1 hx1
    refine f_op rfl rfl (s_load Try.underlying3 rfl rfl (ldI_eq hx1)) ?_
    refine f_op rfl rfl (s_leq rfl rfl) ?_
    refine f_nil ?_
    refine f_if (fun h2 => ?_) (fun h2 => ?_)
    · skip
      refine f_know 30 rfl (dec_true h2) ?_
      refine f_condT rfl ?_
      refine f_skip ?_
      refine f_seq ?_
      refine f_block ?_
      refine f_seq ?_
      refine f_region ?_
      refine f_op rfl rfl (s_mv (v := .sl v1) rfl) ?_
      refine f_op rfl rfl (s_mv (v := .int .i64 v5) rfl) ?_
      refine f_op rfl rfl (s_mv (v := .int .i64 v6) rfl) ?_
      refine o_bind ?_; intro p3 hp3
      refine f_op rfl rfl (s_callO rfl ok80 (sim80 hp3) rfl rfl) ?_
      refine o_bind ?_; intro p4 hp4
      refine f_op rfl rfl (s_callF rfl ok65 (sim65 happ hp4)) ?_
      refine f_nil ?_
      refine f_if (fun h5 => ?_) (fun h5 => ?_)
      · skip
        refine f_know 37 rfl (bool_T h5) ?_
        refine f_condT rfl ?_
        refine f_region ?_
        refine f_op rfl rfl (s_mv (v := .sl v4) rfl) ?_
        refine f_op rfl rfl (s_mv (v := .int .i64 v5) rfl) ?_
        refine f_op rfl rfl (s_mv (v := .int .i64 v6) rfl) ?_
        refine f_op rfl rfl (s_buildA (cs := [.int .i64 v5, .int .i64 v6]) Try.underlying43 ty43 ty3 rfl rfl) ?_
        refine f_op rfl rfl (s_buildSlice (cs := [.int .i64 v5, .int .i64 v6]) Try.underlying37 ty43 (by decide) (by decide) rfl (by decide) rfl) ?_
        refine o_bind ?_; intro x6 hx6
        refine f_op rfl rfl (s_ap rfl rfl Try.underlying37 Try.underlying37 ty43 rfl rfl rfl rfl rfl rfl rfl hx6) ?_
        refine f_op rfl rfl (s_as (v := .sl x6.1) rfl) ?_
        refine f_nil ?_
        refine f_inBlock ?_
        refine f_region ?_
        refine f_op rfl rfl (s_mv (v := .int .i64 v6) rfl) ?_
        refine f_op rfl rfl (s_add rfl rfl) ?_
        refine f_op rfl rfl (s_as (v := .int .i64 (w64 (v6 + 1))) rfl) ?_
        refine f_nil ?_
        refine f_inLoop ?_
        refine f_keep [0, 3, 4, 6, 7, 8] ?_
        exact ih v1 v2 v3 x6.1 v5 (w64 (v6 + 1)) x6.2
      · skip
        refine f_know 37 rfl (bool_F h5) ?_
        refine f_condF rfl ?_
        refine f_skip ?_
        refine f_inBlock ?_
        refine f_region ?_
        refine f_op rfl rfl (s_mv (v := .int .i64 v6) rfl) ?_
        refine f_op rfl rfl (s_add rfl rfl) ?_
        refine f_op rfl rfl (s_as (v := .int .i64 (w64 (v6 + 1))) rfl) ?_
        refine f_nil ?_
        refine f_inLoop ?_
        refine f_keep [0, 3, 4, 6, 7, 8] ?_
        exact ih v1 v2 v3 v4 v5 (w64 (v6 + 1)) p4.2
    · skip
      refine f_know 30 rfl (dec_false h2) ?_
      refine f_condF rfl ?_
      refine f_exit rfl ?_
      refine f_inBlock ?_
      refine f_region ?_
      refine f_op rfl rfl (s_mv (v := .int .i64 v5) rfl) ?_
      refine f_op rfl rfl (s_add rfl rfl) ?_
      refine f_op rfl rfl (s_as (v := .int .i64 (w64 (v5 + 1))) rfl) ?_
      refine f_nil ?_
      refine f_inLoop ?_
      refine f_keep [0, 3, 4, 6, 7] ?_
      exact hkt0 v1 v2 v3 v4 (w64 (v5 + 1)) H

theorem s71_l0 {app : App} (happ : AppSim Try.prog app) : ∀ (k_ : Nat) (v1 : Sl) (v2 : Nat) (v3 : Nat) (v4 : Sl) (v5 : Int) (H : Hp), Fin Try.prog Try.f71 ret71 45 (todoAt (bodyOf Try.f71) [1, 1, 1, 1, 0, 1, 0, 0] []) [(0, .sl v1), (3, .ptr v2 0), (4, .ptr v3 0), (6, .sl v4), (7, .int .i64 v5)] H (r71_l0 app k_ v1 v2 v3 v4 v5 H) := by
  intro k_
  induction k_ with
  | zero => intro _ _ _ _ _ _; exact f_none
  | succ k_ ih =>
    intro v1 v2 v3 v4 v5 H
    rw [r71_l0]
    refine f_seq ?_
    refine f_seq ?_
    refine f_region ?_
    refine f_op rfl rfl (s_mv (v := .int .i64 v5) rfl) ?_
    refine f_op rfl rfl (s_idxA Try.underlying43 ty3 rfl rfl (by decide)) ?_
    refine o_bind ?_; intro x1 hx1
    refine f_op rfl rfl (s_load Try.underlying3 rfl rfl (ldI_eq hx1)) ?_
    refine f_op rfl rfl (s_leq rfl rfl) ?_
    refine f_nil ?_
    refine f_if (fun h2 => ?_) (fun h2 => ?_)
    · skip
      refine f_know 22 rfl (dec_true h2) ?_
      refine f_condT rfl ?_
      refine f_skip ?_
      refine f_seq ?_
      refine f_block ?_
      refine f_seq ?_
      refine f_region ?_
      refine f_op rfl rfl (s_idxA Try.underlying43 ty3 rfl rfl (by decide)) ?_
      refine o_bind ?_; intro x3 hx3
      refine f_op rfl rfl (s_load Try.underlying3 rfl rfl (ldI_eq hx3)) ?_
      refine f_op rfl rfl (s_as (v := .int .i64 x3) rfl) ?_
      refine f_nil ?_
      refine f_block ?_
      refine f_loop ?_
      refine f_keep [0, 3, 4, 6, 7, 8] ?_
      exact s71_l1 happ _ (fun v1_ v2_ v3_ v4_ v5_ H_ => ih v1_ v2_ v3_ v4_ v5_ H_) FUEL v1 v2 v3 v4 v5 x3 H
    · skip
      refine f_know 22 rfl (dec_false h2) ?_
      refine f_condF rfl ?_
      refine f_exit rfl ?_
      refine f_seq ?_
      refine f_region ?_
      refine f_op rfl rfl (s_mv (v := .sl v4) rfl) ?_
      refine f_op rfl rfl (s_as (v := .sl v4) rfl) ?_
      refine f_nil ?_
      exact f_ret (.tmp rfl (.nil)) rfl

theorem sim71 {app : App} (happ : AppSim Try.prog app) {a0 : Sl} {H : Hp} {p : Sl × Hp} (h : r71 app a0 H = some p) : CallSim Try.prog 71 [.sl a0] H (.sl p.1) p.2 := by
  refine callSim (fn := Try.f71) (ret := ret71) Try.func71 rfl Try.ntmps71 rfl ?_ h
  unfold r71
  refine f_seq ?_
  refine f_region ?_
  refine f_op rfl rfl (s_as (v := .sl ⟨true, 0, 0, 0, 0, 0⟩) rfl) ?_
  refine f_nil ?_
  refine f_seq ?_
  refine f_region ?_
  refine f_op rfl rfl (s_mv (v := .sl a0) rfl) ?_
  refine o_bind ?_; intro p1 hp1
  refine f_op rfl rfl (s_callF rfl ok101 (sim101 happ hp1)) ?_
  refine f_op rfl rfl (s_mv (v := .tup [.agg [.int .i64 p1.1.1, .int .i64 p1.1.2.1], .agg [.int .i64 p1.1.2.2.1, .int .i64 p1.1.2.2.2.1], .bool p1.1.2.2.2.2]) rfl) ?_
  refine f_op rfl rfl (s_extract (r := .agg [.int .i64 p1.1.1, .int .i64 p1.1.2.1]) rfl rfl) ?_
  refine f_op rfl rfl (s_extract (r := .agg [.int .i64 p1.1.2.2.1, .int .i64 p1.1.2.2.2.1]) rfl rfl) ?_
  refine f_op rfl rfl (s_extract (r := .bool p1.1.2.2.2.2) rfl rfl) ?_
  refine f_op rfl rfl (s_alloc (zs := [.int .i64 0, .int .i64 0]) ty43 rfl rfl) ?_
  refine f_op rfl rfl (s_alloc (zs := [.int .i64 0, .int .i64 0]) ty43 rfl rfl) ?_
  refine o_bind ?_; intro H2 hH2
  refine f_op rfl rfl (s_stores ty43 rfl rfl rfl rfl hH2 (Nat.le_of_eq (sts_mono hH2).symm)) ?_
  refine o_bind ?_; intro H3 hH3
  refine f_op rfl rfl (s_stores ty43 rfl rfl rfl rfl hH3 (Nat.le_of_eq (sts_mono hH3).symm)) ?_
  refine f_op rfl rfl (s_as (v := .bool p1.1.2.2.2.2) rfl) ?_
  refine f_nil ?_
  refine f_seq ?_
  refine f_seq ?_
  refine f_region ?_
  refine f_op rfl rfl (s_mv (v := .bool p1.1.2.2.2.2) rfl) ?_
  refine f_op rfl rfl (s_not rfl) ?_
  refine f_nil ?_
  refine f_if (fun h4 => ?_) (fun h4 => ?_)
  · skip
    refine f_know 16 rfl (bool_notT h4) ?_
    refine f_condF rfl ?_
    refine f_skip ?_
    refine f_seq ?_
    refine f_region ?_
    refine f_op rfl rfl (s_as (v := .sl ⟨true, 0, 0, 0, 0, 0⟩) rfl) ?_
    refine f_nil ?_
    refine f_seq ?_
    refine f_seq ?_
    refine f_region ?_
    refine f_op rfl rfl (s_idxA Try.underlying43 ty3 rfl rfl (by decide)) ?_
    refine o_bind ?_; intro x5 hx5
    refine f_op rfl rfl (s_load Try.underlying3 rfl rfl (ldI_eq hx5)) ?_
    refine f_op rfl rfl (s_as (v := .int .i64 x5) rfl) ?_
    refine f_nil ?_
    refine f_block ?_
    refine f_loop ?_
    refine f_keep [0, 3, 4, 6, 7] ?_
    exact s71_l0 happ FUEL a0 p1.2.n ((p1.2.push (.cells [.int .i64 0, .int .i64 0] false)).n) ⟨true, 0, 0, 0, 0, 0⟩ x5 H3
  · skip
    refine f_know 16 rfl (bool_notF h4) ?_
    refine f_condT rfl ?_
    refine f_seq ?_
    refine f_region ?_
    refine f_op rfl rfl (s_as (v := .sl ⟨true, 0, 0, 0, 0, 0⟩) rfl) ?_
    refine f_nil ?_
    exact f_ret (.tmp rfl (.nil)) rfl

/- 40 congou/cuts.Points -/
theorem ok40 : FnOk Try.prog 40 := ⟨⟨Try.f40, Try.func40, by kernel_rfl, rfl⟩⟩
theorem sim40 {app : App} (happ : AppSim Try.prog app) {a0 : Sl} {H : Hp} {p : (Sl × Int) × Hp} (h : r40 app a0 H = some p) : CallSim Try.prog 40 [.sl a0] H (.tup [.sl p.1.1, .int .i64 p.1.2]) p.2 := by
  refine callSim (fn := Try.f40) (ret := ret40) Try.func40 rfl Try.ntmps40 rfl ?_ h
  unfold r40
  refine f_seq ?_
  refine f_region ?_
  refine f_op rfl rfl (s_as (v := .sl ⟨true, 0, 0, 0, 0, 0⟩) rfl) ?_
  refine f_op rfl rfl (s_as (v := .int .i64 0) rfl) ?_
  refine f_nil ?_
  refine f_seq ?_
  refine f_seq ?_
  refine f_region ?_
  refine f_op rfl rfl (s_mv (v := .sl a0) rfl) ?_
  refine o_bind ?_; intro p1 hp1
  refine f_op rfl rfl (s_callF rfl ok63 (sim63 happ hp1)) ?_
  refine f_op rfl rfl (s_not rfl) ?_
  refine f_nil ?_
  refine f_if (fun h2 => ?_) (fun h2 => ?_)
  · skip
    refine f_know 6 rfl (bool_notT h2) ?_
    refine f_condF rfl ?_
    refine f_skip ?_
    refine f_seq ?_
    refine f_region ?_
    refine f_op rfl rfl (s_mv (v := .sl a0) rfl) ?_
    refine o_bind ?_; intro p3 hp3
    refine f_op rfl rfl (s_callF rfl ok71 (sim71 happ hp3)) ?_
    refine f_op rfl rfl (s_as (v := .sl p3.1) rfl) ?_
    refine f_op rfl rfl (s_as (v := .int .i64 0) rfl) ?_
    refine f_nil ?_
    exact f_ret (.tmp rfl (.tmp rfl (.nil))) rfl
  · skip
    refine f_know 6 rfl (bool_notF h2) ?_
    refine f_condT rfl ?_
    refine f_seq ?_
    refine f_region ?_
    refine f_op rfl rfl (s_as (v := .sl ⟨true, 0, 0, 0, 0, 0⟩) rfl) ?_
    refine f_op rfl rfl (s_as (v := .int .i64 2) rfl) ?_
    refine f_nil ?_
    exact f_ret (.tmp rfl (.tmp rfl (.nil))) rfl

/- 21 congou/congoulaw02.awake -/
theorem ok21 : FnOk Try.prog 21 := ⟨⟨Try.f21, Try.func21, by kernel_rfl, rfl⟩⟩
theorem sim21 {app : App} (happ : AppSim Try.prog app) {H : Hp} {p : Bool × Hp} (h : r21 app H = some p) : CallSim Try.prog 21 [] H (.bool p.1) p.2 := by
  refine callSim (fn := Try.f21) (ret := ret21) Try.func21 rfl Try.ntmps21 rfl ?_ h
  unfold r21
  refine f_seq ?_
  refine f_region ?_
  refine f_op rfl rfl (s_as (v := .bool false) rfl) ?_
  refine f_nil ?_
  refine f_seq ?_
  refine f_region ?_
  refine f_op rfl rfl (s_build (cs := [.int .i64 1, .int .i64 0, .int .i64 1]) Try.underlying47 ty47 rfl pl47 rfl) ?_
  refine f_op rfl rfl (s_build (cs := [.int .i64 (-1), .int .i64 0, .int .i64 (-1)]) Try.underlying47 ty47 rfl pl47 rfl) ?_
  refine f_op rfl rfl (s_build (cs := [.int .i64 0, .int .i64 1, .int .i64 2]) Try.underlying47 ty47 rfl pl47 rfl) ?_
  refine f_op rfl rfl (s_build (cs := [.int .i64 0, .int .i64 (-1), .int .i64 (-2)]) Try.underlying47 ty47 rfl pl47 rfl) ?_
  refine f_op rfl rfl (s_buildSlice (cs := [.int .i64 1, .int .i64 0, .int .i64 1, .int .i64 (-1), .int .i64 0, .int .i64 (-1), .int .i64 0, .int .i64 1, .int .i64 2, .int .i64 0, .int .i64 (-1), .int .i64 (-2)]) Try.underlying30 ty47 (by decide) (by decide) rfl (by decide) rfl) ?_
  refine o_bind ?_; intro p1 hp1
  refine f_op rfl rfl (s_callF rfl ok40 (sim40 happ hp1)) ?_
  refine f_op rfl rfl (s_mv (v := .tup [.sl p1.1.1, .int .i64 p1.1.2]) rfl) ?_
  refine f_op rfl rfl (s_extract (r := .sl p1.1.1) rfl rfl) ?_
  refine f_op rfl rfl (s_extract (r := .int .i64 p1.1.2) rfl rfl) ?_
  refine f_op rfl rfl (s_as (v := .sl p1.1.1) rfl) ?_
  refine f_op rfl rfl (s_as (v := .int .i64 p1.1.2) rfl) ?_
  refine f_nil ?_
  refine f_seq ?_
  refine f_region ?_
  refine f_op rfl rfl (s_mv (v := .int .i64 p1.1.2) rfl) ?_
  refine f_op rfl rfl (s_eql rfl rfl) ?_
  refine f_op rfl rfl (s_mv (v := .bool (decide (p1.1.2 = 0))) rfl) ?_
  refine o_if (fun h2 => ?_) (fun h2 => ?_)
  · skip
    refine o_know 14 rfl (dec_true h2) ?_
    refine f_op rfl rfl (s_mv (v := .sl p1.1.1) rfl) ?_
    refine f_op rfl rfl (s_lenS rfl Try.underlying37 rfl) ?_
    refine f_op rfl rfl (s_eql rfl rfl) ?_
    refine f_op rfl rfl (s_pickT (v := .bool (decide ((p1.1.1.len : Int) = 1))) rfl rfl) ?_
    refine f_op rfl rfl (s_mv (v := .bool (decide ((p1.1.1.len : Int) = 1))) rfl) ?_
    refine o_if (fun h3 => ?_) (fun h3 => ?_)
    · skip
      refine o_know 19 rfl (dec_true h3) ?_
      refine f_op rfl rfl (s_mv (v := .sl p1.1.1) rfl) ?_
      refine o_ck fun g4 => ?_
      refine f_op rfl rfl (s_idx Try.underlying37 ty43 rfl rfl g4) ?_
      refine o_bind ?_; intro x5 hx5
      refine o_bind ?_; intro x6 hx6
      refine f_op rfl rfl (s_loads Try.underlying43 rfl ty43 rfl (lds_cons (ldI_eq hx5) (lds_cons (ldI_eq hx6) (lds_nil)))) ?_
      refine f_op rfl rfl (s_buildA (cs := [.int .i64 1, .int .i64 2]) Try.underlying43 ty43 ty3 rfl rfl) ?_
      refine f_op rfl rfl (s_eqArr eg43 Try.underlying43 Try.underlying3 ty3 rfl rfl rfl rfl rfl rfl) ?_
      refine f_op rfl rfl (s_pickT (v := .bool (AV.keqs [.int .i64 x5, .int .i64 x6] [.int .i64 1, .int .i64 2])) rfl rfl) ?_
      refine f_op rfl rfl (s_as (v := .bool (AV.keqs [.int .i64 x5, .int .i64 x6] [.int .i64 1, .int .i64 2])) rfl) ?_
      refine f_nil ?_
      exact f_ret (.tmp rfl (.nil)) rfl
    · skip
      refine o_know 19 rfl (dec_false h3) ?_
      refine f_no rfl rfl ?_
      refine f_no rfl rfl ?_
      refine f_no rfl rfl ?_
      refine f_no rfl rfl ?_
      refine f_no rfl rfl ?_
      refine f_op rfl rfl (s_pickF (v := .bool false) rfl rfl) ?_
      refine f_op rfl rfl (s_as (v := .bool false) rfl) ?_
      refine f_nil ?_
      exact f_ret (.tmp rfl (.nil)) rfl
  · skip
    refine o_know 14 rfl (dec_false h2) ?_
    refine f_no rfl rfl ?_
    refine f_no rfl rfl ?_
    refine f_no rfl rfl ?_
    refine f_op rfl rfl (s_pickF (v := .bool false) rfl rfl) ?_
    refine f_op rfl rfl (s_mv (v := .bool false) rfl) ?_
    refine f_no rfl rfl ?_
    refine f_no rfl rfl ?_
    refine f_no rfl rfl ?_
    refine f_no rfl rfl ?_
    refine f_no rfl rfl ?_
    refine f_op rfl rfl (s_pickF (v := .bool false) rfl rfl) ?_
    refine f_op rfl rfl (s_as (v := .bool false) rfl) ?_
    refine f_nil ?_
    exact f_ret (.tmp rfl (.nil)) rfl

/- 112 slices.IndexFunc[[]congou/api.Frac,congou/api.Frac] -/
theorem ok112 : FnOk Try.prog 112 := ⟨⟨Try.f112, Try.func112, by kernel_rfl, rfl⟩⟩
theorem s112_l0 {app : App} (happ : AppSim Try.prog app) : ∀ (k_ : Nat) (v1 : Sl) (v2 : AV) (v3 : Int) (v4 : Int) (H : Hp), Fin Try.prog Try.f112 ret112 19 (todoAt (bodyOf Try.f112) [1, 0, 1, 0, 0] []) [(0, .sl v1), (1, v2), (7, .int .i64 v3), (8, .int .i64 v4)] H (r112_l0 app k_ v1 v2 v3 v4 H) := by
  intro k_
  induction k_ with
  | zero => intro _ _ _ _ _; exact f_none
  | succ k_ ih =>
    intro v1 v2 v3 v4 H
    rw [r112_l0]
    refine f_seq ?_
    refine f_region ?_
    refine f_op rfl rfl (s_lss rfl rfl) ?_
    refine f_nil ?_
    refine f_seq ?_
    refine f_if (fun h1 => ?_) (fun h1 => ?_)
    · skip
      refine f_know 9 rfl (dec_true h1) ?_
      refine f_condT rfl ?_
      refine f_skip ?_
      refine f_seq ?_
      refine f_block ?_
      refine f_seq ?_
      refine f_region ?_
      refine f_op rfl rfl (s_mv (v := .int .i64 v4) rfl) ?_
      refine f_op rfl rfl (s_as (v := .int .i64 v4) rfl) ?_
      refine f_nil ?_
      refine f_seq ?_
      refine f_region ?_
      refine f_op rfl rfl (s_mv (v := v2) rfl) ?_
      refine f_op rfl rfl (s_mv (v := .sl v1) rfl) ?_
      refine f_op rfl rfl (s_mv (v := .int .i64 v4) rfl) ?_
      refine o_ck fun g2 => ?_
      refine f_op rfl rfl (s_idx Try.underlying44 ty24 rfl rfl g2) ?_
      refine o_bind ?_; intro x3 hx3
      refine o_bind ?_; intro x4 hx4
      refine f_op rfl rfl (s_loads Try.underlying24 rfl ty24 rfl (lds_cons (ldI_eq hx3) (lds_cons (ldI_eq hx4) (lds_nil)))) ?_
      refine o_bind ?_; intro p5 hp5
      refine o_bind ?_; intro x6 hx6
      refine f_op rfl rfl (s_callv happ rfl rfl hp5) ?_
      refine o_know 16 rfl (asB_eq hx6) ?_
      refine f_nil ?_
      refine f_if (fun h7 => ?_) (fun h7 => ?_)
      · skip
        refine f_know 16 rfl (bool_T h7) ?_
        refine f_condT rfl ?_
        refine f_seq ?_
        refine f_region ?_
        refine f_op rfl rfl (s_mv (v := .int .i64 v4) rfl) ?_
        refine f_op rfl rfl (s_as (v := .int .i64 v4) rfl) ?_
        refine f_nil ?_
        exact f_ret (.tmp rfl (.nil)) rfl
      · skip
        refine f_know 16 rfl (bool_F h7) ?_
        refine f_condF rfl ?_
        refine f_skip ?_
        refine f_inBlock ?_
        refine f_region ?_
        refine f_op rfl rfl (s_add rfl rfl) ?_
        refine f_op rfl rfl (s_mv (v := .int .i64 (w64 (v4 + 1))) rfl) ?_
        refine f_nil ?_
        refine f_inLoop ?_
        refine f_keep [0, 1, 7, 8] ?_
        exact ih v1 v2 v3 (w64 (v4 + 1)) p5.2
    · skip
      refine f_know 9 rfl (dec_false h1) ?_
      refine f_condF rfl ?_
      refine f_exit rfl ?_
      refine f_seq ?_
      refine f_region ?_
      refine f_op rfl rfl (s_as (v := .int .i64 (-1)) rfl) ?_
      refine f_nil ?_
      exact f_ret (.tmp rfl (.nil)) rfl

theorem sim112 {app : App} (happ : AppSim Try.prog app) {a0 : Sl} {a1 : AV} {H : Hp} {p : Int × Hp} (h : r112 app a0 a1 H = some p) : CallSim Try.prog 112 [.sl a0, a1] H (.int .i64 p.1) p.2 := by
  refine callSim (fn := Try.f112) (ret := ret112) Try.func112 rfl Try.ntmps112 rfl ?_ h
  unfold r112
  refine f_seq ?_
  refine f_region ?_
  refine f_op rfl rfl (s_as (v := .int .i64 0) rfl) ?_
  refine f_nil ?_
  refine f_seq ?_
  refine f_seq ?_
  refine f_region ?_
  refine f_op rfl rfl (s_mv (v := .sl a0) rfl) ?_
  refine f_op rfl rfl (s_lenS rfl Try.underlying44 rfl) ?_
  refine f_op rfl rfl (s_mv (v := .int .i64 0) rfl) ?_
  refine f_nil ?_
  refine f_block ?_
  refine f_loop ?_
  refine f_keep [0, 1, 7, 8] ?_
  exact s112_l0 happ FUEL a0 a1 (a0.len : Int) 0 H

/- 103 slices.ContainsFunc[[]congou/api.Frac,congou/api.Frac] -/
theorem ok103 : FnOk Try.prog 103 := ⟨⟨Try.f103, Try.func103, by kernel_rfl, rfl⟩⟩
theorem sim103 {app : App} (happ : AppSim Try.prog app) {a0 : Sl} {a1 : AV} {H : Hp} {p : Bool × Hp} (h : r103 app a0 a1 H = some p) : CallSim Try.prog 103 [.sl a0, a1] H (.bool p.1) p.2 := by
  refine callSim (fn := Try.f103) (ret := ret103) Try.func103 rfl Try.ntmps103 rfl ?_ h
  unfold r103
  refine f_seq ?_
  refine f_region ?_
  refine f_op rfl rfl (s_as (v := .bool false) rfl) ?_
  refine f_nil ?_
  refine f_seq ?_
  refine f_region ?_
  refine f_op rfl rfl (s_mv (v := .sl a0) rfl) ?_
  refine f_op rfl rfl (s_mv (v := a1) rfl) ?_
  refine o_bind ?_; intro p1 hp1
  refine f_op rfl rfl (s_callF rfl ok112 (sim112 happ hp1)) ?_
  refine f_op rfl rfl (s_geq rfl rfl) ?_
  refine f_op rfl rfl (s_as (v := .bool (decide (0 ≤ p1.1))) rfl) ?_
  refine f_nil ?_
  exact f_ret (.tmp rfl (.nil)) rfl

/- 104 (congou/cuts.plate).isMultipliers$1 -/
theorem ok104 : FnOk Try.prog 104 := ⟨⟨Try.f104, Try.func104, by kernel_rfl, rfl⟩⟩
theorem sim104 {a0_0 : Int} {a0_1 : Int} {H : Hp} {p : Bool × Hp} (h : r104 a0_0 a0_1 H = some p) : CallSim Try.prog 104 [.agg [.int .i64 a0_0, .int .i64 a0_1]] H (.bool p.1) p.2 := by
  refine callSim (fn := Try.f104) (ret := ret104) Try.func104 rfl Try.ntmps104 rfl ?_ h
  unfold r104
  refine f_seq ?_
  refine f_region ?_
  refine f_op rfl rfl (s_box (v := .agg [.int .i64 a0_0, .int .i64 a0_1]) rfl rfl) ?_
  refine f_op rfl rfl (s_as (v := .bool false) rfl) ?_
  refine o_hp ?_; intro H1 hH1
  refine f_nil ?_
  refine f_seq ?_
  refine f_region ?_
  refine o_bind ?_; intro x2 hx2
  refine o_bind ?_; intro x3 hx3
  refine f_op rfl rfl (s_loads Try.underlying24 rfl ty24 rfl (lds_cons (ldI_eq hx2) (lds_cons (ldI_eq hx3) (lds_nil)))) ?_
  refine o_bind ?_; intro p4 hp4
  refine f_op rfl rfl (s_callO rfl ok64 (sim64 hp4) rfl rfl) ?_
  refine f_op rfl rfl (s_not rfl) ?_
  refine f_op rfl rfl (s_as (v := .bool (!p4.1)) rfl) ?_
  refine f_nil ?_
  exact f_ret (.tmp rfl (.nil)) rfl

/- 76 (congou/cuts.plate).isMultipliers -/
theorem ok76 : FnOk Try.prog 76 := ⟨⟨Try.f76, Try.func76, by kernel_rfl, rfl⟩⟩
theorem sim76 {app : App} (happ : AppSim Try.prog app) {a0 : Sl} {a1 : Sl} {H : Hp} {p : Bool × Hp} (h : r76 app a0 a1 H = some p) : CallSim Try.prog 76 [.sl a0, .sl a1] H (.bool p.1) p.2 := by
  refine callSim (fn := Try.f76) (ret := ret76) Try.func76 rfl Try.ntmps76 rfl ?_ h
  unfold r76
  refine f_seq ?_
  refine f_region ?_
  refine f_op rfl rfl (s_as (v := .bool false) rfl) ?_
  refine f_nil ?_
  refine f_seq ?_
  refine f_region ?_
  refine f_op rfl rfl (s_mv (v := .sl a0) rfl) ?_
  refine o_bind ?_; intro p1 hp1
  refine f_op rfl rfl (s_callF rfl ok63 (sim63 happ hp1)) ?_
  refine f_op rfl rfl (s_mv (v := .bool p1.1) rfl) ?_
  refine o_if (fun h2 => ?_) (fun h2 => ?_)
  · skip
    refine o_know 7 rfl (bool_T h2) ?_
    refine f_op rfl rfl (s_mv (v := .sl a1) rfl) ?_
    refine f_op rfl rfl (s_lenS rfl Try.underlying44 rfl) ?_
    refine f_op rfl rfl (s_mv (v := .sl a0) rfl) ?_
    refine f_op rfl rfl (s_lenS rfl Try.underlying100 rfl) ?_
    refine f_op rfl rfl (s_eql rfl rfl) ?_
    refine f_op rfl rfl (s_pickT (v := .bool (decide ((a1.len : Int) = (a0.len : Int)))) rfl rfl) ?_
    refine f_op rfl rfl (s_mv (v := .bool (decide ((a1.len : Int) = (a0.len : Int)))) rfl) ?_
    refine o_if (fun h3 => ?_) (fun h3 => ?_)
    · skip
      refine o_know 14 rfl (dec_true h3) ?_
      refine f_op rfl rfl (s_mv (v := .sl a1) rfl) ?_
      refine o_bind ?_; intro p4 hp4
      refine f_op rfl rfl (s_callF rfl ok103 (sim103 happ hp4)) ?_
      refine f_op rfl rfl (s_not rfl) ?_
      refine f_op rfl rfl (s_pickT (v := .bool (!p4.1)) rfl rfl) ?_
      refine f_op rfl rfl (s_as (v := .bool (!p4.1)) rfl) ?_
      refine f_nil ?_
      exact f_ret (.tmp rfl (.nil)) rfl
    · skip
      refine o_know 14 rfl (dec_false h3) ?_
      refine f_no rfl rfl ?_
      refine f_no rfl rfl ?_
      refine f_no rfl rfl ?_
      refine f_op rfl rfl (s_pickF (v := .bool false) rfl rfl) ?_
      refine f_op rfl rfl (s_as (v := .bool false) rfl) ?_
      refine f_nil ?_
      exact f_ret (.tmp rfl (.nil)) rfl
  · skip
    refine o_know 7 rfl (bool_F h2) ?_
    refine f_no rfl rfl ?_
    refine f_no rfl rfl ?_
    refine f_no rfl rfl ?_
    refine f_no rfl rfl ?_
    refine f_no rfl rfl ?_
    refine f_op rfl rfl (s_pickF (v := .bool false) rfl rfl) ?_
    refine f_op rfl rfl (s_mv (v := .bool false) rfl) ?_
    refine f_no rfl rfl ?_
    refine f_no rfl rfl ?_
    refine f_no rfl rfl ?_
    refine f_op rfl rfl (s_pickF (v := .bool false) rfl rfl) ?_
    refine f_op rfl rfl (s_as (v := .bool false) rfl) ?_
    refine f_nil ?_
    exact f_ret (.tmp rfl (.nil)) rfl

end Go.Lt.P2
