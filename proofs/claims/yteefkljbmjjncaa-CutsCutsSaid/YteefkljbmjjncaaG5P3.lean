/- PRINTED BY A PROGRAM OF OURS: what each function that 'CutsCuts' reaches computes on the abstract heap, and that the translated code does just that. Nothing is asked of the input. -/
import Derived.Test.YteefkljbmjjncaaG5P2
set_option linter.unusedVariables false
set_option linter.unusedSimpArgs false
set_option maxRecDepth 100000
set_option maxHeartbeats 4000000
namespace Go.Lt.P2
open Go Go.Lt Go.Proofs
/- 30 congou/congouref02.Multipliers -/
theorem ok30 : FnOk Try.prog 30 := ⟨⟨Try.f30, Try.func30, by kernel_rfl, rfl⟩⟩
theorem s30_j1 (kt0 : Sl → Int → Sl → Int → Int → Hp → Option (Bool × Hp)) (hkt0 : ∀ (v1 : Sl) (v2 : Int) (v3 : Sl) (v4 : Int) (v5 : Int) (H : Hp), Fin Try.prog Try.f30 ret30 48 (todoAt (bodyOf Try.f30) [1, 0, 1, 0, 0] []) [(0, .sl v1), (1, .int .i64 v2), (7, .sl v3), (8, .int .i64 v4), (9, .int .i64 v5)] H (kt0 v1 v2 v3 v4 v5 H)) (v1 : Sl) (v2 : Int) (v3 : Sl) (v4 : Int) (v5 : Int) (v6 : Bool) (H : Hp) : Fin Try.prog Try.f30 ret30 48 (todoAt (bodyOf Try.f30) [1, 0, 1, 0, 0, 1, 1, 0, 0, 1, 1] []) [(0, .sl v1), (1, .int .i64 v2), (7, .sl v3), (8, .int .i64 v4), (9, .int .i64 v5), (42, .bool v6)] H (r30_j1 kt0 v1 v2 v3 v4 v5 v6 H) := by
  unfold r30_j1
  refine f_if (fun h1 => ?_) (fun h1 => ?_)
  · skip
    refine f_know 42 rfl (bool_T h1) ?_
    refine f_condT rfl ?_
    refine f_seq ?_
    refine f_region ?_
    refine f_op rfl rfl (s_as (v := .bool false) rfl) ?_
    refine f_nil ?_
    exact f_ret (.tmp rfl (.nil)) rfl
  · skip
    refine f_know 42 rfl (bool_F h1) ?_
    refine f_condF rfl ?_
    refine f_skip ?_
    refine f_inBlock ?_
    refine f_region ?_
    refine f_op rfl rfl (s_add rfl rfl) ?_
    refine f_op rfl rfl (s_mv (v := .int .i64 (w64 (v5 + 1))) rfl) ?_
    refine f_nil ?_
    refine f_inLoop ?_
    refine f_keep [0, 1, 7, 8, 9] ?_
    exact hkt0 v1 v2 v3 v4 (w64 (v5 + 1)) H

theorem s30_l0 : ∀ (k_ : Nat) (v1 : Sl) (v2 : Int) (v3 : Sl) (v4 : Int) (v5 : Int) (H : Hp), Fin Try.prog Try.f30 ret30 48 (todoAt (bodyOf Try.f30) [1, 0, 1, 0, 0] []) [(0, .sl v1), (1, .int .i64 v2), (7, .sl v3), (8, .int .i64 v4), (9, .int .i64 v5)] H (r30_l0 k_ v1 v2 v3 v4 v5 H) := by
  intro k_
  induction k_ with
  | zero => intro _ _ _ _ _ _; exact f_none
  | succ k_ ih =>
    intro v1 v2 v3 v4 v5 H
    rw [r30_l0]
    refine f_seq ?_
    refine f_region ?_
    refine f_op rfl rfl (s_lss rfl rfl) ?_
    refine f_nil ?_
    refine f_seq ?_
    refine f_if (fun h1 => ?_) (fun h1 => ?_)
    · skip
      refine f_know 10 rfl (dec_true h1) ?_
      refine f_condT rfl ?_
      refine f_skip ?_
      refine f_seq ?_
      refine f_block ?_
      refine f_seq ?_
      refine f_region ?_
      refine o_ck fun g2 => ?_
      refine f_op rfl rfl (s_idx Try.underlying44 ty24 rfl rfl g2) ?_
      refine o_bind ?_; intro x3 hx3
      refine o_bind ?_; intro x4 hx4
      refine f_op rfl rfl (s_loads Try.underlying24 rfl ty24 rfl (lds_cons (ldI_eq hx3) (lds_cons (ldI_eq hx4) (lds_nil)))) ?_
      refine f_op rfl rfl (s_alloc (zs := [.int .i64 0, .int .i64 0]) ty24 rfl rfl) ?_
      refine o_bind ?_; intro H5 hH5
      refine f_op rfl rfl (s_stores ty24 rfl rfl rfl rfl hH5 (Nat.le_of_eq (sts_mono hH5).symm)) ?_
      refine f_nil ?_
      refine f_seq ?_
      refine f_bind ?_; intro x6 hx6
      refine f_if (fun h7 => ?_) (fun h7 => ?_)
      · skip
        refine f_draw (Φ := fun _ => True) (lim := 1000000) [0, 1, 0, 0, 0, 0, 0, 0, 0, 0, 0, 0, 0, 0, 0, 0, 0, 0, 0, 0, 0, 0, 0, 0, 0, 0, 0, 0, 0, 0] (Trc.pure rfl rfl rfl (.inl fun _ => s_fieldAddr Try.underlying24 rfl ty3 rfl) (Trc.read rfl rfl rfl (s_load Try.underlying3 rfl rfl (ldI_eq hx6)) (Trc.pure rfl rfl rfl (.inl fun _ => s_lss rfl rfl) (Trc.pure rfl rfl rfl (.inl fun _ => s_mv (v := .bool (decide (x6 < 1))) rfl) (Trc.know 16 rfl (dec_true h7) (Trc.no rfl rfl rfl (Trc.no rfl rfl rfl (Trc.no rfl rfl rfl (Trc.pure rfl rfl rfl (.inl fun _ => s_pickT (v := .bool true) rfl rfl) (Trc.pure rfl rfl rfl (.inl fun _ => s_mv (v := .bool true) rfl) (Trc.no rfl rfl rfl (Trc.no rfl rfl rfl (Trc.no rfl rfl rfl (Trc.pure rfl rfl rfl (.inl fun _ => s_pickT (v := .bool true) rfl rfl) (Trc.pure rfl rfl rfl (.inl fun _ => s_mv (v := .bool true) rfl) (Trc.no rfl rfl rfl (Trc.no rfl rfl rfl (Trc.no rfl rfl rfl (Trc.no rfl rfl rfl (Trc.no rfl rfl rfl (Trc.no rfl rfl rfl (Trc.pure rfl rfl rfl (.inl fun _ => s_pickT (v := .bool true) rfl rfl) (Trc.pure rfl rfl rfl (.inl fun _ => s_mv (v := .bool true) rfl) (Trc.no rfl rfl rfl (Trc.no rfl rfl rfl (Trc.no rfl rfl rfl (Trc.no rfl rfl rfl (Trc.no rfl rfl rfl (Trc.no rfl rfl rfl (Trc.no rfl rfl rfl (Trc.pure rfl rfl rfl (.inl fun _ => s_pickT (v := .bool true) rfl rfl) (Trc.nil (fun _ => trivial))))))))))))))))))))))))))))))))) rfl (by decide +kernel) mixed ?_
        refine f_keep [0, 1, 7, 8, 9, 42] ?_
        exact s30_j1 _ (fun v1_ v2_ v3_ v4_ v5_ H_ => ih v1_ v2_ v3_ v4_ v5_ H_) v1 v2 v3 v4 v5 true H5
      · skip
        refine f_bind ?_; intro x8 hx8
        refine f_if (fun h9 => ?_) (fun h9 => ?_)
        · skip
          refine f_draw (Φ := fun _ => True) (lim := 1000000) [0, 1, 0, 0, 0, 1, 0, 0, 0, 0, 0, 0, 0, 0, 0, 0, 0, 0, 0, 0, 0, 0, 0, 0, 0, 0, 0, 0, 0, 0] (Trc.pure rfl rfl rfl (.inl fun _ => s_fieldAddr Try.underlying24 rfl ty3 rfl) (Trc.read rfl rfl rfl (s_load Try.underlying3 rfl rfl (ldI_eq hx6)) (Trc.pure rfl rfl rfl (.inl fun _ => s_lss rfl rfl) (Trc.pure rfl rfl rfl (.inl fun _ => s_mv (v := .bool (decide (x6 < 1))) rfl) (Trc.know 16 rfl (dec_false h7) (Trc.pure rfl rfl rfl (.inl fun _ => s_fieldAddr Try.underlying24 rfl ty3 rfl) (Trc.read rfl rfl rfl (s_load Try.underlying3 rfl rfl (ldI_eq hx8)) (Trc.pure rfl rfl rfl (.inl fun _ => s_gtr rfl rfl) (Trc.pure rfl rfl rfl (.inl fun _ => s_pickF (v := .bool (decide (100 < x8))) rfl rfl) (Trc.pure rfl rfl rfl (.inl fun _ => s_mv (v := .bool (decide (100 < x8))) rfl) (Trc.know 21 rfl (dec_true h9) (Trc.no rfl rfl rfl (Trc.no rfl rfl rfl (Trc.no rfl rfl rfl (Trc.pure rfl rfl rfl (.inl fun _ => s_pickT (v := .bool true) rfl rfl) (Trc.pure rfl rfl rfl (.inl fun _ => s_mv (v := .bool true) rfl) (Trc.no rfl rfl rfl (Trc.no rfl rfl rfl (Trc.no rfl rfl rfl (Trc.no rfl rfl rfl (Trc.no rfl rfl rfl (Trc.no rfl rfl rfl (Trc.pure rfl rfl rfl (.inl fun _ => s_pickT (v := .bool true) rfl rfl) (Trc.pure rfl rfl rfl (.inl fun _ => s_mv (v := .bool true) rfl) (Trc.no rfl rfl rfl (Trc.no rfl rfl rfl (Trc.no rfl rfl rfl (Trc.no rfl rfl rfl (Trc.no rfl rfl rfl (Trc.no rfl rfl rfl (Trc.no rfl rfl rfl (Trc.pure rfl rfl rfl (.inl fun _ => s_pickT (v := .bool true) rfl rfl) (Trc.nil (fun _ => trivial)))))))))))))))))))))))))))))))))) rfl (by decide +kernel) mixed ?_
          refine f_keep [0, 1, 7, 8, 9, 42] ?_
          exact s30_j1 _ (fun v1_ v2_ v3_ v4_ v5_ H_ => ih v1_ v2_ v3_ v4_ v5_ H_) v1 v2 v3 v4 v5 true H5
        · skip
          refine f_bind ?_; intro x10 hx10
          refine f_if (fun h11 => ?_) (fun h11 => ?_)
          · skip
            refine f_draw (Φ := fun _ => True) (lim := 1000000) [0, 1, 0, 0, 0, 1, 0, 0, 0, 0, 1, 0, 0, 0, 0, 0, 0, 0, 0, 0, 0, 0, 0, 0, 0, 0, 0, 0, 0, 0] (Trc.pure rfl rfl rfl (.inl fun _ => s_fieldAddr Try.underlying24 rfl ty3 rfl) (Trc.read rfl rfl rfl (s_load Try.underlying3 rfl rfl (ldI_eq hx6)) (Trc.pure rfl rfl rfl (.inl fun _ => s_lss rfl rfl) (Trc.pure rfl rfl rfl (.inl fun _ => s_mv (v := .bool (decide (x6 < 1))) rfl) (Trc.know 16 rfl (dec_false h7) (Trc.pure rfl rfl rfl (.inl fun _ => s_fieldAddr Try.underlying24 rfl ty3 rfl) (Trc.read rfl rfl rfl (s_load Try.underlying3 rfl rfl (ldI_eq hx8)) (Trc.pure rfl rfl rfl (.inl fun _ => s_gtr rfl rfl) (Trc.pure rfl rfl rfl (.inl fun _ => s_pickF (v := .bool (decide (100 < x8))) rfl rfl) (Trc.pure rfl rfl rfl (.inl fun _ => s_mv (v := .bool (decide (100 < x8))) rfl) (Trc.know 21 rfl (dec_false h9) (Trc.pure rfl rfl rfl (.inl fun _ => s_fieldAddr Try.underlying24 rfl ty3 rfl) (Trc.read rfl rfl rfl (s_load Try.underlying3 rfl rfl (ldI_eq hx10)) (Trc.pure rfl rfl rfl (.inl fun _ => s_lss rfl rfl) (Trc.pure rfl rfl rfl (.inl fun _ => s_pickF (v := .bool (decide (x10 < 0))) rfl rfl) (Trc.pure rfl rfl rfl (.inl fun _ => s_mv (v := .bool (decide (x10 < 0))) rfl) (Trc.know 26 rfl (dec_true h11) (Trc.no rfl rfl rfl (Trc.no rfl rfl rfl (Trc.no rfl rfl rfl (Trc.no rfl rfl rfl (Trc.no rfl rfl rfl (Trc.no rfl rfl rfl (Trc.pure rfl rfl rfl (.inl fun _ => s_pickT (v := .bool true) rfl rfl) (Trc.pure rfl rfl rfl (.inl fun _ => s_mv (v := .bool true) rfl) (Trc.no rfl rfl rfl (Trc.no rfl rfl rfl (Trc.no rfl rfl rfl (Trc.no rfl rfl rfl (Trc.no rfl rfl rfl (Trc.no rfl rfl rfl (Trc.no rfl rfl rfl (Trc.pure rfl rfl rfl (.inl fun _ => s_pickT (v := .bool true) rfl rfl) (Trc.nil (fun _ => trivial))))))))))))))))))))))))))))))))))) rfl (by decide +kernel) mixed ?_
            refine f_keep [0, 1, 7, 8, 9, 42] ?_
            exact s30_j1 _ (fun v1_ v2_ v3_ v4_ v5_ H_ => ih v1_ v2_ v3_ v4_ v5_ H_) v1 v2 v3 v4 v5 true H5
          · skip
            refine f_bind ?_; intro x12 hx12
            refine f_bind ?_; intro x13 hx13
            refine f_if (fun h14 => ?_) (fun h14 => ?_)
            · skip
              refine f_draw (Φ := fun _ => True) (lim := 1000000) [0, 1, 0, 0, 0, 1, 0, 0, 0, 0, 1, 0, 0, 0, 0, 1, 0, 1, 0, 0, 0, 0, 0, 0, 0, 0, 0, 0, 0, 0] (Trc.pure rfl rfl rfl (.inl fun _ => s_fieldAddr Try.underlying24 rfl ty3 rfl) (Trc.read rfl rfl rfl (s_load Try.underlying3 rfl rfl (ldI_eq hx6)) (Trc.pure rfl rfl rfl (.inl fun _ => s_lss rfl rfl) (Trc.pure rfl rfl rfl (.inl fun _ => s_mv (v := .bool (decide (x6 < 1))) rfl) (Trc.know 16 rfl (dec_false h7) (Trc.pure rfl rfl rfl (.inl fun _ => s_fieldAddr Try.underlying24 rfl ty3 rfl) (Trc.read rfl rfl rfl (s_load Try.underlying3 rfl rfl (ldI_eq hx8)) (Trc.pure rfl rfl rfl (.inl fun _ => s_gtr rfl rfl) (Trc.pure rfl rfl rfl (.inl fun _ => s_pickF (v := .bool (decide (100 < x8))) rfl rfl) (Trc.pure rfl rfl rfl (.inl fun _ => s_mv (v := .bool (decide (100 < x8))) rfl) (Trc.know 21 rfl (dec_false h9) (Trc.pure rfl rfl rfl (.inl fun _ => s_fieldAddr Try.underlying24 rfl ty3 rfl) (Trc.read rfl rfl rfl (s_load Try.underlying3 rfl rfl (ldI_eq hx10)) (Trc.pure rfl rfl rfl (.inl fun _ => s_lss rfl rfl) (Trc.pure rfl rfl rfl (.inl fun _ => s_pickF (v := .bool (decide (x10 < 0))) rfl rfl) (Trc.pure rfl rfl rfl (.inl fun _ => s_mv (v := .bool (decide (x10 < 0))) rfl) (Trc.know 26 rfl (dec_false h11) (Trc.pure rfl rfl rfl (.inl fun _ => s_fieldAddr Try.underlying24 rfl ty3 rfl) (Trc.read rfl rfl rfl (s_load Try.underlying3 rfl rfl (ldI_eq hx12)) (Trc.pure rfl rfl rfl (.inl fun _ => s_fieldAddr Try.underlying24 rfl ty3 rfl) (Trc.read rfl rfl rfl (s_load Try.underlying3 rfl rfl (ldI_eq hx13)) (Trc.pure rfl rfl rfl (.inl fun _ => s_mul rfl rfl) (Trc.pure rfl rfl rfl (.inl fun _ => s_gtr rfl rfl) (Trc.pure rfl rfl rfl (.inl fun _ => s_pickF (v := .bool (decide ((w64 (100 * x13)) < x12))) rfl rfl) (Trc.pure rfl rfl rfl (.inl fun _ => s_mv (v := .bool (decide ((w64 (100 * x13)) < x12))) rfl) (Trc.know 34 rfl (dec_true h14) (Trc.no rfl rfl rfl (Trc.no rfl rfl rfl (Trc.no rfl rfl rfl (Trc.no rfl rfl rfl (Trc.no rfl rfl rfl (Trc.no rfl rfl rfl (Trc.no rfl rfl rfl (Trc.pure rfl rfl rfl (.inl fun _ => s_pickT (v := .bool true) rfl rfl) (Trc.nil (fun _ => trivial)))))))))))))))))))))))))))))))))))) rfl (by decide +kernel) mixed ?_
              refine f_keep [0, 1, 7, 8, 9, 42] ?_
              exact s30_j1 _ (fun v1_ v2_ v3_ v4_ v5_ H_ => ih v1_ v2_ v3_ v4_ v5_ H_) v1 v2 v3 v4 v5 true H5
            · skip
              refine f_bind ?_; intro x15 hx15
              refine f_bind ?_; intro x16 hx16
              refine f_bind ?_; intro p17 hp17
              refine f_bind ?_; intro x18 hx18
              refine f_bind ?_; intro x19 hx19
              refine f_draw (Φ := fun _ => True) (lim := 1000000) [0, 1, 0, 0, 0, 1, 0, 0, 0, 0, 1, 0, 0, 0, 0, 1, 0, 1, 0, 0, 0, 0, 0, 1, 0, 1, 0, 1, 0, 0] (Trc.pure rfl rfl rfl (.inl fun _ => s_fieldAddr Try.underlying24 rfl ty3 rfl) (Trc.read rfl rfl rfl (s_load Try.underlying3 rfl rfl (ldI_eq hx6)) (Trc.pure rfl rfl rfl (.inl fun _ => s_lss rfl rfl) (Trc.pure rfl rfl rfl (.inl fun _ => s_mv (v := .bool (decide (x6 < 1))) rfl) (Trc.know 16 rfl (dec_false h7) (Trc.pure rfl rfl rfl (.inl fun _ => s_fieldAddr Try.underlying24 rfl ty3 rfl) (Trc.read rfl rfl rfl (s_load Try.underlying3 rfl rfl (ldI_eq hx8)) (Trc.pure rfl rfl rfl (.inl fun _ => s_gtr rfl rfl) (Trc.pure rfl rfl rfl (.inl fun _ => s_pickF (v := .bool (decide (100 < x8))) rfl rfl) (Trc.pure rfl rfl rfl (.inl fun _ => s_mv (v := .bool (decide (100 < x8))) rfl) (Trc.know 21 rfl (dec_false h9) (Trc.pure rfl rfl rfl (.inl fun _ => s_fieldAddr Try.underlying24 rfl ty3 rfl) (Trc.read rfl rfl rfl (s_load Try.underlying3 rfl rfl (ldI_eq hx10)) (Trc.pure rfl rfl rfl (.inl fun _ => s_lss rfl rfl) (Trc.pure rfl rfl rfl (.inl fun _ => s_pickF (v := .bool (decide (x10 < 0))) rfl rfl) (Trc.pure rfl rfl rfl (.inl fun _ => s_mv (v := .bool (decide (x10 < 0))) rfl) (Trc.know 26 rfl (dec_false h11) (Trc.pure rfl rfl rfl (.inl fun _ => s_fieldAddr Try.underlying24 rfl ty3 rfl) (Trc.read rfl rfl rfl (s_load Try.underlying3 rfl rfl (ldI_eq hx12)) (Trc.pure rfl rfl rfl (.inl fun _ => s_fieldAddr Try.underlying24 rfl ty3 rfl) (Trc.read rfl rfl rfl (s_load Try.underlying3 rfl rfl (ldI_eq hx13)) (Trc.pure rfl rfl rfl (.inl fun _ => s_mul rfl rfl) (Trc.pure rfl rfl rfl (.inl fun _ => s_gtr rfl rfl) (Trc.pure rfl rfl rfl (.inl fun _ => s_pickF (v := .bool (decide ((w64 (100 * x13)) < x12))) rfl rfl) (Trc.pure rfl rfl rfl (.inl fun _ => s_mv (v := .bool (decide ((w64 (100 * x13)) < x12))) rfl) (Trc.know 34 rfl (dec_false h14) (Trc.pure rfl rfl rfl (.inl fun _ => s_fieldAddr Try.underlying24 rfl ty3 rfl) (Trc.read rfl rfl rfl (s_load Try.underlying3 rfl rfl (ldI_eq hx15)) (Trc.pure rfl rfl rfl (.inl fun _ => s_fieldAddr Try.underlying24 rfl ty3 rfl) (Trc.read rfl rfl rfl (s_load Try.underlying3 rfl rfl (ldI_eq hx16)) (Trc.pure rfl rfl rfl (.inl fun _ => s_callO rfl ok56 (sim56 hp17) rfl rfl) (Trc.read rfl rfl rfl (s_loads Try.underlying24 rfl ty24 rfl (lds_cons (ldI_eq hx18) (lds_cons (ldI_eq hx19) (lds_nil)))) (Trc.pure rfl rfl rfl (.inl fun _ => s_neAgg eg24 rfl rfl (eq2 Try.underlying24 Try.underlying3 Try.underlying3 (by decide) (by decide) rfl rfl sih24 p17.1.1 p17.1.2 x18 x19)) (Trc.pure rfl rfl rfl (.inl fun _ => s_pickF (v := .bool (!((p17.1.1 == x18) && (p17.1.2 == x19)))) rfl rfl) (Trc.nil (fun _ => trivial)))))))))))))))))))))))))))))))))))) rfl (by decide +kernel) mixed ?_
              refine f_keep [0, 1, 7, 8, 9, 42] ?_
              exact s30_j1 _ (fun v1_ v2_ v3_ v4_ v5_ H_ => ih v1_ v2_ v3_ v4_ v5_ H_) v1 v2 v3 v4 v5 (!((p17.1.1 == x18) && (p17.1.2 == x19))) H5
    · skip
      refine f_know 10 rfl (dec_false h1) ?_
      refine f_condF rfl ?_
      refine f_exit rfl ?_
      refine f_seq ?_
      refine f_region ?_
      refine f_op rfl rfl (s_mv (v := .sl v1) rfl) ?_
      refine f_op rfl rfl (s_lenS rfl Try.underlying44 rfl) ?_
      refine f_op rfl rfl (s_mv (v := .int .i64 v2) rfl) ?_
      refine f_op rfl rfl (s_eql rfl rfl) ?_
      refine f_op rfl rfl (s_as (v := .bool (decide ((v1.len : Int) = v2))) rfl) ?_
      refine f_nil ?_
      exact f_ret (.tmp rfl (.nil)) rfl

theorem sim30 {a0 : Sl} {a1 : Int} {H : Hp} {p : Bool × Hp} (h : r30 a0 a1 H = some p) : CallSim Try.prog 30 [.sl a0, .int .i64 a1] H (.bool p.1) p.2 := by
  refine callSim (fn := Try.f30) (ret := ret30) Try.func30 rfl Try.ntmps30 rfl ?_ h
  unfold r30
  refine f_seq ?_
  refine f_region ?_
  refine f_op rfl rfl (s_as (v := .bool false) rfl) ?_
  refine f_nil ?_
  refine f_seq ?_
  refine f_seq ?_
  refine f_region ?_
  refine f_op rfl rfl (s_mv (v := .sl a0) rfl) ?_
  refine f_op rfl rfl (s_lenS rfl Try.underlying44 rfl) ?_
  refine f_op rfl rfl (s_mv (v := .int .i64 0) rfl) ?_
  refine f_nil ?_
  refine f_block ?_
  refine f_loop ?_
  refine f_keep [0, 1, 7, 8, 9] ?_
  exact s30_l0 FUEL a0 a1 a0 (a0.len : Int) 0 H

/- 61 congou/congouref02.Floor -/
theorem ok61 : FnOk Try.prog 61 := ⟨⟨Try.f61, Try.func61, by kernel_rfl, rfl⟩⟩
theorem sim61 {a0_0 : Int} {a0_1 : Int} {H : Hp} {p : Int × Hp} (h : r61 a0_0 a0_1 H = some p) : CallSim Try.prog 61 [.agg [.int .i64 a0_0, .int .i64 a0_1]] H (.int .i64 p.1) p.2 := by
  refine callSim (fn := Try.f61) (ret := ret61) Try.func61 rfl Try.ntmps61 rfl ?_ h
  unfold r61
  refine f_seq ?_
  refine f_region ?_
  refine f_op rfl rfl (s_box (v := .agg [.int .i64 a0_0, .int .i64 a0_1]) rfl rfl) ?_
  refine f_op rfl rfl (s_as (v := .int .i64 0) rfl) ?_
  refine o_hp ?_; intro H1 hH1
  refine f_nil ?_
  refine f_seq ?_
  refine f_region ?_
  refine f_op rfl rfl (s_fieldAddr Try.underlying24 rfl ty3 rfl) ?_
  refine o_bind ?_; intro x2 hx2
  refine f_op rfl rfl (s_load Try.underlying3 rfl rfl (ldI_eq hx2)) ?_
  refine f_op rfl rfl (s_fieldAddr Try.underlying24 rfl ty3 rfl) ?_
  refine o_bind ?_; intro x3 hx3
  refine f_op rfl rfl (s_load Try.underlying3 rfl rfl (ldI_eq hx3)) ?_
  refine o_ck fun g4 => ?_
  refine f_op rfl rfl (s_quo rfl rfl g4) ?_
  refine f_op rfl rfl (s_as (v := .int .i64 (w64 (Int.tdiv x2 x3))) rfl) ?_
  refine f_nil ?_
  refine f_seq ?_
  refine f_seq ?_
  refine f_region ?_
  refine f_op rfl rfl (s_mv (v := .int .i64 (w64 (Int.tdiv x2 x3))) rfl) ?_
  refine f_op rfl rfl (s_fieldAddr Try.underlying24 rfl ty3 rfl) ?_
  refine o_bind ?_; intro x5 hx5
  refine f_op rfl rfl (s_load Try.underlying3 rfl rfl (ldI_eq hx5)) ?_
  refine f_op rfl rfl (s_mul rfl rfl) ?_
  refine f_op rfl rfl (s_fieldAddr Try.underlying24 rfl ty3 rfl) ?_
  refine o_bind ?_; intro x6 hx6
  refine f_op rfl rfl (s_load Try.underlying3 rfl rfl (ldI_eq hx6)) ?_
  refine f_op rfl rfl (s_gtr rfl rfl) ?_
  refine f_nil ?_
  refine f_if (fun h7 => ?_) (fun h7 => ?_)
  · skip
    refine f_know 15 rfl (dec_true h7) ?_
    refine f_condT rfl ?_
    refine f_region ?_
    refine f_op rfl rfl (s_mv (v := .int .i64 (w64 (Int.tdiv x2 x3))) rfl) ?_
    refine f_op rfl rfl (s_sub rfl rfl) ?_
    refine f_op rfl rfl (s_as (v := .int .i64 (w64 ((w64 (Int.tdiv x2 x3)) - 1))) rfl) ?_
    refine f_nil ?_
    refine f_seq ?_
    refine f_region ?_
    refine f_op rfl rfl (s_mv (v := .int .i64 (w64 ((w64 (Int.tdiv x2 x3)) - 1))) rfl) ?_
    refine f_op rfl rfl (s_as (v := .int .i64 (w64 ((w64 (Int.tdiv x2 x3)) - 1))) rfl) ?_
    refine f_nil ?_
    exact f_ret (.tmp rfl (.nil)) rfl
  · skip
    refine f_know 15 rfl (dec_false h7) ?_
    refine f_condF rfl ?_
    refine f_skip ?_
    refine f_seq ?_
    refine f_region ?_
    refine f_op rfl rfl (s_mv (v := .int .i64 (w64 (Int.tdiv x2 x3))) rfl) ?_
    refine f_op rfl rfl (s_as (v := .int .i64 (w64 (Int.tdiv x2 x3))) rfl) ?_
    refine f_nil ?_
    exact f_ret (.tmp rfl (.nil)) rfl

/- 31 congou/congouref02.Cut -/
theorem ok31 : FnOk Try.prog 31 := ⟨⟨Try.f31, Try.func31, by kernel_rfl, rfl⟩⟩
theorem s31_j2 (v1 : Nat) (v2 : Int) (v3 : Nat) (v4 : Bool) (H : Hp) : Fin Try.prog Try.f31 ret31 112 (todoAt (bodyOf Try.f31) [1, 1, 1, 1, 1, 0, 1] []) [(4, .ptr v1 0), (6, .int .i64 v2), (9, .ptr v3 0), (96, .bool v4)] H (r31_j2 v1 v2 v3 v4 H) := by
  unfold r31_j2
  refine f_if (fun h1 => ?_) (fun h1 => ?_)
  · skip
    refine f_know 96 rfl (bool_T h1) ?_
    refine f_condT rfl ?_
    refine f_seq ?_
    refine f_region ?_
    refine f_op rfl rfl (s_build (cs := [.int .i64 0, .int .i64 0, .int .i64 0]) Try.underlying46 ty46 rfl pl46 rfl) ?_
    refine o_bind ?_; intro H2 hH2
    refine f_op rfl rfl (s_stores ty46 rfl rfl rfl rfl hH2 (Nat.le_of_eq (sts_mono hH2).symm)) ?_
    refine f_op rfl rfl (s_as (v := .int .i64 4) rfl) ?_
    refine f_nil ?_
    refine f_bind ?_; intro x3 hx3
    refine f_bind ?_; intro x4 hx4
    refine f_bind ?_; intro x5 hx5
    exact f_ret (.cells Try.underlying46 rfl sz46 rfl (lds_cons (ldI_eq hx3) (lds_cons (ldI_eq hx4) (lds_cons (ldI_eq hx5) (lds_nil)))) (.tmp rfl (.nil))) rfl
  · skip
    refine f_know 96 rfl (bool_F h1) ?_
    refine f_condF rfl ?_
    refine f_skip ?_
    refine f_seq ?_
    refine f_bind ?_; intro x6 hx6
    refine f_ck fun g7 => ?_
    refine f_bind ?_; intro x8 hx8
    refine f_ck fun g9 => ?_
    refine f_bind ?_; intro x10 hx10
    refine f_bind ?_; intro p11 hp11
    refine f_bind ?_; intro p12 hp12
    refine f_bind ?_; intro H13 hH13
    refine f_draw (Φ := fun _ => True) (lim := 1000000) [0, 1, 0, 0, 0, 1, 0, 0, 0, 1, 0, 0, 0, 0, 2, 0] (Trc.pure rfl rfl rfl (.inl fun _ => s_fieldAddr Try.underlying46 rfl ty3 rfl) (Trc.read rfl rfl rfl (s_load Try.underlying3 rfl rfl (ldI_eq hx6)) (Trc.pure rfl rfl rfl (.inl fun _ => s_mv (v := .int .i64 v2) rfl) (Trc.pure rfl rfl rfl (.inl fun _ => s_quo rfl rfl g7) (Trc.pure rfl rfl rfl (.inl fun _ => s_fieldAddr Try.underlying46 rfl ty3 rfl) (Trc.read rfl rfl rfl (s_load Try.underlying3 rfl rfl (ldI_eq hx8)) (Trc.pure rfl rfl rfl (.inl fun _ => s_mv (v := .int .i64 v2) rfl) (Trc.pure rfl rfl rfl (.inl fun _ => s_quo rfl rfl g9) (Trc.pure rfl rfl rfl (.inl fun _ => s_fieldAddr Try.underlying46 rfl ty3 rfl) (Trc.read rfl rfl rfl (s_load Try.underlying3 rfl rfl (ldI_eq hx10)) (Trc.pure rfl rfl rfl (.inl fun _ => s_mv (v := .int .i64 v2) rfl) (Trc.pure rfl rfl rfl (.inl fun _ => s_callO rfl ok56 (sim56 hp11) rfl rfl) (Trc.pure rfl rfl rfl (.inl fun _ => s_callO rfl ok61 (sim61 hp12) rfl rfl) (Trc.pure rfl rfl rfl (.inl fun _ => s_build (cs := [.int .i64 (w64 (Int.tdiv x6 v2)), .int .i64 (w64 (Int.tdiv x8 v2)), .int .i64 p12.1]) Try.underlying46 ty46 rfl pl46 rfl) (Trc.eff rfl rfl rfl (fun _ => trivial) (s_stores ty46 rfl rfl rfl rfl hH13 (Nat.le_of_eq (sts_mono hH13).symm)) (Trc.pure rfl rfl rfl (.inl fun _ => s_as (v := .int .i64 0) rfl) (Trc.nil (fun _ => trivial)))))))))))))))))) rfl (by decide +kernel) mixed ?_
    refine f_bind ?_; intro x14 hx14
    refine f_bind ?_; intro x15 hx15
    refine f_bind ?_; intro x16 hx16
    exact f_ret (.cells Try.underlying46 rfl sz46 rfl (lds_cons (ldI_eq hx14) (lds_cons (ldI_eq hx15) (lds_cons (ldI_eq hx16) (lds_nil)))) (.tmp rfl (.nil))) rfl

theorem s31_l1 : ∀ (k_ : Nat) (v1 : Sl) (v2 : Nat) (v3 : Int) (v4 : Nat) (v5 : Sl) (v6 : Int) (v7 : Int) (H : Hp), Fin Try.prog Try.f31 ret31 112 (todoAt (bodyOf Try.f31) [1, 1, 1, 1, 0, 1, 0, 0] []) [(0, .sl v1), (4, .ptr v2 0), (6, .int .i64 v3), (9, .ptr v4 0), (27, .sl v5), (28, .int .i64 v6), (29, .int .i64 v7)] H (r31_l1 k_ v1 v2 v3 v4 v5 v6 v7 H) := by
  intro k_
  induction k_ with
  | zero => intro _ _ _ _ _ _ _ _; exact f_none
  | succ k_ ih =>
    intro v1 v2 v3 v4 v5 v6 v7 H
    rw [r31_l1]
    refine f_seq ?_
    refine f_region ?_
    refine f_op rfl rfl (s_lss rfl rfl) ?_
    refine f_nil ?_
    refine f_seq ?_
    refine f_if (fun h1 => ?_) (fun h1 => ?_)
    · skip
      refine f_know 30 rfl (dec_true h1) ?_
      refine f_condT rfl ?_
      refine f_skip ?_
      refine f_seq ?_
      refine f_block ?_
      refine f_seq ?_
      refine f_region ?_
      refine f_op rfl rfl (s_mv (v := .int .i64 v7) rfl) ?_
      refine o_ck fun g2 => ?_
      refine f_op rfl rfl (s_idx Try.underlying44 ty24 rfl rfl g2) ?_
      refine o_bind ?_; intro x3 hx3
      refine o_bind ?_; intro x4 hx4
      refine f_op rfl rfl (s_loads Try.underlying24 rfl ty24 rfl (lds_cons (ldI_eq hx3) (lds_cons (ldI_eq hx4) (lds_nil)))) ?_
      refine f_op rfl rfl (s_alloc (zs := [.int .i64 0, .int .i64 0]) ty24 rfl rfl) ?_
      refine f_op rfl rfl (s_as (v := .int .i64 v7) rfl) ?_
      refine o_bind ?_; intro H5 hH5
      refine f_op rfl rfl (s_stores ty24 rfl rfl rfl rfl hH5 (Nat.le_of_eq (sts_mono hH5).symm)) ?_
      refine f_nil ?_
      refine f_seq ?_
      refine f_bind ?_; intro x6 hx6
      refine f_ck fun g7 => ?_
      refine f_bind ?_; intro x8 hx8
      refine f_draw (Φ := fun _ => True) (lim := 1000000) [0, 0, 1, 0, 0, 1, 0, 0] (Trc.pure rfl rfl rfl (.inl fun _ => s_mv (v := .int .i64 v3) rfl) (Trc.pure rfl rfl rfl (.inl fun _ => s_fieldAddr Try.underlying24 rfl ty3 rfl) (Trc.read rfl rfl rfl (s_load Try.underlying3 rfl rfl (ldI_eq hx6)) (Trc.pure rfl rfl rfl (.inl fun _ => s_quo rfl rfl g7) (Trc.pure rfl rfl rfl (.inl fun _ => s_fieldAddr Try.underlying24 rfl ty3 rfl) (Trc.read rfl rfl rfl (s_load Try.underlying3 rfl rfl (ldI_eq hx8)) (Trc.pure rfl rfl rfl (.inl fun _ => s_mul rfl rfl) (Trc.pure rfl rfl rfl (.inl fun _ => s_as (v := .int .i64 (w64 ((w64 (Int.tdiv v3 x6)) * x8))) rfl) (Trc.nil (fun _ => trivial)))))))))) rfl (by decide +kernel) mixed ?_
      refine f_seq ?_
      refine f_bind ?_; intro x9 hx9
      refine f_ck fun g10 => ?_
      refine f_bind ?_; intro x11 hx11
      refine f_bind ?_; intro H12 hH12
      refine f_draw (Φ := fun _ => True) (lim := 1000000) [0, 1, 0, 0, 0, 0, 0, 1, 0, 0, 0, 2] (Trc.pure rfl rfl rfl (.inl fun _ => s_fieldAddr Try.underlying46 rfl ty3 rfl) (Trc.read rfl rfl rfl (s_load Try.underlying3 rfl rfl (ldI_eq hx9)) (Trc.pure rfl rfl rfl (.inl fun _ => s_mv (v := .int .i64 (w64 ((w64 (Int.tdiv v3 x6)) * x8))) rfl) (Trc.pure rfl rfl rfl (.inl fun _ => s_mv (v := .sl v1) rfl) (Trc.pure rfl rfl rfl (.inl fun _ => s_mv (v := .int .i64 v7) rfl) (Trc.pure rfl rfl rfl (.inl fun _ => s_idx Try.underlying22 ty46 rfl rfl g10) (Trc.pure rfl rfl rfl (.inl fun _ => s_fieldAddr Try.underlying46 rfl ty3 rfl) (Trc.read rfl rfl rfl (s_load Try.underlying3 rfl rfl (ldI_eq hx11)) (Trc.pure rfl rfl rfl (.inl fun _ => s_mul rfl rfl) (Trc.pure rfl rfl rfl (.inl fun _ => s_add rfl rfl) (Trc.pure rfl rfl rfl (.inl fun _ => s_fieldAddr Try.underlying46 rfl ty3 rfl) (Trc.eff rfl rfl rfl (fun _ => trivial) (s_store (s := 1) ty3 rfl rfl rfl hH12) (Trc.nil (fun _ => trivial)))))))))))))) rfl (by decide +kernel) mixed ?_
      refine f_seq ?_
      refine f_bind ?_; intro x13 hx13
      refine f_ck fun g14 => ?_
      refine f_bind ?_; intro x15 hx15
      refine f_bind ?_; intro H16 hH16
      refine f_draw (Φ := fun _ => True) (lim := 1000000) [0, 1, 0, 0, 0, 0, 0, 1, 0, 0, 0, 2] (Trc.pure rfl rfl rfl (.inl fun _ => s_fieldAddr Try.underlying46 rfl ty3 rfl) (Trc.read rfl rfl rfl (s_load Try.underlying3 rfl rfl (ldI_eq hx13)) (Trc.pure rfl rfl rfl (.inl fun _ => s_mv (v := .int .i64 (w64 ((w64 (Int.tdiv v3 x6)) * x8))) rfl) (Trc.pure rfl rfl rfl (.inl fun _ => s_mv (v := .sl v1) rfl) (Trc.pure rfl rfl rfl (.inl fun _ => s_mv (v := .int .i64 v7) rfl) (Trc.pure rfl rfl rfl (.inl fun _ => s_idx Try.underlying22 ty46 rfl rfl g14) (Trc.pure rfl rfl rfl (.inl fun _ => s_fieldAddr Try.underlying46 rfl ty3 rfl) (Trc.read rfl rfl rfl (s_load Try.underlying3 rfl rfl (ldI_eq hx15)) (Trc.pure rfl rfl rfl (.inl fun _ => s_mul rfl rfl) (Trc.pure rfl rfl rfl (.inl fun _ => s_add rfl rfl) (Trc.pure rfl rfl rfl (.inl fun _ => s_fieldAddr Try.underlying46 rfl ty3 rfl) (Trc.eff rfl rfl rfl (fun _ => trivial) (s_store (s := 1) ty3 rfl rfl rfl hH16) (Trc.nil (fun _ => trivial)))))))))))))) rfl (by decide +kernel) mixed ?_
      refine f_bind ?_; intro x17 hx17
      refine f_ck fun g18 => ?_
      refine f_bind ?_; intro x19 hx19
      refine f_bind ?_; intro H20 hH20
      refine f_draw (Φ := fun _ => True) (lim := 1000000) [0, 1, 0, 0, 0, 0, 0, 1, 0, 0, 0, 2] (Trc.pure rfl rfl rfl (.inl fun _ => s_fieldAddr Try.underlying46 rfl ty3 rfl) (Trc.read rfl rfl rfl (s_load Try.underlying3 rfl rfl (ldI_eq hx17)) (Trc.pure rfl rfl rfl (.inl fun _ => s_mv (v := .int .i64 (w64 ((w64 (Int.tdiv v3 x6)) * x8))) rfl) (Trc.pure rfl rfl rfl (.inl fun _ => s_mv (v := .sl v1) rfl) (Trc.pure rfl rfl rfl (.inl fun _ => s_mv (v := .int .i64 v7) rfl) (Trc.pure rfl rfl rfl (.inl fun _ => s_idx Try.underlying22 ty46 rfl rfl g18) (Trc.pure rfl rfl rfl (.inl fun _ => s_fieldAddr Try.underlying46 rfl ty3 rfl) (Trc.read rfl rfl rfl (s_load Try.underlying3 rfl rfl (ldI_eq hx19)) (Trc.pure rfl rfl rfl (.inl fun _ => s_mul rfl rfl) (Trc.pure rfl rfl rfl (.inl fun _ => s_add rfl rfl) (Trc.pure rfl rfl rfl (.inl fun _ => s_fieldAddr Try.underlying46 rfl ty3 rfl) (Trc.eff rfl rfl rfl (fun _ => trivial) (s_store (s := 1) ty3 rfl rfl rfl hH20) (Trc.nil (fun _ => trivial)))))))))))))) rfl (by decide +kernel) mixed ?_
      refine f_inBlock ?_
      refine f_region ?_
      refine f_op rfl rfl (s_add rfl rfl) ?_
      refine f_op rfl rfl (s_mv (v := .int .i64 (w64 (v7 + 1))) rfl) ?_
      refine f_nil ?_
      refine f_inLoop ?_
      refine f_keep [0, 4, 6, 9, 27, 28, 29] ?_
      exact ih v1 v2 v3 v4 v5 v6 (w64 (v7 + 1)) H20
    · skip
      refine f_know 30 rfl (dec_false h1) ?_
      refine f_condF rfl ?_
      refine f_exit rfl ?_
      refine f_seq ?_
      refine f_seq ?_
      refine f_region ?_
      refine f_op rfl rfl (s_fieldAddr Try.underlying46 rfl ty3 rfl) ?_
      refine o_bind ?_; intro x21 hx21
      refine f_op rfl rfl (s_load Try.underlying3 rfl rfl (ldI_eq hx21)) ?_
      refine f_op rfl rfl (s_mv (v := .int .i64 v3) rfl) ?_
      refine o_ck fun g22 => ?_
      refine f_op rfl rfl (s_rem rfl rfl g22) ?_
      refine f_op rfl rfl (s_neq rfl rfl) ?_
      refine f_op rfl rfl (s_mv (v := .bool (decide ((Int.tmod x21 v3) ≠ 0))) rfl) ?_
      refine o_if (fun h23 => ?_) (fun h23 => ?_)
      · skip
        refine o_know 80 rfl (dec_true h23) ?_
        refine f_no rfl rfl ?_
        refine f_no rfl rfl ?_
        refine f_no rfl rfl ?_
        refine f_no rfl rfl ?_
        refine f_no rfl rfl ?_
        refine f_op rfl rfl (s_pickT (v := .bool true) rfl rfl) ?_
        refine f_op rfl rfl (s_mv (v := .bool true) rfl) ?_
        refine f_no rfl rfl ?_
        refine f_no rfl rfl ?_
        refine f_no rfl rfl ?_
        refine f_no rfl rfl ?_
        refine f_no rfl rfl ?_
        refine f_no rfl rfl ?_
        refine f_no rfl rfl ?_
        refine f_no rfl rfl ?_
        refine f_op rfl rfl (s_pickT (v := .bool true) rfl rfl) ?_
        refine f_nil ?_
        refine f_keep [4, 6, 9, 96] ?_
        exact s31_j2 v2 v3 v4 true H
      · skip
        refine o_know 80 rfl (dec_false h23) ?_
        refine f_op rfl rfl (s_fieldAddr Try.underlying46 rfl ty3 rfl) ?_
        refine o_bind ?_; intro x24 hx24
        refine f_op rfl rfl (s_load Try.underlying3 rfl rfl (ldI_eq hx24)) ?_
        refine f_op rfl rfl (s_mv (v := .int .i64 v3) rfl) ?_
        refine o_ck fun g25 => ?_
        refine f_op rfl rfl (s_rem rfl rfl g25) ?_
        refine f_op rfl rfl (s_neq rfl rfl) ?_
        refine f_op rfl rfl (s_pickF (v := .bool (decide ((Int.tmod x24 v3) ≠ 0))) rfl rfl) ?_
        refine f_op rfl rfl (s_mv (v := .bool (decide ((Int.tmod x24 v3) ≠ 0))) rfl) ?_
        refine o_if (fun h26 => ?_) (fun h26 => ?_)
        · skip
          refine o_know 87 rfl (dec_true h26) ?_
          refine f_no rfl rfl ?_
          refine f_no rfl rfl ?_
          refine f_no rfl rfl ?_
          refine f_no rfl rfl ?_
          refine f_no rfl rfl ?_
          refine f_no rfl rfl ?_
          refine f_no rfl rfl ?_
          refine f_no rfl rfl ?_
          refine f_op rfl rfl (s_pickT (v := .bool true) rfl rfl) ?_
          refine f_nil ?_
          refine f_keep [4, 6, 9, 96] ?_
          exact s31_j2 v2 v3 v4 true H
        · skip
          refine o_know 87 rfl (dec_false h26) ?_
          refine f_op rfl rfl (s_fieldAddr Try.underlying46 rfl ty3 rfl) ?_
          refine o_bind ?_; intro x27 hx27
          refine f_op rfl rfl (s_load Try.underlying3 rfl rfl (ldI_eq hx27)) ?_
          refine f_op rfl rfl (s_eql rfl rfl) ?_
          refine f_op rfl rfl (s_mv (v := .bool (decide (x27 = 0))) rfl) ?_
          refine o_if (fun h28 => ?_) (fun h28 => ?_)
          · skip
            refine o_know 91 rfl (dec_true h28) ?_
            refine f_op rfl rfl (s_fieldAddr Try.underlying46 rfl ty3 rfl) ?_
            refine o_bind ?_; intro x29 hx29
            refine f_op rfl rfl (s_load Try.underlying3 rfl rfl (ldI_eq hx29)) ?_
            refine f_op rfl rfl (s_eql rfl rfl) ?_
            refine f_op rfl rfl (s_pickT (v := .bool (decide (x29 = 0))) rfl rfl) ?_
            refine f_op rfl rfl (s_pickF (v := .bool (decide (x29 = 0))) rfl rfl) ?_
            refine f_nil ?_
            refine f_keep [4, 6, 9, 96] ?_
            exact s31_j2 v2 v3 v4 (decide (x29 = 0)) H
          · skip
            refine o_know 91 rfl (dec_false h28) ?_
            refine f_no rfl rfl ?_
            refine f_no rfl rfl ?_
            refine f_no rfl rfl ?_
            refine f_op rfl rfl (s_pickF (v := .bool false) rfl rfl) ?_
            refine f_op rfl rfl (s_pickF (v := .bool false) rfl rfl) ?_
            refine f_nil ?_
            refine f_keep [4, 6, 9, 96] ?_
            exact s31_j2 v2 v3 v4 false H

theorem s31_l0 : ∀ (k_ : Nat) (v1 : Sl) (v2 : Sl) (v3 : Nat) (v4 : Int) (v5 : Sl) (v6 : Int) (v7 : Int) (H : Hp), Fin Try.prog Try.f31 ret31 112 (todoAt (bodyOf Try.f31) [1, 1, 0, 1, 0, 0] []) [(0, .sl v1), (1, .sl v2), (4, .ptr v3 0), (6, .int .i64 v4), (13, .sl v5), (14, .int .i64 v6), (15, .int .i64 v7)] H (r31_l0 k_ v1 v2 v3 v4 v5 v6 v7 H) := by
  intro k_
  induction k_ with
  | zero => intro _ _ _ _ _ _ _ _; exact f_none
  | succ k_ ih =>
    intro v1 v2 v3 v4 v5 v6 v7 H
    rw [r31_l0]
    refine f_seq ?_
    refine f_region ?_
    refine f_op rfl rfl (s_lss rfl rfl) ?_
    refine f_nil ?_
    refine f_seq ?_
    refine f_if (fun h1 => ?_) (fun h1 => ?_)
    · skip
      refine f_know 16 rfl (dec_true h1) ?_
      refine f_condT rfl ?_
      refine f_skip ?_
      refine f_seq ?_
      refine f_block ?_
      refine f_seq ?_
      refine f_region ?_
      refine o_ck fun g2 => ?_
      refine f_op rfl rfl (s_idx Try.underlying44 ty24 rfl rfl g2) ?_
      refine o_bind ?_; intro x3 hx3
      refine o_bind ?_; intro x4 hx4
      refine f_op rfl rfl (s_loads Try.underlying24 rfl ty24 rfl (lds_cons (ldI_eq hx3) (lds_cons (ldI_eq hx4) (lds_nil)))) ?_
      refine f_op rfl rfl (s_alloc (zs := [.int .i64 0, .int .i64 0]) ty24 rfl rfl) ?_
      refine o_bind ?_; intro H5 hH5
      refine f_op rfl rfl (s_stores ty24 rfl rfl rfl rfl hH5 (Nat.le_of_eq (sts_mono hH5).symm)) ?_
      refine f_nil ?_
      refine f_region ?_
      refine f_op rfl rfl (s_mv (v := .int .i64 v4) rfl) ?_
      refine f_op rfl rfl (s_fieldAddr Try.underlying24 rfl ty3 rfl) ?_
      refine o_bind ?_; intro x6 hx6
      refine f_op rfl rfl (s_load Try.underlying3 rfl rfl (ldI_eq hx6)) ?_
      refine f_op rfl rfl (s_mv (v := .int .i64 v4) rfl) ?_
      refine o_bind ?_; intro p7 hp7
      refine f_op rfl rfl (s_callO rfl ok56 (sim56 hp7) rfl rfl) ?_
      refine f_op rfl rfl (s_field (v := .int .i64 p7.1.1) Try.underlying24 rfl Try.underlying3 ty3 rfl rfl) ?_
      refine f_op rfl rfl (s_mul rfl rfl) ?_
      refine f_op rfl rfl (s_as (v := .int .i64 (w64 (v4 * p7.1.1))) rfl) ?_
      refine f_nil ?_
      refine f_inBlock ?_
      refine f_region ?_
      refine f_op rfl rfl (s_add rfl rfl) ?_
      refine f_op rfl rfl (s_mv (v := .int .i64 (w64 (v7 + 1))) rfl) ?_
      refine f_nil ?_
      refine f_inLoop ?_
      refine f_keep [0, 1, 4, 6, 13, 14, 15] ?_
      exact ih v1 v2 v3 (w64 (v4 * p7.1.1)) v5 v6 (w64 (v7 + 1)) H5
    · skip
      refine f_know 16 rfl (dec_false h1) ?_
      refine f_condF rfl ?_
      refine f_exit rfl ?_
      refine f_seq ?_
      refine f_region ?_
      refine f_op rfl rfl (s_alloc (zs := [.int .i64 0, .int .i64 0, .int .i64 0]) ty46 rfl rfl) ?_
      refine o_hp ?_; intro H8 hH8
      refine f_nil ?_
      refine f_seq ?_
      refine f_seq ?_
      refine f_region ?_
      refine f_op rfl rfl (s_mv (v := .sl v2) rfl) ?_
      refine f_op rfl rfl (s_lenS rfl Try.underlying44 rfl) ?_
      refine f_op rfl rfl (s_mv (v := .int .i64 0) rfl) ?_
      refine f_nil ?_
      refine f_block ?_
      refine f_loop ?_
      refine f_keep [0, 4, 6, 9, 27, 28, 29] ?_
      exact s31_l1 FUEL v1 v3 v4 H.n v2 (v2.len : Int) 0 H8

theorem sim31 {a0 : Sl} {a1 : Sl} {H : Hp} {p : (Int × Int × Int × Int) × Hp} (h : r31 a0 a1 H = some p) : CallSim Try.prog 31 [.sl a0, .sl a1] H (.tup [.agg [.int .i64 p.1.1, .int .i64 p.1.2.1, .int .i64 p.1.2.2.1], .int .i64 p.1.2.2.2]) p.2 := by
  refine callSim (fn := Try.f31) (ret := ret31) Try.func31 rfl Try.ntmps31 rfl ?_ h
  unfold r31
  refine f_seq ?_
  refine f_region ?_
  refine f_op rfl rfl (s_alloc (zs := [.int .i64 0, .int .i64 0, .int .i64 0]) ty46 rfl rfl) ?_
  refine f_op rfl rfl (s_as (v := .int .i64 0) rfl) ?_
  refine o_hp ?_; intro H1 hH1
  refine f_nil ?_
  refine f_seq ?_
  refine f_region ?_
  refine f_op rfl rfl (s_as (v := .int .i64 1) rfl) ?_
  refine f_nil ?_
  refine f_seq ?_
  refine f_seq ?_
  refine f_region ?_
  refine f_op rfl rfl (s_mv (v := .sl a1) rfl) ?_
  refine f_op rfl rfl (s_lenS rfl Try.underlying44 rfl) ?_
  refine f_op rfl rfl (s_mv (v := .int .i64 0) rfl) ?_
  refine f_nil ?_
  refine f_block ?_
  refine f_loop ?_
  refine f_keep [0, 1, 4, 6, 13, 14, 15] ?_
  exact s31_l0 FUEL a0 a1 H.n 1 a1 (a1.len : Int) 0 H1

/- 5 congou/congoulaw02.CutsCuts -/
theorem ok5 : FnOk Try.prog 5 := ⟨⟨Try.f5, Try.func5, by kernel_rfl, rfl⟩⟩
theorem s5_j0 {app : App} (happ : AppSim Try.prog app) (v1 : Nat) (v2 : Int) (v3 : Bool) (v4 : Int) (v5 : Nat) (v6 : Int) (v7 : Bool) (H : Hp) : Fin Try.prog Try.f5 ret5 120 (todoAt (bodyOf Try.f5) [1, 1, 1, 1, 1, 1] []) [(7, .ptr v1 0), (8, .int .i64 v2), (9, .bool v3), (10, .int .i64 v4), (11, .ptr v5 0), (12, .int .i64 v6), (13, .bool v7)] H (r5_j0 app v1 v2 v3 v4 v5 v6 v7 H) := by
  unfold r5_j0
  refine f_seq ?_
  refine f_region ?_
  refine o_bind ?_; intro x1 hx1
  refine o_bind ?_; intro x2 hx2
  refine o_bind ?_; intro x3 hx3
  refine f_op rfl rfl (s_loads Try.underlying47 rfl ty47 rfl (lds_cons (ldI_eq hx1) (lds_cons (ldI_eq hx2) (lds_cons (ldI_eq hx3) (lds_nil))))) ?_
  refine f_op rfl rfl (s_fieldAddr Try.underlying46 rfl ty3 rfl) ?_
  refine o_bind ?_; intro x4 hx4
  refine f_op rfl rfl (s_load Try.underlying3 rfl rfl (ldI_eq hx4)) ?_
  refine f_op rfl rfl (s_fieldAddr Try.underlying46 rfl ty3 rfl) ?_
  refine o_bind ?_; intro x5 hx5
  refine f_op rfl rfl (s_load Try.underlying3 rfl rfl (ldI_eq hx5)) ?_
  refine f_op rfl rfl (s_fieldAddr Try.underlying46 rfl ty3 rfl) ?_
  refine o_bind ?_; intro x6 hx6
  refine f_op rfl rfl (s_load Try.underlying3 rfl rfl (ldI_eq hx6)) ?_
  refine f_op rfl rfl (s_build (cs := [.int .i64 x4, .int .i64 x5, .int .i64 x6]) Try.underlying47 ty47 rfl pl47 rfl) ?_
  refine f_op rfl rfl (s_eqAgg eg47 rfl rfl (eq3 Try.underlying47 Try.underlying3 Try.underlying3 Try.underlying3 (by decide) (by decide) (by decide) rfl rfl rfl sih47 x1 x2 x3 x4 x5 x6)) ?_
  refine f_op rfl rfl (s_mv (v := .bool ((x1 == x4) && ((x2 == x5) && (x3 == x6)))) rfl) ?_
  refine o_if (fun h7 => ?_) (fun h7 => ?_)
  · skip
    refine o_know 103 rfl (bool_T h7) ?_
    refine f_op rfl rfl (s_mv (v := .int .i64 v2) rfl) ?_
    refine f_op rfl rfl (s_mv (v := .int .i64 v6) rfl) ?_
    refine f_op rfl rfl (s_eql rfl rfl) ?_
    refine f_op rfl rfl (s_pickT (v := .bool (decide (v2 = v6))) rfl rfl) ?_
    refine f_op rfl rfl (s_mv (v := .bool (decide (v2 = v6))) rfl) ?_
    refine o_if (fun h8 => ?_) (fun h8 => ?_)
    · skip
      refine o_know 108 rfl (dec_true h8) ?_
      refine f_op rfl rfl (s_mv (v := .bool v3) rfl) ?_
      refine f_op rfl rfl (s_mv (v := .bool v7) rfl) ?_
      refine f_op rfl rfl (s_eqB Try.underlying4 rfl rfl) ?_
      refine f_op rfl rfl (s_pickT (v := .bool (v3 == v7)) rfl rfl) ?_
      refine f_op rfl rfl (s_mv (v := .bool (v3 == v7)) rfl) ?_
      refine o_if (fun h9 => ?_) (fun h9 => ?_)
      · skip
        refine o_know 113 rfl (bool_T h9) ?_
        refine f_op rfl rfl (s_mv (v := .int .i64 v4) rfl) ?_
        refine f_op rfl rfl (s_eql rfl rfl) ?_
        refine f_op rfl rfl (s_pickT (v := .bool (decide (v4 = 0))) rfl rfl) ?_
        refine f_op rfl rfl (s_mv (v := .bool (decide (v4 = 0))) rfl) ?_
        refine o_if (fun h10 => ?_) (fun h10 => ?_)
        · skip
          refine o_know 117 rfl (dec_true h10) ?_
          refine o_bind ?_; intro p11 hp11
          refine o_bind ?_; intro x12 hx12
          refine f_op rfl rfl (s_callA happ rfl hp11) ?_
          refine o_know 118 rfl (asB_eq hx12) ?_
          refine f_op rfl rfl (s_pickT (v := .bool x12) rfl rfl) ?_
          refine f_op rfl rfl (s_as (v := .bool x12) rfl) ?_
          refine f_nil ?_
          exact f_ret (.tmp rfl (.nil)) rfl
        · skip
          refine o_know 117 rfl (dec_false h10) ?_
          refine f_no rfl rfl ?_
          refine f_op rfl rfl (s_pickF (v := .bool false) rfl rfl) ?_
          refine f_op rfl rfl (s_as (v := .bool false) rfl) ?_
          refine f_nil ?_
          exact f_ret (.tmp rfl (.nil)) rfl
      · skip
        refine o_know 113 rfl (bool_F h9) ?_
        refine f_no rfl rfl ?_
        refine f_no rfl rfl ?_
        refine f_op rfl rfl (s_pickF (v := .bool false) rfl rfl) ?_
        refine f_op rfl rfl (s_mv (v := .bool false) rfl) ?_
        refine f_no rfl rfl ?_
        refine f_op rfl rfl (s_pickF (v := .bool false) rfl rfl) ?_
        refine f_op rfl rfl (s_as (v := .bool false) rfl) ?_
        refine f_nil ?_
        exact f_ret (.tmp rfl (.nil)) rfl
    · skip
      refine o_know 108 rfl (dec_false h8) ?_
      refine f_no rfl rfl ?_
      refine f_no rfl rfl ?_
      refine f_no rfl rfl ?_
      refine f_op rfl rfl (s_pickF (v := .bool false) rfl rfl) ?_
      refine f_op rfl rfl (s_mv (v := .bool false) rfl) ?_
      refine f_no rfl rfl ?_
      refine f_no rfl rfl ?_
      refine f_op rfl rfl (s_pickF (v := .bool false) rfl rfl) ?_
      refine f_op rfl rfl (s_mv (v := .bool false) rfl) ?_
      refine f_no rfl rfl ?_
      refine f_op rfl rfl (s_pickF (v := .bool false) rfl rfl) ?_
      refine f_op rfl rfl (s_as (v := .bool false) rfl) ?_
      refine f_nil ?_
      exact f_ret (.tmp rfl (.nil)) rfl
  · skip
    refine o_know 103 rfl (bool_F h7) ?_
    refine f_no rfl rfl ?_
    refine f_no rfl rfl ?_
    refine f_no rfl rfl ?_
    refine f_op rfl rfl (s_pickF (v := .bool false) rfl rfl) ?_
    refine f_op rfl rfl (s_mv (v := .bool false) rfl) ?_
    refine f_no rfl rfl ?_
    refine f_no rfl rfl ?_
    refine f_no rfl rfl ?_
    refine f_op rfl rfl (s_pickF (v := .bool false) rfl rfl) ?_
    refine f_op rfl rfl (s_mv (v := .bool false) rfl) ?_
    refine f_no rfl rfl ?_
    refine f_no rfl rfl ?_
    refine f_op rfl rfl (s_pickF (v := .bool false) rfl rfl) ?_
    refine f_op rfl rfl (s_mv (v := .bool false) rfl) ?_
    refine f_no rfl rfl ?_
    refine f_op rfl rfl (s_pickF (v := .bool false) rfl rfl) ?_
    refine f_op rfl rfl (s_as (v := .bool false) rfl) ?_
    refine f_nil ?_
    exact f_ret (.tmp rfl (.nil)) rfl

theorem s5_j1 {app : App} (happ : AppSim Try.prog app) (v1 : Sl) (v2 : Sl) (v3 : Nat) (v4 : Nat) (v5 : Int) (v6 : Bool) (v7 : Int) (v8 : Bool) (H : Hp) : Fin Try.prog Try.f5 ret5 120 (todoAt (bodyOf Try.f5) [1, 1, 1, 0, 1] []) [(0, .sl v1), (1, .sl v2), (5, .ptr v3 0), (7, .ptr v4 0), (8, .int .i64 v5), (9, .bool v6), (10, .int .i64 v7), (46, .bool v8)] H (r5_j1 app v1 v2 v3 v4 v5 v6 v7 v8 H) := by
  unfold r5_j1
  refine f_if (fun h1 => ?_) (fun h1 => ?_)
  · skip
    refine f_know 46 rfl (bool_T h1) ?_
    refine f_condT rfl ?_
    refine f_seq ?_
    refine f_region ?_
    refine o_bind ?_; intro x2 hx2
    refine o_bind ?_; intro x3 hx3
    refine o_bind ?_; intro x4 hx4
    refine f_op rfl rfl (s_loads Try.underlying47 rfl ty47 rfl (lds_cons (ldI_eq hx2) (lds_cons (ldI_eq hx3) (lds_cons (ldI_eq hx4) (lds_nil))))) ?_
    refine f_op rfl rfl (s_build (cs := [.int .i64 0, .int .i64 0, .int .i64 0]) Try.underlying47 ty47 rfl pl47 rfl) ?_
    refine f_op rfl rfl (s_eqAgg eg47 rfl rfl (eq3 Try.underlying47 Try.underlying3 Try.underlying3 Try.underlying3 (by decide) (by decide) (by decide) rfl rfl rfl sih47 x2 x3 x4 0 0 0)) ?_
    refine f_op rfl rfl (s_mv (v := .bool ((x2 == 0) && ((x3 == 0) && (x4 == 0)))) rfl) ?_
    refine o_if (fun h5 => ?_) (fun h5 => ?_)
    · skip
      refine o_know 50 rfl (bool_T h5) ?_
      refine f_op rfl rfl (s_mv (v := .bool v6) rfl) ?_
      refine f_op rfl rfl (s_not rfl) ?_
      refine f_op rfl rfl (s_pickT (v := .bool (!v6)) rfl rfl) ?_
      refine f_op rfl rfl (s_mv (v := .bool (!v6)) rfl) ?_
      refine o_if (fun h6 => ?_) (fun h6 => ?_)
      · skip
        refine o_know 54 rfl (bool_notT h6) ?_
        refine f_no rfl rfl ?_
        refine f_no rfl rfl ?_
        refine f_op rfl rfl (s_pickF (v := .bool false) rfl rfl) ?_
        refine f_op rfl rfl (s_mv (v := .bool false) rfl) ?_
        refine f_no rfl rfl ?_
        refine f_no rfl rfl ?_
        refine f_op rfl rfl (s_pickF (v := .bool false) rfl rfl) ?_
        refine f_op rfl rfl (s_mv (v := .bool false) rfl) ?_
        refine f_no rfl rfl ?_
        refine f_op rfl rfl (s_pickF (v := .bool false) rfl rfl) ?_
        refine f_op rfl rfl (s_as (v := .bool false) rfl) ?_
        refine f_nil ?_
        exact f_ret (.tmp rfl (.nil)) rfl
      · skip
        refine o_know 54 rfl (bool_notF h6) ?_
        refine f_op rfl rfl (s_mv (v := .int .i64 v5) rfl) ?_
        refine f_op rfl rfl (s_eql rfl rfl) ?_
        refine f_op rfl rfl (s_pickT (v := .bool (decide (v5 = 2))) rfl rfl) ?_
        refine f_op rfl rfl (s_mv (v := .bool (decide (v5 = 2))) rfl) ?_
        refine o_if (fun h7 => ?_) (fun h7 => ?_)
        · skip
          refine o_know 58 rfl (dec_true h7) ?_
          refine f_op rfl rfl (s_mv (v := .int .i64 v7) rfl) ?_
          refine f_op rfl rfl (s_eql rfl rfl) ?_
          refine f_op rfl rfl (s_pickT (v := .bool (decide (v7 = 2))) rfl rfl) ?_
          refine f_op rfl rfl (s_mv (v := .bool (decide (v7 = 2))) rfl) ?_
          refine o_if (fun h8 => ?_) (fun h8 => ?_)
          · skip
            refine o_know 62 rfl (dec_true h8) ?_
            refine o_bind ?_; intro p9 hp9
            refine o_bind ?_; intro x10 hx10
            refine f_op rfl rfl (s_callA happ rfl hp9) ?_
            refine o_know 63 rfl (asB_eq hx10) ?_
            refine f_op rfl rfl (s_pickT (v := .bool x10) rfl rfl) ?_
            refine f_op rfl rfl (s_as (v := .bool x10) rfl) ?_
            refine f_nil ?_
            exact f_ret (.tmp rfl (.nil)) rfl
          · skip
            refine o_know 62 rfl (dec_false h8) ?_
            refine f_no rfl rfl ?_
            refine f_op rfl rfl (s_pickF (v := .bool false) rfl rfl) ?_
            refine f_op rfl rfl (s_as (v := .bool false) rfl) ?_
            refine f_nil ?_
            exact f_ret (.tmp rfl (.nil)) rfl
        · skip
          refine o_know 58 rfl (dec_false h7) ?_
          refine f_no rfl rfl ?_
          refine f_no rfl rfl ?_
          refine f_op rfl rfl (s_pickF (v := .bool false) rfl rfl) ?_
          refine f_op rfl rfl (s_mv (v := .bool false) rfl) ?_
          refine f_no rfl rfl ?_
          refine f_op rfl rfl (s_pickF (v := .bool false) rfl rfl) ?_
          refine f_op rfl rfl (s_as (v := .bool false) rfl) ?_
          refine f_nil ?_
          exact f_ret (.tmp rfl (.nil)) rfl
    · skip
      refine o_know 50 rfl (bool_F h5) ?_
      refine f_no rfl rfl ?_
      refine f_no rfl rfl ?_
      refine f_op rfl rfl (s_pickF (v := .bool false) rfl rfl) ?_
      refine f_op rfl rfl (s_mv (v := .bool false) rfl) ?_
      refine f_no rfl rfl ?_
      refine f_no rfl rfl ?_
      refine f_op rfl rfl (s_pickF (v := .bool false) rfl rfl) ?_
      refine f_op rfl rfl (s_mv (v := .bool false) rfl) ?_
      refine f_no rfl rfl ?_
      refine f_no rfl rfl ?_
      refine f_op rfl rfl (s_pickF (v := .bool false) rfl rfl) ?_
      refine f_op rfl rfl (s_mv (v := .bool false) rfl) ?_
      refine f_no rfl rfl ?_
      refine f_op rfl rfl (s_pickF (v := .bool false) rfl rfl) ?_
      refine f_op rfl rfl (s_as (v := .bool false) rfl) ?_
      refine f_nil ?_
      exact f_ret (.tmp rfl (.nil)) rfl
  · skip
    refine f_know 46 rfl (bool_F h1) ?_
    refine f_condF rfl ?_
    refine f_skip ?_
    refine f_seq ?_
    refine f_region ?_
    refine f_op rfl rfl (s_mv (v := .sl v1) rfl) ?_
    refine f_op rfl rfl (s_mv (v := .sl v2) rfl) ?_
    refine o_bind ?_; intro p11 hp11
    refine f_op rfl rfl (s_callF rfl ok31 (sim31 hp11)) ?_
    refine f_op rfl rfl (s_mv (v := .tup [.agg [.int .i64 p11.1.1, .int .i64 p11.1.2.1, .int .i64 p11.1.2.2.1], .int .i64 p11.1.2.2.2]) rfl) ?_
    refine f_op rfl rfl (s_extract (r := .agg [.int .i64 p11.1.1, .int .i64 p11.1.2.1, .int .i64 p11.1.2.2.1]) rfl rfl) ?_
    refine f_op rfl rfl (s_extract (r := .int .i64 p11.1.2.2.2) rfl rfl) ?_
    refine f_op rfl rfl (s_alloc (zs := [.int .i64 0, .int .i64 0, .int .i64 0]) ty46 rfl rfl) ?_
    refine o_bind ?_; intro H12 hH12
    refine f_op rfl rfl (s_stores ty46 rfl rfl rfl rfl hH12 (Nat.le_of_eq (sts_mono hH12).symm)) ?_
    refine f_op rfl rfl (s_as (v := .int .i64 p11.1.2.2.2) rfl) ?_
    refine f_nil ?_
    refine f_seq ?_
    refine f_region ?_
    refine f_op rfl rfl (s_mv (v := .int .i64 p11.1.2.2.2) rfl) ?_
    refine f_op rfl rfl (s_eql rfl rfl) ?_
    refine f_op rfl rfl (s_mv (v := .bool (decide (p11.1.2.2.2 = 0))) rfl) ?_
    refine o_if (fun h13 => ?_) (fun h13 => ?_)
    · skip
      refine o_know 73 rfl (dec_true h13) ?_
      refine f_op rfl rfl (s_fieldAddr Try.underlying46 rfl ty3 rfl) ?_
      refine o_bind ?_; intro x14 hx14
      refine f_op rfl rfl (s_load Try.underlying3 rfl rfl (ldI_eq hx14)) ?_
      refine f_op rfl rfl (s_fieldAddr Try.underlying46 rfl ty3 rfl) ?_
      refine o_bind ?_; intro x15 hx15
      refine f_op rfl rfl (s_load Try.underlying3 rfl rfl (ldI_eq hx15)) ?_
      refine f_op rfl rfl (s_eql rfl rfl) ?_
      refine f_op rfl rfl (s_pickT (v := .bool (decide (x14 = x15))) rfl rfl) ?_
      refine f_op rfl rfl (s_mv (v := .bool (decide (x14 = x15))) rfl) ?_
      refine o_if (fun h16 => ?_) (fun h16 => ?_)
      · skip
        refine o_know 80 rfl (dec_true h16) ?_
        refine f_op rfl rfl (s_fieldAddr Try.underlying46 rfl ty3 rfl) ?_
        refine o_bind ?_; intro x17 hx17
        refine f_op rfl rfl (s_load Try.underlying3 rfl rfl (ldI_eq hx17)) ?_
        refine f_op rfl rfl (s_fieldAddr Try.underlying46 rfl ty3 rfl) ?_
        refine o_bind ?_; intro x18 hx18
        refine f_op rfl rfl (s_load Try.underlying3 rfl rfl (ldI_eq hx18)) ?_
        refine f_op rfl rfl (s_eql rfl rfl) ?_
        refine f_op rfl rfl (s_pickT (v := .bool (decide (x17 = x18))) rfl rfl) ?_
        refine f_op rfl rfl (s_mv (v := .bool (decide (x17 = x18))) rfl) ?_
        refine o_if (fun h19 => ?_) (fun h19 => ?_)
        · skip
          refine o_know 87 rfl (dec_true h19) ?_
          refine f_op rfl rfl (s_fieldAddr Try.underlying46 rfl ty3 rfl) ?_
          refine o_bind ?_; intro x20 hx20
          refine f_op rfl rfl (s_load Try.underlying3 rfl rfl (ldI_eq hx20)) ?_
          refine f_op rfl rfl (s_fieldAddr Try.underlying46 rfl ty3 rfl) ?_
          refine o_bind ?_; intro x21 hx21
          refine f_op rfl rfl (s_load Try.underlying3 rfl rfl (ldI_eq hx21)) ?_
          refine f_op rfl rfl (s_leq rfl rfl) ?_
          refine f_op rfl rfl (s_pickT (v := .bool (decide (x20 ≤ x21))) rfl rfl) ?_
          refine f_op rfl rfl (s_as (v := .bool (decide (x20 ≤ x21))) rfl) ?_
          refine f_nil ?_
          refine f_keep [7, 8, 9, 10, 11, 12, 13] ?_
          exact s5_j0 happ v4 v5 v6 v7 p11.2.n p11.1.2.2.2 (decide (x20 ≤ x21)) H12
        · skip
          refine o_know 87 rfl (dec_false h19) ?_
          refine f_no rfl rfl ?_
          refine f_no rfl rfl ?_
          refine f_no rfl rfl ?_
          refine f_no rfl rfl ?_
          refine f_no rfl rfl ?_
          refine f_op rfl rfl (s_pickF (v := .bool false) rfl rfl) ?_
          refine f_op rfl rfl (s_as (v := .bool false) rfl) ?_
          refine f_nil ?_
          refine f_keep [7, 8, 9, 10, 11, 12, 13] ?_
          exact s5_j0 happ v4 v5 v6 v7 p11.2.n p11.1.2.2.2 false H12
      · skip
        refine o_know 80 rfl (dec_false h16) ?_
        refine f_no rfl rfl ?_
        refine f_no rfl rfl ?_
        refine f_no rfl rfl ?_
        refine f_no rfl rfl ?_
        refine f_no rfl rfl ?_
        refine f_op rfl rfl (s_pickF (v := .bool false) rfl rfl) ?_
        refine f_op rfl rfl (s_mv (v := .bool false) rfl) ?_
        refine f_no rfl rfl ?_
        refine f_no rfl rfl ?_
        refine f_no rfl rfl ?_
        refine f_no rfl rfl ?_
        refine f_no rfl rfl ?_
        refine f_op rfl rfl (s_pickF (v := .bool false) rfl rfl) ?_
        refine f_op rfl rfl (s_as (v := .bool false) rfl) ?_
        refine f_nil ?_
        refine f_keep [7, 8, 9, 10, 11, 12, 13] ?_
        exact s5_j0 happ v4 v5 v6 v7 p11.2.n p11.1.2.2.2 false H12
    · skip
      refine o_know 73 rfl (dec_false h13) ?_
      refine f_no rfl rfl ?_
      refine f_no rfl rfl ?_
      refine f_no rfl rfl ?_
      refine f_no rfl rfl ?_
      refine f_no rfl rfl ?_
      refine f_op rfl rfl (s_pickF (v := .bool false) rfl rfl) ?_
      refine f_op rfl rfl (s_mv (v := .bool false) rfl) ?_
      refine f_no rfl rfl ?_
      refine f_no rfl rfl ?_
      refine f_no rfl rfl ?_
      refine f_no rfl rfl ?_
      refine f_no rfl rfl ?_
      refine f_op rfl rfl (s_pickF (v := .bool false) rfl rfl) ?_
      refine f_op rfl rfl (s_mv (v := .bool false) rfl) ?_
      refine f_no rfl rfl ?_
      refine f_no rfl rfl ?_
      refine f_no rfl rfl ?_
      refine f_no rfl rfl ?_
      refine f_no rfl rfl ?_
      refine f_op rfl rfl (s_pickF (v := .bool false) rfl rfl) ?_
      refine f_op rfl rfl (s_as (v := .bool false) rfl) ?_
      refine f_nil ?_
      refine f_keep [7, 8, 9, 10, 11, 12, 13] ?_
      exact s5_j0 happ v4 v5 v6 v7 p11.2.n p11.1.2.2.2 false H12

theorem sim5 {app : App} (happ : AppSim Try.prog app) {a0 : Sl} {a1 : Sl} {a2_0 : Int} {a2_1 : Int} {a2_2 : Int} {H : Hp} {p : Bool × Hp} (h : r5 app a0 a1 a2_0 a2_1 a2_2 H = some p) : CallSim Try.prog 5 [.sl a0, .sl a1, .agg [.int .i64 a2_0, .int .i64 a2_1, .int .i64 a2_2]] H (.bool p.1) p.2 := by
  refine callSim (fn := Try.f5) (ret := ret5) Try.func5 rfl Try.ntmps5 rfl ?_ h
  unfold r5
  refine f_seq ?_
  refine f_region ?_
  refine f_op rfl rfl (s_box (v := .agg [.int .i64 a2_0, .int .i64 a2_1, .int .i64 a2_2]) rfl rfl) ?_
  refine f_op rfl rfl (s_as (v := .bool false) rfl) ?_
  refine o_hp ?_; intro H1 hH1
  refine f_nil ?_
  refine f_seq ?_
  refine f_region ?_
  refine f_op rfl rfl (s_mv (v := .sl a0) rfl) ?_
  refine o_bind ?_; intro p2 hp2
  refine f_op rfl rfl (s_callF rfl ok18 (sim18 hp2)) ?_
  refine f_op rfl rfl (s_mv (v := .sl a1) rfl) ?_
  refine o_bind ?_; intro p3 hp3
  refine f_op rfl rfl (s_callF rfl ok28 (sim28 hp3)) ?_
  refine o_bind ?_; intro p4 hp4
  refine f_op rfl rfl (s_callF rfl ok27 (sim27 happ hp4)) ?_
  refine f_op rfl rfl (s_mv (v := .tup [.agg [.int .i64 p4.1.1, .int .i64 p4.1.2.1, .int .i64 p4.1.2.2.1], .int .i64 p4.1.2.2.2]) rfl) ?_
  refine f_op rfl rfl (s_extract (r := .agg [.int .i64 p4.1.1, .int .i64 p4.1.2.1, .int .i64 p4.1.2.2.1]) rfl rfl) ?_
  refine f_op rfl rfl (s_extract (r := .int .i64 p4.1.2.2.2) rfl rfl) ?_
  refine f_op rfl rfl (s_alloc (zs := [.int .i64 0, .int .i64 0, .int .i64 0]) ty47 rfl rfl) ?_
  refine o_bind ?_; intro H5 hH5
  refine f_op rfl rfl (s_stores ty47 rfl rfl rfl rfl hH5 (Nat.le_of_eq (sts_mono hH5).symm)) ?_
  refine f_op rfl rfl (s_as (v := .int .i64 p4.1.2.2.2) rfl) ?_
  refine f_nil ?_
  refine f_seq ?_
  refine f_bind ?_; intro p6 hp6
  refine f_bind ?_; intro p7 hp7
  refine f_bind ?_; intro x8 hx8
  refine f_bind ?_; intro x9 hx9
  refine f_bind ?_; intro x10 hx10
  refine f_bind ?_; intro p11 hp11
  refine f_ck fun g12 => ?_
  refine f_ck fun g13 => ?_
  refine f_ck fun g14 => ?_
  refine f_ck fun g15 => ?_
  refine f_ck fun g16 => ?_
  refine f_ck fun g17 => ?_
  refine f_draw (Φ := fun H_ => H_.ld H.n (0 + 0) = some (.int .i64 x8) ∧ H_.ld H.n (0 + 1) = some (.int .i64 x9) ∧ H_.ld H.n (0 + 2) = some (.int .i64 x10)) (lim := 11) [0, 2, 0, 2, 0, 0, 0, 0, 0, 0, 0, 2, 0, 0, 0, 0, 0] (Trc.pure rfl rfl rfl (.inl fun _ => s_mv (v := .sl a0) rfl) (Trc.eff rfl rfl rfl (fun _ => ⟨ldI_eq g12, ldI_eq g13, ldI_eq g14⟩) (s_callF rfl ok18 (sim18 hp6)) (Trc.pure rfl rfl rfl (.inl fun _ => s_mv (v := .sl a1) rfl) (Trc.eff rfl rfl rfl (fun _ => ⟨ldI_eq g15, ldI_eq g16, ldI_eq g17⟩) (s_callF rfl ok28 (sim28 hp7)) (Trc.pure rfl rfl rfl (.inl fun _ => s_fieldAddr Try.underlying46 rfl ty3 rfl) (Trc.pure rfl rfl rfl (.inr ⟨by decide +kernel, fun _ hp_ => s_load Try.underlying3 rfl rfl hp_.1⟩) (Trc.pure rfl rfl rfl (.inl fun _ => s_fieldAddr Try.underlying46 rfl ty3 rfl) (Trc.pure rfl rfl rfl (.inr ⟨by decide +kernel, fun _ hp_ => s_load Try.underlying3 rfl rfl hp_.2.1⟩) (Trc.pure rfl rfl rfl (.inl fun _ => s_fieldAddr Try.underlying46 rfl ty3 rfl) (Trc.pure rfl rfl rfl (.inr ⟨by decide +kernel, fun _ hp_ => s_load Try.underlying3 rfl rfl hp_.2.2⟩) (Trc.pure rfl rfl rfl (.inl fun _ => s_build (cs := [.int .i64 x8, .int .i64 x9, .int .i64 x10]) Try.underlying47 ty47 rfl pl47 rfl) (Trc.eff rfl rfl rfl (fun _ => ⟨ldI_eq hx8, ldI_eq hx9, ldI_eq hx10⟩) (s_callF rfl ok29 (sim29 happ hp11)) (Trc.pure rfl rfl rfl (.inl fun _ => s_mv (v := .tup [.bool p11.1.1, .int .i64 p11.1.2]) rfl) (Trc.pure rfl rfl rfl (.inl fun _ => s_extract (r := .bool p11.1.1) rfl rfl) (Trc.pure rfl rfl rfl (.inl fun _ => s_extract (r := .int .i64 p11.1.2) rfl rfl) (Trc.pure rfl rfl rfl (.inl fun _ => s_as (v := .bool p11.1.1) rfl) (Trc.pure rfl rfl rfl (.inl fun _ => s_as (v := .int .i64 p11.1.2) rfl) (Trc.nil (fun h_ => absurd h_ (by decide +kernel)))))))))))))))))))) rfl (by decide +kernel) mixed ?_
  refine f_seq ?_
  refine f_seq ?_
  refine f_region ?_
  refine f_op rfl rfl (s_mv (v := .sl a0) rfl) ?_
  refine o_bind ?_; intro p18 hp18
  refine f_op rfl rfl (s_callF rfl ok19 (sim19 hp18)) ?_
  refine f_op rfl rfl (s_not rfl) ?_
  refine f_op rfl rfl (s_mv (v := .bool (!p18.1)) rfl) ?_
  refine o_if (fun h19 => ?_) (fun h19 => ?_)
  · skip
    refine o_know 40 rfl (bool_notT h19) ?_
    refine f_op rfl rfl (s_mv (v := .sl a1) rfl) ?_
    refine f_op rfl rfl (s_mv (v := .sl a0) rfl) ?_
    refine f_op rfl rfl (s_lenS rfl Try.underlying22 rfl) ?_
    refine o_bind ?_; intro p20 hp20
    refine f_op rfl rfl (s_callF rfl ok30 (sim30 hp20)) ?_
    refine f_op rfl rfl (s_not rfl) ?_
    refine f_op rfl rfl (s_pickF (v := .bool (!p20.1)) rfl rfl) ?_
    refine f_nil ?_
    refine f_keep [0, 1, 5, 7, 8, 9, 10, 46] ?_
    exact s5_j1 happ a0 a1 H.n p4.2.n p4.1.2.2.2 p11.1.1 p11.1.2 (!p20.1) p20.2
  · skip
    refine o_know 40 rfl (bool_notF h19) ?_
    refine f_no rfl rfl ?_
    refine f_no rfl rfl ?_
    refine f_no rfl rfl ?_
    refine f_no rfl rfl ?_
    refine f_no rfl rfl ?_
    refine f_op rfl rfl (s_pickT (v := .bool true) rfl rfl) ?_
    refine f_nil ?_
    refine f_keep [0, 1, 5, 7, 8, 9, 10, 46] ?_
    exact s5_j1 happ a0 a1 H.n p4.2.n p4.1.2.2.2 p11.1.1 p11.1.2 true p18.2

/- 97 congou/cuts.cross -/
theorem ok97 : FnOk Try.prog 97 := ⟨⟨Try.f97, Try.func97, by kernel_rfl, rfl⟩⟩
theorem sim97 {a0 : Int} {a1 : Int} {a2 : Int} {a3 : Int} {H : Hp} {p : Int × Hp} (h : r97 a0 a1 a2 a3 H = some p) : CallSim Try.prog 97 [.int .i64 a0, .int .i64 a1, .int .i64 a2, .int .i64 a3] H (.int .i64 p.1) p.2 := by
  refine callSim (fn := Try.f97) (ret := ret97) Try.func97 rfl Try.ntmps97 rfl ?_ h
  unfold r97
  refine f_seq ?_
  refine f_region ?_
  refine f_op rfl rfl (s_as (v := .int .i64 0) rfl) ?_
  refine f_nil ?_
  refine f_seq ?_
  refine f_region ?_
  refine f_op rfl rfl (s_mv (v := .int .i64 a0) rfl) ?_
  refine f_op rfl rfl (s_mv (v := .int .i64 a3) rfl) ?_
  refine f_op rfl rfl (s_mul rfl rfl) ?_
  refine f_op rfl rfl (s_mv (v := .int .i64 a1) rfl) ?_
  refine f_op rfl rfl (s_mv (v := .int .i64 a2) rfl) ?_
  refine f_op rfl rfl (s_mul rfl rfl) ?_
  refine f_op rfl rfl (s_sub rfl rfl) ?_
  refine f_op rfl rfl (s_as (v := .int .i64 (w64 ((w64 (a0 * a3)) - (w64 (a1 * a2))))) rfl) ?_
  refine f_nil ?_
  exact f_ret (.tmp rfl (.nil)) rfl

end Go.Lt.P2
