/- PRINTED BY A PROGRAM OF OURS: what each function that 'DealsEqual' reaches computes on the abstract heap, and that the translated code does just that. Nothing is asked of the input. -/
import Derived.Test.YtficeemoekikdaaG9P7
set_option linter.unusedVariables false
set_option linter.unusedSimpArgs false
set_option maxRecDepth 100000
set_option maxHeartbeats 4000000
namespace Go.Lt.P5
open Go Go.Lt Go.Proofs
/- 67 congou/deals.gain -/
theorem ok67 : FnOk Try.prog 67 := ⟨⟨Try.f67, Try.func67, by kernel_rfl, rfl⟩⟩
theorem s67_j0 (v1 : Nat) (v2 : Nat) (v3 : Nat) (v4 : Bool) (H : Hp) : Fin Try.prog Try.f67 ret67 55 (todoAt (bodyOf Try.f67) [1, 1, 0, 1] []) [(4, .ptr v1 0), (5, .ptr v2 0), (6, .ptr v3 0), (42, .bool v4)] H (r67_j0 v1 v2 v3 v4 H) := by
  unfold r67_j0
  refine f_if (fun h1 => ?_) (fun h1 => ?_)
  · skip
    refine f_know 42 rfl (bool_T h1) ?_
    refine f_condT rfl ?_
    refine f_seq ?_
    refine f_region ?_
    refine o_bind ?_; intro p2 hp2
    refine f_op rfl rfl (s_callO rfl ok48 (sim48 hp2) rfl rfl) ?_
    refine o_bind ?_; intro H3 hH3
    refine f_op rfl rfl (s_stores ty23 rfl rfl rfl rfl hH3 (Nat.le_of_eq (sts_mono hH3).symm)) ?_
    refine f_nil ?_
    refine f_bind ?_; intro x4 hx4
    refine f_bind ?_; intro x5 hx5
    exact f_ret (.cells Try.underlying23 rfl sz23 rfl (lds_cons (ldI_eq hx4) (lds_cons (ldI_eq hx5) (lds_nil))) (.nil)) rfl
  · skip
    refine f_know 42 rfl (bool_F h1) ?_
    refine f_condF rfl ?_
    refine f_skip ?_
    refine f_seq ?_
    refine f_region ?_
    refine f_op rfl rfl (s_fieldAddr Try.underlying23 rfl ty3 rfl) ?_
    refine o_bind ?_; intro x6 hx6
    refine f_op rfl rfl (s_load Try.underlying3 rfl rfl (ldI_eq hx6)) ?_
    refine f_op rfl rfl (s_fieldAddr Try.underlying23 rfl ty3 rfl) ?_
    refine o_bind ?_; intro x7 hx7
    refine f_op rfl rfl (s_load Try.underlying3 rfl rfl (ldI_eq hx7)) ?_
    refine f_op rfl rfl (s_mul rfl rfl) ?_
    refine f_op rfl rfl (s_fieldAddr Try.underlying23 rfl ty3 rfl) ?_
    refine o_bind ?_; intro x8 hx8
    refine f_op rfl rfl (s_load Try.underlying3 rfl rfl (ldI_eq hx8)) ?_
    refine f_op rfl rfl (s_fieldAddr Try.underlying23 rfl ty3 rfl) ?_
    refine o_bind ?_; intro x9 hx9
    refine f_op rfl rfl (s_load Try.underlying3 rfl rfl (ldI_eq hx9)) ?_
    refine f_op rfl rfl (s_mul rfl rfl) ?_
    refine o_bind ?_; intro p10 hp10
    refine f_op rfl rfl (s_callO rfl ok48 (sim48 hp10) rfl rfl) ?_
    refine o_bind ?_; intro H11 hH11
    refine f_op rfl rfl (s_stores ty23 rfl rfl rfl rfl hH11 (Nat.le_of_eq (sts_mono hH11).symm)) ?_
    refine f_nil ?_
    refine f_bind ?_; intro x12 hx12
    refine f_bind ?_; intro x13 hx13
    exact f_ret (.cells Try.underlying23 rfl sz23 rfl (lds_cons (ldI_eq hx12) (lds_cons (ldI_eq hx13) (lds_nil))) (.nil)) rfl

theorem sim67 {a0_0 : Int} {a0_1 : Int} {a0_2 : Int} {a0_3 : Int} {a1_0 : Int} {a1_1 : Int} {H : Hp} {p : (Int × Int) × Hp} (h : r67 a0_0 a0_1 a0_2 a0_3 a1_0 a1_1 H = some p) : CallSim Try.prog 67 [.agg [.int .i64 a0_0, .int .i64 a0_1, .int .i64 a0_2, .int .i64 a0_3], .agg [.int .i64 a1_0, .int .i64 a1_1]] H (.agg [.int .i64 p.1.1, .int .i64 p.1.2]) p.2 := by
  refine callSim (fn := Try.f67) (ret := ret67) Try.func67 rfl Try.ntmps67 rfl ?_ h
  unfold r67
  refine f_seq ?_
  refine f_region ?_
  refine f_op rfl rfl (s_box (v := .agg [.int .i64 a0_0, .int .i64 a0_1, .int .i64 a0_2, .int .i64 a0_3]) rfl rfl) ?_
  refine f_op rfl rfl (s_box (v := .agg [.int .i64 a1_0, .int .i64 a1_1]) rfl rfl) ?_
  refine f_op rfl rfl (s_alloc (zs := [.int .i64 0, .int .i64 0]) ty23 rfl rfl) ?_
  refine o_hp ?_; intro H1 hH1
  refine f_nil ?_
  refine f_seq ?_
  refine f_bind ?_; intro x2 hx2
  refine f_bind ?_; intro x3 hx3
  refine f_bind ?_; intro x4 hx4
  refine f_bind ?_; intro x5 hx5
  refine f_bind ?_; intro p6 hp6
  refine f_bind ?_; intro x7 hx7
  refine f_bind ?_; intro x8 hx8
  refine f_bind ?_; intro x9 hx9
  refine f_bind ?_; intro x10 hx10
  refine f_bind ?_; intro p11 hp11
  refine f_bind ?_; intro H12 hH12
  refine f_bind ?_; intro H13 hH13
  refine f_drawF (Φ := fun _ => True) (lim := 1000000) [0, 0, 1, 0, 1, 0, 0, 1, 0, 0, 0, 0, 1, 0, 0, 0, 1, 0, 1, 0, 0, 1, 0, 0, 0, 0, 1, 0, 2, 2, 2, 2] [false, false, false, false, false, false, false, false, false, false, false, false, false, false, false, false, false, false, false, false, false, false, false, false, false, false, false, false, true, true, false, false] 28 30 (Trc.pure rfl rfl rfl (.inl fun _ => s_fieldAddr Try.underlying41 rfl ty23 rfl) (Trc.pure rfl rfl rfl (.inl fun _ => s_fieldAddr Try.underlying23 rfl ty3 rfl) (Trc.read rfl rfl rfl (s_load Try.underlying3 rfl rfl (ldI_eq hx2)) (Trc.pure rfl rfl rfl (.inl fun _ => s_idxA Try.underlying49 ty3 rfl rfl (by decide)) (Trc.read rfl rfl rfl (s_load Try.underlying3 rfl rfl (ldI_eq hx3)) (Trc.pure rfl rfl rfl (.inl fun _ => s_fieldAddr Try.underlying41 rfl ty23 rfl) (Trc.pure rfl rfl rfl (.inl fun _ => s_fieldAddr Try.underlying23 rfl ty3 rfl) (Trc.read rfl rfl rfl (s_load Try.underlying3 rfl rfl (ldI_eq hx4)) (Trc.pure rfl rfl rfl (.inl fun _ => s_mul rfl rfl) (Trc.pure rfl rfl rfl (.inl fun _ => s_sub rfl rfl) (Trc.pure rfl rfl rfl (.inl fun _ => s_fieldAddr Try.underlying41 rfl ty23 rfl) (Trc.pure rfl rfl rfl (.inl fun _ => s_fieldAddr Try.underlying23 rfl ty3 rfl) (Trc.read rfl rfl rfl (s_load Try.underlying3 rfl rfl (ldI_eq hx5)) (Trc.pure rfl rfl rfl (.inl fun _ => s_callO rfl ok48 (sim48 hp6) rfl rfl) (Trc.pure rfl rfl rfl (.inl fun _ => s_fieldAddr Try.underlying41 rfl ty23 rfl) (Trc.pure rfl rfl rfl (.inl fun _ => s_fieldAddr Try.underlying23 rfl ty3 rfl) (Trc.read rfl rfl rfl (s_load Try.underlying3 rfl rfl (ldI_eq hx7)) (Trc.pure rfl rfl rfl (.inl fun _ => s_idxA Try.underlying49 ty3 rfl rfl (by decide)) (Trc.read rfl rfl rfl (s_load Try.underlying3 rfl rfl (ldI_eq hx8)) (Trc.pure rfl rfl rfl (.inl fun _ => s_fieldAddr Try.underlying41 rfl ty23 rfl) (Trc.pure rfl rfl rfl (.inl fun _ => s_fieldAddr Try.underlying23 rfl ty3 rfl) (Trc.read rfl rfl rfl (s_load Try.underlying3 rfl rfl (ldI_eq hx9)) (Trc.pure rfl rfl rfl (.inl fun _ => s_mul rfl rfl) (Trc.pure rfl rfl rfl (.inl fun _ => s_sub rfl rfl) (Trc.pure rfl rfl rfl (.inl fun _ => s_fieldAddr Try.underlying41 rfl ty23 rfl) (Trc.pure rfl rfl rfl (.inl fun _ => s_fieldAddr Try.underlying23 rfl ty3 rfl) (Trc.read rfl rfl rfl (s_load Try.underlying3 rfl rfl (ldI_eq hx10)) (Trc.pure rfl rfl rfl (.inl fun _ => s_callO rfl ok48 (sim48 hp11) rfl rfl) (Trc.fl .p rfl rfl rfl (fun _ => trivial) rfl (by rfl) (fun _ => s_alloc (zs := [.int .i64 0, .int .i64 0]) ty23 rfl rfl) (Trc.fl .p rfl rfl rfl (fun _ => trivial) rfl (by rfl) (fun _ => s_alloc (zs := [.int .i64 0, .int .i64 0]) ty23 rfl rfl) (Trc.eff rfl rfl rfl (fun _ => trivial) (s_stores ty23 rfl rfl rfl rfl hH12 (Nat.le_of_eq (sts_mono hH12).symm)) (Trc.eff rfl rfl rfl (fun _ => trivial) (s_stores ty23 rfl rfl rfl rfl hH13 (Nat.le_of_eq (sts_mono hH13).symm)) (Trc.nil (fun _ => trivial)))))))))))))))))))))))))))))))))) rfl rfl (by decide +kernel) mixed ?_
  refine f_seq ?_
  refine f_seq ?_
  refine f_region ?_
  refine f_op rfl rfl (s_fieldAddr Try.underlying23 rfl ty3 rfl) ?_
  refine o_bind ?_; intro x14 hx14
  refine f_op rfl rfl (s_load Try.underlying3 rfl rfl (ldI_eq hx14)) ?_
  refine f_op rfl rfl (s_lss rfl rfl) ?_
  refine f_op rfl rfl (s_mv (v := .bool (decide (x14 < 0))) rfl) ?_
  refine o_if (fun h15 => ?_) (fun h15 => ?_)
  · skip
    refine o_know 38 rfl (dec_true h15) ?_
    refine f_no rfl rfl ?_
    refine f_no rfl rfl ?_
    refine f_no rfl rfl ?_
    refine f_op rfl rfl (s_pickT (v := .bool true) rfl rfl) ?_
    refine f_nil ?_
    refine f_keep [4, 5, 6, 42] ?_
    exact s67_j0 (((H.push (.cells [.int .i64 a0_0, .int .i64 a0_1, .int .i64 a0_2, .int .i64 a0_3] false)).push (.cells [.int .i64 a1_0, .int .i64 a1_1] false)).n) H1.n ((H1.push (.cells [.int .i64 0, .int .i64 0] false)).n) true H13
  · skip
    refine o_know 38 rfl (dec_false h15) ?_
    refine f_op rfl rfl (s_fieldAddr Try.underlying23 rfl ty3 rfl) ?_
    refine o_bind ?_; intro x16 hx16
    refine f_op rfl rfl (s_load Try.underlying3 rfl rfl (ldI_eq hx16)) ?_
    refine f_op rfl rfl (s_lss rfl rfl) ?_
    refine f_op rfl rfl (s_pickF (v := .bool (decide (x16 < 0))) rfl rfl) ?_
    refine f_nil ?_
    refine f_keep [4, 5, 6, 42] ?_
    exact s67_j0 (((H.push (.cells [.int .i64 a0_0, .int .i64 a0_1, .int .i64 a0_2, .int .i64 a0_3] false)).push (.cells [.int .i64 a1_0, .int .i64 a1_1] false)).n) H1.n ((H1.push (.cells [.int .i64 0, .int .i64 0] false)).n) (decide (x16 < 0)) H13

/- 66 congou/deals.Product$1 -/
theorem ok66 : FnOk Try.prog 66 := ⟨⟨Try.f66, Try.func66, by kernel_rfl, rfl⟩⟩
theorem sim66 {a0_0 : Int} {a0_1 : Int} {a0_2 : Int} {a0_3 : Int} {c0 : Nat} {c1 : Nat} {c2 : Nat} {H : Hp} {p : Unit × Hp} (h : r66 a0_0 a0_1 a0_2 a0_3 c0 c1 c2 H = some p) : CallSim Try.prog 66 [.agg [.int .i64 a0_0, .int .i64 a0_1, .int .i64 a0_2, .int .i64 a0_3], .ptr c0 0, .ptr c1 0, .ptr c2 0] H (.tup []) p.2 := by
  refine callSim (fn := Try.f66) (ret := ret66) Try.func66 rfl Try.ntmps66 rfl ?_ h
  unfold r66
  refine f_seq ?_
  refine f_region ?_
  refine f_op rfl rfl (s_box (v := .agg [.int .i64 a0_0, .int .i64 a0_1, .int .i64 a0_2, .int .i64 a0_3]) rfl rfl) ?_
  refine o_hp ?_; intro H1 hH1
  refine f_nil ?_
  refine f_seq ?_
  refine f_region ?_
  refine o_bind ?_; intro x2 hx2
  refine o_bind ?_; intro x3 hx3
  refine o_bind ?_; intro x4 hx4
  refine o_bind ?_; intro x5 hx5
  refine f_op rfl rfl (s_loads Try.underlying41 rfl ty41 rfl (lds_cons (ldI_eq hx2) (lds_cons (ldI_eq hx3) (lds_cons (ldI_eq hx4) (lds_cons (ldI_eq hx5) (lds_nil)))))) ?_
  refine o_bind ?_; intro x6 hx6
  refine o_bind ?_; intro x7 hx7
  refine f_op rfl rfl (s_loads Try.underlying49 rfl ty49 rfl (lds_cons (ldI_eq hx6) (lds_cons (ldI_eq hx7) (lds_nil)))) ?_
  refine o_bind ?_; intro p8 hp8
  refine f_op rfl rfl (s_callO rfl ok67 (sim67 hp8) rfl rfl) ?_
  refine f_op rfl rfl (s_alloc (zs := [.int .i64 0, .int .i64 0]) ty23 rfl rfl) ?_
  refine o_bind ?_; intro H9 hH9
  refine f_op rfl rfl (s_stores ty23 rfl rfl rfl rfl hH9 (Nat.le_of_eq (sts_mono hH9).symm)) ?_
  refine f_nil ?_
  refine f_seq ?_
  refine f_region ?_
  refine o_bind ?_; intro x10 hx10
  refine o_bind ?_; intro x11 hx11
  refine f_op rfl rfl (s_loads Try.underlying23 rfl ty23 rfl (lds_cons (ldI_eq hx10) (lds_cons (ldI_eq hx11) (lds_nil)))) ?_
  refine o_bind ?_; intro x12 hx12
  refine o_bind ?_; intro x13 hx13
  refine f_op rfl rfl (s_loads Try.underlying23 rfl ty23 rfl (lds_cons (ldI_eq hx12) (lds_cons (ldI_eq hx13) (lds_nil)))) ?_
  refine o_bind ?_; intro p14 hp14
  refine f_op rfl rfl (s_callO rfl ok68 (sim68 hp14) rfl rfl) ?_
  refine f_op rfl rfl (s_gtr rfl rfl) ?_
  refine f_nil ?_
  refine f_if (fun h15 => ?_) (fun h15 => ?_)
  · skip
    refine f_know 12 rfl (dec_true h15) ?_
    refine f_condT rfl ?_
    refine f_bind ?_; intro x16 hx16
    refine f_bind ?_; intro x17 hx17
    refine f_bind ?_; intro x18 hx18
    refine f_bind ?_; intro x19 hx19
    refine f_bind ?_; intro x20 hx20
    refine f_bind ?_; intro x21 hx21
    refine f_bind ?_; intro H22 hH22
    refine f_bind ?_; intro H23 hH23
    refine f_ck fun g24 => ?_
    refine f_ck fun g25 => ?_
    refine f_draw (Φ := fun H_ => H_.ld H1.n 0 = some (.int .i64 x20) ∧ H_.ld H1.n (0 + 1) = some (.int .i64 x21)) (lim := 3) [1, 0, 2, 2] (Trc.read rfl rfl rfl (s_loads Try.underlying41 rfl ty41 rfl (lds_cons (ldI_eq hx16) (lds_cons (ldI_eq hx17) (lds_cons (ldI_eq hx18) (lds_cons (ldI_eq hx19) (lds_nil)))))) (Trc.pure rfl rfl rfl (.inr ⟨by decide +kernel, fun _ hp_ => s_loads Try.underlying23 rfl ty23 rfl (lds_cons hp_.1 (lds_cons hp_.2 (lds_nil)))⟩) (Trc.eff rfl rfl rfl (fun _ => ⟨ldI_eq hx20, ldI_eq hx21⟩) (s_stores ty41 rfl rfl rfl rfl hH22 (Nat.le_of_eq (sts_mono hH22).symm)) (Trc.eff rfl rfl rfl (fun _ => ⟨ldI_eq g24, ldI_eq g25⟩) (s_stores ty23 rfl rfl rfl rfl hH23 (Nat.le_of_eq (sts_mono hH23).symm)) (Trc.nil (fun h_ => absurd h_ (by decide +kernel))))))) rfl (by decide +kernel) mixed ?_
    exact f_end (.nil) rfl
  · skip
    refine f_know 12 rfl (dec_false h15) ?_
    refine f_condF rfl ?_
    refine f_skip ?_
    exact f_end (.nil) rfl

/- 84 slices.Values[congou/deals.offers,[2]int]$1 -/
theorem ok84 : FnOk Try.prog 84 := ⟨⟨Try.f84, Try.func84, by kernel_rfl, rfl⟩⟩
theorem s84_l0 {app : App} (happ : AppSim Try.prog app) : ∀ (k_ : Nat) (v1 : AV) (v2 : Sl) (v3 : Int) (v4 : Int) (H : Hp), Fin Try.prog Try.f84 ret84 16 (todoAt (bodyOf Try.f84) [1, 0, 0] []) [(0, v1), (5, .sl v2), (6, .int .i64 v3), (7, .int .i64 v4)] H (r84_l0 app k_ v1 v2 v3 v4 H) := by
  intro k_
  induction k_ with
  | zero => intro _ _ _ _ _; exact f_none
  | succ k_ ih =>
    intro v1 v2 v3 v4 H
    rw [r84_l0]
    refine f_seq ?_
    refine f_region ?_
    refine f_op rfl rfl (s_lss rfl rfl) ?_
    refine f_nil ?_
    refine f_seq ?_
    refine f_if (fun h1 => ?_) (fun h1 => ?_)
    · skip
      refine f_know 8 rfl (dec_true h1) ?_
      refine f_condT rfl ?_
      refine f_skip ?_
      refine f_seq ?_
      refine f_block ?_
      refine f_seq ?_
      refine f_region ?_
      refine o_ck fun g2 => ?_
      refine f_op rfl rfl (s_idx Try.underlying72 ty49 rfl rfl g2) ?_
      refine o_bind ?_; intro x3 hx3
      refine o_bind ?_; intro x4 hx4
      refine f_op rfl rfl (s_loads Try.underlying49 rfl ty49 rfl (lds_cons (ldI_eq hx3) (lds_cons (ldI_eq hx4) (lds_nil)))) ?_
      refine f_op rfl rfl (s_alloc (zs := [.int .i64 0, .int .i64 0]) ty49 rfl rfl) ?_
      refine o_bind ?_; intro H5 hH5
      refine f_op rfl rfl (s_stores ty49 rfl rfl rfl rfl hH5 (Nat.le_of_eq (sts_mono hH5).symm)) ?_
      refine f_nil ?_
      refine f_seq ?_
      refine f_region ?_
      refine f_op rfl rfl (s_mv (v := v1) rfl) ?_
      refine o_bind ?_; intro x6 hx6
      refine o_bind ?_; intro x7 hx7
      refine f_op rfl rfl (s_loads Try.underlying49 rfl ty49 rfl (lds_cons (ldI_eq hx6) (lds_cons (ldI_eq hx7) (lds_nil)))) ?_
      refine o_bind ?_; intro p8 hp8
      refine o_bind ?_; intro x9 hx9
      refine f_op rfl rfl (s_callv happ rfl rfl hp8) ?_
      refine o_know 13 rfl (asB_eq hx9) ?_
      refine f_op rfl rfl (s_not rfl) ?_
      refine f_nil ?_
      refine f_if (fun h10 => ?_) (fun h10 => ?_)
      · skip
        refine f_know 14 rfl (bool_notT h10) ?_
        refine f_condF rfl ?_
        refine f_skip ?_
        refine f_inBlock ?_
        refine f_region ?_
        refine f_op rfl rfl (s_add rfl rfl) ?_
        refine f_op rfl rfl (s_mv (v := .int .i64 (w64 (v4 + 1))) rfl) ?_
        refine f_nil ?_
        refine f_inLoop ?_
        refine f_keep [0, 5, 6, 7] ?_
        exact ih v1 v2 v3 (w64 (v4 + 1)) p8.2
      · skip
        refine f_know 14 rfl (bool_notF h10) ?_
        refine f_condT rfl ?_
        exact f_ret (.nil) rfl
    · skip
      refine f_know 8 rfl (dec_false h1) ?_
      refine f_condF rfl ?_
      refine f_exit rfl ?_
      exact f_end (.nil) rfl

theorem sim84 {app : App} (happ : AppSim Try.prog app) {a0 : AV} {c0 : Nat} {H : Hp} {p : Unit × Hp} (h : r84 app a0 c0 H = some p) : CallSim Try.prog 84 [a0, .ptr c0 0] H (.tup []) p.2 := by
  refine callSim (fn := Try.f84) (ret := ret84) Try.func84 rfl Try.ntmps84 rfl ?_ h
  unfold r84
  refine f_seq ?_
  refine f_region ?_
  refine o_bind ?_; intro x1 hx1
  refine f_op rfl rfl (s_load Try.underlying72 rfl rfl (ldSl_eq hx1)) ?_
  refine f_op rfl rfl (s_lenS rfl Try.underlying72 rfl) ?_
  refine f_op rfl rfl (s_mv (v := .int .i64 0) rfl) ?_
  refine f_nil ?_
  refine f_block ?_
  refine f_loop ?_
  refine f_keep [0, 5, 6, 7] ?_
  exact s84_l0 happ FUEL a0 x1 (x1.len : Int) 0 H

end Go.Lt.P5
