/- PRINTED BY A PROGRAM OF OURS: what each function that 'DealsRules' reaches computes on the abstract heap, and that the translated code does just that. Nothing is asked of the input. -/
import Derived.Test.YtficeemoekikdaaDoorG3P10
set_option linter.unusedVariables false
set_option linter.unusedSimpArgs false
set_option maxRecDepth 100000
set_option maxHeartbeats 4000000
namespace Go.Lt.P5
open Go Go.Lt Go.Proofs
/- 19 congou/deals.Product$1 -/
theorem ok19 : FnOk Tryd.prog 19 := ⟨⟨Tryd.f19, Tryd.func19, by kernel_rfl, rfl⟩⟩
theorem sim19 {a0_0 : Int} {a0_1 : Int} {a0_2 : Int} {a0_3 : Int} {c0 : Nat} {c1 : Nat} {c2 : Nat} {H : Hp} {p : Unit × Hp} (h : r19 a0_0 a0_1 a0_2 a0_3 c0 c1 c2 H = some p) : CallSim Tryd.prog 19 [.agg [.int .i64 a0_0, .int .i64 a0_1, .int .i64 a0_2, .int .i64 a0_3], .ptr c0 0, .ptr c1 0, .ptr c2 0] H (.tup []) p.2 := by
  refine callSim (fn := Tryd.f19) (ret := ret19) Tryd.func19 rfl Tryd.ntmps19 rfl ?_ h
  unfold r19
  refine f_seq ?_
  refine f_region ?_
  refine f_op rfl rfl (s_box (v := .agg [.int .i64 a0_0, .int .i64 a0_1, .int .i64 a0_2, .int .i64 a0_3]) rfl rfl) ?_
  refine o_hp ?_; intro H1 hH1
  refine f_nil ?_
  refine f_seq ?_
  refine f_region ?_
  refine o_bind ?_; intro x2 hx2
  refine o_bind ?_; intro x3 hx3
  refine o_bind ?_; intro x4 hx4
  refine o_bind ?_; intro x5 hx5
  refine f_op rfl rfl (s_loads Tryd.underlying27 rfl ty27 rfl (lds_cons (ldI_eq hx2) (lds_cons (ldI_eq hx3) (lds_cons (ldI_eq hx4) (lds_cons (ldI_eq hx5) (lds_nil)))))) ?_
  refine o_bind ?_; intro x6 hx6
  refine o_bind ?_; intro x7 hx7
  refine f_op rfl rfl (s_loads Tryd.underlying23 rfl ty23 rfl (lds_cons (ldI_eq hx6) (lds_cons (ldI_eq hx7) (lds_nil)))) ?_
  refine o_bind ?_; intro p8 hp8
  refine f_op rfl rfl (s_callO rfl ok20 (sim20 hp8) rfl rfl) ?_
  refine f_op rfl rfl (s_alloc (zs := [.int .i64 0, .int .i64 0]) ty25 rfl rfl) ?_
  refine o_bind ?_; intro H9 hH9
  refine f_op rfl rfl (s_stores ty25 rfl rfl rfl rfl hH9 (Nat.le_of_eq (sts_mono hH9).symm)) ?_
  refine f_nil ?_
  refine f_seq ?_
  refine f_region ?_
  refine o_bind ?_; intro x10 hx10
  refine o_bind ?_; intro x11 hx11
  refine f_op rfl rfl (s_loads Tryd.underlying25 rfl ty25 rfl (lds_cons (ldI_eq hx10) (lds_cons (ldI_eq hx11) (lds_nil)))) ?_
  refine o_bind ?_; intro x12 hx12
  refine o_bind ?_; intro x13 hx13
  refine f_op rfl rfl (s_loads Tryd.underlying25 rfl ty25 rfl (lds_cons (ldI_eq hx12) (lds_cons (ldI_eq hx13) (lds_nil)))) ?_
  refine o_bind ?_; intro p14 hp14
  refine f_op rfl rfl (s_callO rfl ok21 (sim21 hp14) rfl rfl) ?_
  refine f_op rfl rfl (s_gtr rfl rfl) ?_
  refine f_nil ?_
  refine f_if (fun h15 => ?_) (fun h15 => ?_)
  · skip
    refine f_know 12 rfl (dec_true h15) ?_
    refine f_condT rfl ?_
    refine f_bind ?_; intro x16 hx16
    refine f_bind ?_; intro x17 hx17
    refine f_bind ?_; intro x18 hx18
    refine f_bind ?_; intro x19 hx19
    refine f_bind ?_; intro x20 hx20
    refine f_bind ?_; intro x21 hx21
    refine f_bind ?_; intro H22 hH22
    refine f_bind ?_; intro H23 hH23
    refine f_ck fun g24 => ?_
    refine f_ck fun g25 => ?_
    refine f_draw (Φ := fun H_ => H_.ld H1.n 0 = some (.int .i64 x20) ∧ H_.ld H1.n (0 + 1) = some (.int .i64 x21)) (lim := 3) [1, 0, 2, 2] (Trc.read rfl rfl rfl (s_loads Tryd.underlying27 rfl ty27 rfl (lds_cons (ldI_eq hx16) (lds_cons (ldI_eq hx17) (lds_cons (ldI_eq hx18) (lds_cons (ldI_eq hx19) (lds_nil)))))) (Trc.pure rfl rfl rfl (.inr ⟨by decide +kernel, fun _ hp_ => s_loads Tryd.underlying25 rfl ty25 rfl (lds_cons hp_.1 (lds_cons hp_.2 (lds_nil)))⟩) (Trc.eff rfl rfl rfl (fun _ => ⟨ldI_eq hx20, ldI_eq hx21⟩) (s_stores ty27 rfl rfl rfl rfl hH22 (Nat.le_of_eq (sts_mono hH22).symm)) (Trc.eff rfl rfl rfl (fun _ => ⟨ldI_eq g24, ldI_eq g25⟩) (s_stores ty25 rfl rfl rfl rfl hH23 (Nat.le_of_eq (sts_mono hH23).symm)) (Trc.nil (fun h_ => absurd h_ (by decide +kernel))))))) rfl (by decide +kernel) mixed ?_
    exact f_end (.nil) rfl
  · skip
    refine f_know 12 rfl (dec_false h15) ?_
    refine f_condF rfl ?_
    refine f_skip ?_
    exact f_end (.nil) rfl

/- 53 slices.Values[congou/deals.offers,[2]int]$1 -/
theorem ok53 : FnOk Tryd.prog 53 := ⟨⟨Tryd.f53, Tryd.func53, by kernel_rfl, rfl⟩⟩
theorem s53_l0 {app : App} (happ : AppSim Tryd.prog app) : ∀ (k_ : Nat) (v1 : AV) (v2 : Sl) (v3 : Int) (v4 : Int) (H : Hp), Fin Tryd.prog Tryd.f53 ret53 16 (todoAt (bodyOf Tryd.f53) [1, 0, 0] []) [(0, v1), (5, .sl v2), (6, .int .i64 v3), (7, .int .i64 v4)] H (r53_l0 app k_ v1 v2 v3 v4 H) := by
  intro k_
  induction k_ with
  | zero => intro _ _ _ _ _; exact f_none
  | succ k_ ih =>
    intro v1 v2 v3 v4 H
    rw [r53_l0]
    refine f_seq ?_
    refine f_region ?_
    refine f_op rfl rfl (s_lss rfl rfl) ?_
    refine f_nil ?_
    refine f_seq ?_
    refine f_if (fun h1 => ?_) (fun h1 => ?_)
    · skip
      refine f_know 8 rfl (dec_true h1) ?_
      refine f_condT rfl ?_
      refine f_skip ?_
      refine f_seq ?_
      refine f_block ?_
      refine f_seq ?_
      refine f_region ?_
      refine o_ck fun g2 => ?_
      refine f_op rfl rfl (s_idx Tryd.underlying39 ty23 rfl rfl g2) ?_
      refine o_bind ?_; intro x3 hx3
      refine o_bind ?_; intro x4 hx4
      refine f_op rfl rfl (s_loads Tryd.underlying23 rfl ty23 rfl (lds_cons (ldI_eq hx3) (lds_cons (ldI_eq hx4) (lds_nil)))) ?_
      refine f_op rfl rfl (s_alloc (zs := [.int .i64 0, .int .i64 0]) ty23 rfl rfl) ?_
      refine o_bind ?_; intro H5 hH5
      refine f_op rfl rfl (s_stores ty23 rfl rfl rfl rfl hH5 (Nat.le_of_eq (sts_mono hH5).symm)) ?_
      refine f_nil ?_
      refine f_seq ?_
      refine f_region ?_
      refine f_op rfl rfl (s_mv (v := v1) rfl) ?_
      refine o_bind ?_; intro x6 hx6
      refine o_bind ?_; intro x7 hx7
      refine f_op rfl rfl (s_loads Tryd.underlying23 rfl ty23 rfl (lds_cons (ldI_eq hx6) (lds_cons (ldI_eq hx7) (lds_nil)))) ?_
      refine o_bind ?_; intro p8 hp8
      refine o_bind ?_; intro x9 hx9
      refine f_op rfl rfl (s_callv happ rfl rfl hp8) ?_
      refine o_know 13 rfl (asB_eq hx9) ?_
      refine f_op rfl rfl (s_not rfl) ?_
      refine f_nil ?_
      refine f_if (fun h10 => ?_) (fun h10 => ?_)
      · skip
        refine f_know 14 rfl (bool_notT h10) ?_
        refine f_condF rfl ?_
        refine f_skip ?_
        refine f_inBlock ?_
        refine f_region ?_
        refine f_op rfl rfl (s_add rfl rfl) ?_
        refine f_op rfl rfl (s_mv (v := .int .i64 (w64 (v4 + 1))) rfl) ?_
        refine f_nil ?_
        refine f_inLoop ?_
        refine f_keep [0, 5, 6, 7] ?_
        exact ih v1 v2 v3 (w64 (v4 + 1)) p8.2
      · skip
        refine f_know 14 rfl (bool_notF h10) ?_
        refine f_condT rfl ?_
        exact f_ret (.nil) rfl
    · skip
      refine f_know 8 rfl (dec_false h1) ?_
      refine f_condF rfl ?_
      refine f_exit rfl ?_
      exact f_end (.nil) rfl

theorem sim53 {app : App} (happ : AppSim Tryd.prog app) {a0 : AV} {c0 : Nat} {H : Hp} {p : Unit × Hp} (h : r53 app a0 c0 H = some p) : CallSim Tryd.prog 53 [a0, .ptr c0 0] H (.tup []) p.2 := by
  refine callSim (fn := Tryd.f53) (ret := ret53) Tryd.func53 rfl Tryd.ntmps53 rfl ?_ h
  unfold r53
  refine f_seq ?_
  refine f_region ?_
  refine o_bind ?_; intro x1 hx1
  refine f_op rfl rfl (s_load Tryd.underlying39 rfl rfl (ldSl_eq hx1)) ?_
  refine f_op rfl rfl (s_lenS rfl Tryd.underlying39 rfl) ?_
  refine f_op rfl rfl (s_mv (v := .int .i64 0) rfl) ?_
  refine f_nil ?_
  refine f_block ?_
  refine f_loop ?_
  refine f_keep [0, 5, 6, 7] ?_
  exact s53_l0 happ FUEL a0 x1 (x1.len : Int) 0 H

end Go.Lt.P5
