/- PRINTED BY A PROGRAM OF OURS: what each function that 'DealsRules' reaches computes on the abstract heap, and that the translated code does just that. Nothing is asked of the input. -/
import Derived.Test.YtficeemoekikdaaDoorG3P3
set_option linter.unusedVariables false
set_option linter.unusedSimpArgs false
set_option maxRecDepth 100000
set_option maxHeartbeats 4000000
namespace Go.Lt.P5
open Go Go.Lt Go.Proofs
/- 22 (congou/deals.offers).lines -/
theorem ok22 : FnOk Tryd.prog 22 := ⟨⟨Tryd.f22, Tryd.func22, by kernel_rfl, rfl⟩⟩
theorem s22_l0 {app : App} (happ : AppSim Tryd.prog app) : ∀ (k_ : Nat) (v1 : Sl) (v2 : Sl) (v3 : Int) (H : Hp), Fin Tryd.prog Tryd.f22 ret22 76 (todoAt (bodyOf Tryd.f22) [1, 1, 1, 0, 1, 0, 0] []) [(3, .sl v1), (4, .sl v2), (5, .int .i64 v3)] H (r22_l0 app k_ v1 v2 v3 H) := by
  intro k_
  induction k_ with
  | zero => intro _ _ _ _; exact f_none
  | succ k_ ih =>
    intro v1 v2 v3 H
    rw [r22_l0]
    refine f_seq ?_
    refine f_seq ?_
    refine f_region ?_
    refine f_op rfl rfl (s_mv (v := .int .i64 v3) rfl) ?_
    refine f_op rfl rfl (s_mv (v := .sl v1) rfl) ?_
    refine f_op rfl rfl (s_lenS rfl Tryd.underlying22 rfl) ?_
    refine f_op rfl rfl (s_lss rfl rfl) ?_
    refine f_nil ?_
    refine f_if (fun h1 => ?_) (fun h1 => ?_)
    · skip
      refine f_know 27 rfl (dec_true h1) ?_
      refine f_condT rfl ?_
      refine f_skip ?_
      refine f_seq ?_
      refine f_block ?_
      refine f_seq ?_
      refine f_ck fun g2 => ?_
      refine f_bind ?_; intro x3 hx3
      refine f_ck fun g4 => ?_
      refine f_bind ?_; intro x5 hx5
      refine f_ck fun g6 => ?_
      refine f_bind ?_; intro x7 hx7
      refine f_ck fun g8 => ?_
      refine f_bind ?_; intro x9 hx9
      refine f_draw (Φ := fun _ => True) (lim := 1000000) [0, 0, 0, 0, 0, 1, 0, 0, 0, 0, 1, 0, 0, 0, 0, 0, 1, 0, 0, 0, 0, 0, 1, 0, 0, 0] (Trc.pure rfl rfl rfl (.inl fun _ => s_mv (v := .sl v1) rfl) (Trc.pure rfl rfl rfl (.inl fun _ => s_mv (v := .int .i64 v3) rfl) (Trc.pure rfl rfl rfl (.inl fun _ => s_sub rfl rfl) (Trc.pure rfl rfl rfl (.inl fun _ => s_idx Tryd.underlying22 ty23 rfl rfl g2) (Trc.pure rfl rfl rfl (.inl fun _ => s_idxA Tryd.underlying23 ty3 rfl rfl (by decide)) (Trc.read rfl rfl rfl (s_load Tryd.underlying3 rfl rfl (ldI_eq hx3)) (Trc.pure rfl rfl rfl (.inl fun _ => s_mv (v := .sl v1) rfl) (Trc.pure rfl rfl rfl (.inl fun _ => s_mv (v := .int .i64 v3) rfl) (Trc.pure rfl rfl rfl (.inl fun _ => s_idx Tryd.underlying22 ty23 rfl rfl g4) (Trc.pure rfl rfl rfl (.inl fun _ => s_idxA Tryd.underlying23 ty3 rfl rfl (by decide)) (Trc.read rfl rfl rfl (s_load Tryd.underlying3 rfl rfl (ldI_eq hx5)) (Trc.pure rfl rfl rfl (.inl fun _ => s_sub rfl rfl) (Trc.pure rfl rfl rfl (.inl fun _ => s_mv (v := .sl v1) rfl) (Trc.pure rfl rfl rfl (.inl fun _ => s_mv (v := .int .i64 v3) rfl) (Trc.pure rfl rfl rfl (.inl fun _ => s_idx Tryd.underlying22 ty23 rfl rfl g6) (Trc.pure rfl rfl rfl (.inl fun _ => s_idxA Tryd.underlying23 ty3 rfl rfl (by decide)) (Trc.read rfl rfl rfl (s_load Tryd.underlying3 rfl rfl (ldI_eq hx7)) (Trc.pure rfl rfl rfl (.inl fun _ => s_mv (v := .sl v1) rfl) (Trc.pure rfl rfl rfl (.inl fun _ => s_mv (v := .int .i64 v3) rfl) (Trc.pure rfl rfl rfl (.inl fun _ => s_sub rfl rfl) (Trc.pure rfl rfl rfl (.inl fun _ => s_idx Tryd.underlying22 ty23 rfl rfl g8) (Trc.pure rfl rfl rfl (.inl fun _ => s_idxA Tryd.underlying23 ty3 rfl rfl (by decide)) (Trc.read rfl rfl rfl (s_load Tryd.underlying3 rfl rfl (ldI_eq hx9)) (Trc.pure rfl rfl rfl (.inl fun _ => s_sub rfl rfl) (Trc.pure rfl rfl rfl (.inl fun _ => s_as (v := .int .i64 (w64 (x3 - x5))) rfl) (Trc.pure rfl rfl rfl (.inl fun _ => s_as (v := .int .i64 (w64 (x7 - x9))) rfl) (Trc.nil (fun _ => trivial)))))))))))))))))))))))))))) rfl (by decide +kernel) mixed ?_
      refine f_ck fun g10 => ?_
      refine f_bind ?_; intro x11 hx11
      refine f_ck fun g12 => ?_
      refine f_bind ?_; intro x13 hx13
      refine f_bind ?_; intro x14 hx14
      refine f_draw (Φ := fun _ => True) (lim := 1000000) [0, 0, 0, 0, 0, 0, 0, 0, 1, 0, 0, 0, 0, 0, 0, 1, 0, 0, 0, 2, 2, 0] (Trc.pure rfl rfl rfl (.inl fun _ => s_mv (v := .sl v2) rfl) (Trc.pure rfl rfl rfl (.inl fun _ => s_mv (v := .int .i64 (w64 (x3 - x5))) rfl) (Trc.pure rfl rfl rfl (.inl fun _ => s_mv (v := .int .i64 (w64 (x7 - x9))) rfl) (Trc.pure rfl rfl rfl (.inl fun _ => s_mv (v := .int .i64 (w64 (x3 - x5))) rfl) (Trc.pure rfl rfl rfl (.inl fun _ => s_mv (v := .sl v1) rfl) (Trc.pure rfl rfl rfl (.inl fun _ => s_mv (v := .int .i64 v3) rfl) (Trc.pure rfl rfl rfl (.inl fun _ => s_idx Tryd.underlying22 ty23 rfl rfl g10) (Trc.pure rfl rfl rfl (.inl fun _ => s_idxA Tryd.underlying23 ty3 rfl rfl (by decide)) (Trc.read rfl rfl rfl (s_load Tryd.underlying3 rfl rfl (ldI_eq hx11)) (Trc.pure rfl rfl rfl (.inl fun _ => s_mul rfl rfl) (Trc.pure rfl rfl rfl (.inl fun _ => s_mv (v := .int .i64 (w64 (x7 - x9))) rfl) (Trc.pure rfl rfl rfl (.inl fun _ => s_mv (v := .sl v1) rfl) (Trc.pure rfl rfl rfl (.inl fun _ => s_mv (v := .int .i64 v3) rfl) (Trc.pure rfl rfl rfl (.inl fun _ => s_idx Tryd.underlying22 ty23 rfl rfl g12) (Trc.pure rfl rfl rfl (.inl fun _ => s_idxA Tryd.underlying23 ty3 rfl rfl (by decide)) (Trc.read rfl rfl rfl (s_load Tryd.underlying3 rfl rfl (ldI_eq hx13)) (Trc.pure rfl rfl rfl (.inl fun _ => s_mul rfl rfl) (Trc.pure rfl rfl rfl (.inl fun _ => s_add rfl rfl) (Trc.pure rfl rfl rfl (.inl fun _ => s_build (cs := [.int .i64 (w64 (x3 - x5)), .int .i64 (w64 (x7 - x9)), .int .i64 (w64 ((w64 ((w64 (x3 - x5)) * x11)) + (w64 ((w64 (x7 - x9)) * x13))))]) Tryd.underlying49 ty49 rfl pl49 rfl) (Trc.eff rfl rfl rfl (fun _ => trivial) (s_buildSlice (cs := [.int .i64 (w64 (x3 - x5)), .int .i64 (w64 (x7 - x9)), .int .i64 (w64 ((w64 ((w64 (x3 - x5)) * x11)) + (w64 ((w64 (x7 - x9)) * x13))))]) Tryd.underlying50 ty49 (by decide) (by decide) rfl (by decide) rfl) (Trc.eff rfl rfl rfl (fun _ => trivial) (s_ap rfl rfl Tryd.underlying50 Tryd.underlying50 ty49 rfl rfl rfl rfl rfl rfl rfl hx14) (Trc.pure rfl rfl rfl (.inl fun _ => s_as (v := .sl x14.1) rfl) (Trc.nil (fun _ => trivial)))))))))))))))))))))))) rfl (by decide +kernel) mixed ?_
      refine f_inBlock ?_
      refine f_region ?_
      refine f_op rfl rfl (s_mv (v := .int .i64 v3) rfl) ?_
      refine f_op rfl rfl (s_add rfl rfl) ?_
      refine f_op rfl rfl (s_as (v := .int .i64 (w64 (v3 + 1))) rfl) ?_
      refine f_nil ?_
      refine f_inLoop ?_
      refine f_keep [3, 4, 5] ?_
      exact ih v1 x14.1 (w64 (v3 + 1)) x14.2
    · skip
      refine f_know 27 rfl (dec_false h1) ?_
      refine f_condF rfl ?_
      refine f_exit rfl ?_
      refine f_seq ?_
      refine f_region ?_
      refine f_op rfl rfl (s_mv (v := .sl v2) rfl) ?_
      refine f_op rfl rfl (s_as (v := .sl v2) rfl) ?_
      refine f_nil ?_
      exact f_ret (.tmp rfl (.nil)) rfl

theorem sim22 {app : App} (happ : AppSim Tryd.prog app) {a0 : Sl} {H : Hp} {p : Sl × Hp} (h : r22 app a0 H = some p) : CallSim Tryd.prog 22 [.sl a0] H (.sl p.1) p.2 := by
  refine callSim (fn := Tryd.f22) (ret := ret22) Tryd.func22 rfl Tryd.ntmps22 rfl ?_ h
  unfold r22
  refine f_seq ?_
  refine f_region ?_
  refine f_op rfl rfl (s_as (v := .sl ⟨true, 0, 0, 0, 0, 0⟩) rfl) ?_
  refine f_nil ?_
  refine f_seq ?_
  refine f_region ?_
  refine f_op rfl rfl (s_mv (v := .sl a0) rfl) ?_
  refine o_bind ?_; intro p1 hp1
  refine f_op rfl rfl (s_callF rfl ok17 (sim17 happ hp1)) ?_
  refine f_op rfl rfl (s_as (v := .sl p1.1) rfl) ?_
  refine f_nil ?_
  refine f_seq ?_
  refine f_ck fun g2 => ?_
  refine f_bind ?_; intro x3 hx3
  refine f_ck fun g4 => ?_
  refine f_bind ?_; intro x5 hx5
  refine f_draw (Φ := fun _ => True) (lim := 1000000) [0, 0, 0, 1, 0, 0, 0, 0, 0, 0, 0, 1, 0, 2, 0] (Trc.pure rfl rfl rfl (.inl fun _ => s_mv (v := .sl p1.1) rfl) (Trc.pure rfl rfl rfl (.inl fun _ => s_idx Tryd.underlying22 ty23 rfl rfl g2) (Trc.pure rfl rfl rfl (.inl fun _ => s_idxA Tryd.underlying23 ty3 rfl rfl (by decide)) (Trc.read rfl rfl rfl (s_load Tryd.underlying3 rfl rfl (ldI_eq hx3)) (Trc.pure rfl rfl rfl (.inl fun _ => s_build (cs := [.int .i64 0, .int .i64 1, .int .i64 x3]) Tryd.underlying49 ty49 rfl pl49 rfl) (Trc.pure rfl rfl rfl (.inl fun _ => s_mv (v := .sl p1.1) rfl) (Trc.pure rfl rfl rfl (.inl fun _ => s_mv (v := .sl p1.1) rfl) (Trc.pure rfl rfl rfl (.inl fun _ => s_lenS rfl Tryd.underlying22 rfl) (Trc.pure rfl rfl rfl (.inl fun _ => s_sub rfl rfl) (Trc.pure rfl rfl rfl (.inl fun _ => s_idx Tryd.underlying22 ty23 rfl rfl g4) (Trc.pure rfl rfl rfl (.inl fun _ => s_idxA Tryd.underlying23 ty3 rfl rfl (by decide)) (Trc.read rfl rfl rfl (s_load Tryd.underlying3 rfl rfl (ldI_eq hx5)) (Trc.pure rfl rfl rfl (.inl fun _ => s_build (cs := [.int .i64 1, .int .i64 0, .int .i64 x5]) Tryd.underlying49 ty49 rfl pl49 rfl) (Trc.eff rfl rfl rfl (fun _ => trivial) (s_buildSlice (cs := [.int .i64 0, .int .i64 1, .int .i64 x3, .int .i64 1, .int .i64 0, .int .i64 x5]) Tryd.underlying50 ty49 (by decide) (by decide) rfl (by decide) rfl) (Trc.pure rfl rfl rfl (.inl fun _ => s_as (v := .sl ⟨false, p1.2.n, 0, 2, 2, 0⟩) rfl) (Trc.nil (fun _ => trivial))))))))))))))))) rfl (by decide +kernel) mixed ?_
  refine f_seq ?_
  refine f_seq ?_
  refine f_region ?_
  refine f_op rfl rfl (s_as (v := .int .i64 1) rfl) ?_
  refine o_hp ?_; intro H6 hH6
  refine f_nil ?_
  refine f_block ?_
  refine f_loop ?_
  refine f_keep [3, 4, 5] ?_
  exact s22_l0 happ FUEL p1.1 ⟨false, p1.2.n, 0, 2, 2, 0⟩ 1 H6

/- 38 congou/deals.isNumber -/
theorem ok38 : FnOk Tryd.prog 38 := ⟨⟨Tryd.f38, Tryd.func38, by kernel_rfl, rfl⟩⟩
theorem sim38 {a0 : Int} {H : Hp} {p : Bool × Hp} (h : r38 a0 H = some p) : CallSim Tryd.prog 38 [.int .i64 a0] H (.bool p.1) p.2 := by
  refine callSim (fn := Tryd.f38) (ret := ret38) Tryd.func38 rfl Tryd.ntmps38 rfl ?_ h
  unfold r38
  refine f_seq ?_
  refine f_region ?_
  refine f_op rfl rfl (s_as (v := .bool false) rfl) ?_
  refine f_nil ?_
  refine f_seq ?_
  refine f_region ?_
  refine f_op rfl rfl (s_mv (v := .int .i64 a0) rfl) ?_
  refine f_op rfl rfl (s_geq rfl rfl) ?_
  refine f_op rfl rfl (s_mv (v := .bool (decide (0 ≤ a0))) rfl) ?_
  refine o_if (fun h1 => ?_) (fun h1 => ?_)
  · skip
    refine o_know 5 rfl (dec_true h1) ?_
    refine f_op rfl rfl (s_mv (v := .int .i64 a0) rfl) ?_
    refine f_op rfl rfl (s_leq rfl rfl) ?_
    refine f_op rfl rfl (s_pickT (v := .bool (decide (a0 ≤ 30))) rfl rfl) ?_
    refine f_op rfl rfl (s_as (v := .bool (decide (a0 ≤ 30))) rfl) ?_
    refine f_nil ?_
    exact f_ret (.tmp rfl (.nil)) rfl
  · skip
    refine o_know 5 rfl (dec_false h1) ?_
    refine f_no rfl rfl ?_
    refine f_no rfl rfl ?_
    refine f_op rfl rfl (s_pickF (v := .bool false) rfl rfl) ?_
    refine f_op rfl rfl (s_as (v := .bool false) rfl) ?_
    refine f_nil ?_
    exact f_ret (.tmp rfl (.nil)) rfl

/- 55 slices.Index[congou/deals.offers,[2]int] -/
theorem ok55 : FnOk Tryd.prog 55 := ⟨⟨Tryd.f55, Tryd.func55, by kernel_rfl, rfl⟩⟩
theorem s55_l0 : ∀ (k_ : Nat) (v1 : Sl) (v2 : Nat) (v3 : Int) (v4 : Int) (H : Hp), Fin Tryd.prog Tryd.f55 ret55 19 (todoAt (bodyOf Tryd.f55) [1, 0, 1, 0, 0] []) [(0, .sl v1), (3, .ptr v2 0), (7, .int .i64 v3), (8, .int .i64 v4)] H (r55_l0 k_ v1 v2 v3 v4 H) := by
  intro k_
  induction k_ with
  | zero => intro _ _ _ _ _; exact f_none
  | succ k_ ih =>
    intro v1 v2 v3 v4 H
    rw [r55_l0]
    refine f_seq ?_
    refine f_region ?_
    refine f_op rfl rfl (s_lss rfl rfl) ?_
    refine f_nil ?_
    refine f_seq ?_
    refine f_if (fun h1 => ?_) (fun h1 => ?_)
    · skip
      refine f_know 9 rfl (dec_true h1) ?_
      refine f_condT rfl ?_
      refine f_skip ?_
      refine f_seq ?_
      refine f_block ?_
      refine f_seq ?_
      refine f_region ?_
      refine f_op rfl rfl (s_mv (v := .int .i64 v4) rfl) ?_
      refine f_op rfl rfl (s_as (v := .int .i64 v4) rfl) ?_
      refine f_nil ?_
      refine f_seq ?_
      refine f_bind ?_; intro x2 hx2
      refine f_bind ?_; intro x3 hx3
      refine f_ck fun g4 => ?_
      refine f_bind ?_; intro x5 hx5
      refine f_bind ?_; intro x6 hx6
      refine f_draw (Φ := fun _ => True) (lim := 1000000) [1, 0, 0, 0, 1, 0] (Trc.read rfl rfl rfl (s_loads Tryd.underlying23 rfl ty23 rfl (lds_cons (ldI_eq hx2) (lds_cons (ldI_eq hx3) (lds_nil)))) (Trc.pure rfl rfl rfl (.inl fun _ => s_mv (v := .sl v1) rfl) (Trc.pure rfl rfl rfl (.inl fun _ => s_mv (v := .int .i64 v4) rfl) (Trc.pure rfl rfl rfl (.inl fun _ => s_idx Tryd.underlying39 ty23 rfl rfl g4) (Trc.read rfl rfl rfl (s_loads Tryd.underlying23 rfl ty23 rfl (lds_cons (ldI_eq hx5) (lds_cons (ldI_eq hx6) (lds_nil)))) (Trc.pure rfl rfl rfl (.inl fun _ => s_eqArr eg23 Tryd.underlying23 Tryd.underlying3 ty3 rfl rfl rfl rfl rfl rfl) (Trc.nil (fun _ => trivial)))))))) rfl (by decide +kernel) mixed ?_
      refine f_if (fun h7 => ?_) (fun h7 => ?_)
      · skip
        refine f_know 16 rfl (bool_T h7) ?_
        refine f_condT rfl ?_
        refine f_seq ?_
        refine f_region ?_
        refine f_op rfl rfl (s_mv (v := .int .i64 v4) rfl) ?_
        refine f_op rfl rfl (s_as (v := .int .i64 v4) rfl) ?_
        refine f_nil ?_
        exact f_ret (.tmp rfl (.nil)) rfl
      · skip
        refine f_know 16 rfl (bool_F h7) ?_
        refine f_condF rfl ?_
        refine f_skip ?_
        refine f_inBlock ?_
        refine f_region ?_
        refine f_op rfl rfl (s_add rfl rfl) ?_
        refine f_op rfl rfl (s_mv (v := .int .i64 (w64 (v4 + 1))) rfl) ?_
        refine f_nil ?_
        refine f_inLoop ?_
        refine f_keep [0, 3, 7, 8] ?_
        exact ih v1 v2 v3 (w64 (v4 + 1)) H
    · skip
      refine f_know 9 rfl (dec_false h1) ?_
      refine f_condF rfl ?_
      refine f_exit rfl ?_
      refine f_seq ?_
      refine f_region ?_
      refine f_op rfl rfl (s_as (v := .int .i64 (-1)) rfl) ?_
      refine f_nil ?_
      exact f_ret (.tmp rfl (.nil)) rfl

theorem sim55 {a0 : Sl} {a1_0 : Int} {a1_1 : Int} {H : Hp} {p : Int × Hp} (h : r55 a0 a1_0 a1_1 H = some p) : CallSim Tryd.prog 55 [.sl a0, .agg [.int .i64 a1_0, .int .i64 a1_1]] H (.int .i64 p.1) p.2 := by
  refine callSim (fn := Tryd.f55) (ret := ret55) Tryd.func55 rfl Tryd.ntmps55 rfl ?_ h
  unfold r55
  refine f_seq ?_
  refine f_region ?_
  refine f_op rfl rfl (s_box (v := .agg [.int .i64 a1_0, .int .i64 a1_1]) rfl rfl) ?_
  refine f_op rfl rfl (s_as (v := .int .i64 0) rfl) ?_
  refine o_hp ?_; intro H1 hH1
  refine f_nil ?_
  refine f_seq ?_
  refine f_seq ?_
  refine f_region ?_
  refine f_op rfl rfl (s_mv (v := .sl a0) rfl) ?_
  refine f_op rfl rfl (s_lenS rfl Tryd.underlying39 rfl) ?_
  refine f_op rfl rfl (s_mv (v := .int .i64 0) rfl) ?_
  refine f_nil ?_
  refine f_block ?_
  refine f_loop ?_
  refine f_keep [0, 3, 7, 8] ?_
  exact s55_l0 FUEL a0 H.n (a0.len : Int) 0 H1

/- 50 slices.Contains[congou/deals.offers,[2]int] -/
theorem ok50 : FnOk Tryd.prog 50 := ⟨⟨Tryd.f50, Tryd.func50, by kernel_rfl, rfl⟩⟩
theorem sim50 {a0 : Sl} {a1_0 : Int} {a1_1 : Int} {H : Hp} {p : Bool × Hp} (h : r50 a0 a1_0 a1_1 H = some p) : CallSim Tryd.prog 50 [.sl a0, .agg [.int .i64 a1_0, .int .i64 a1_1]] H (.bool p.1) p.2 := by
  refine callSim (fn := Tryd.f50) (ret := ret50) Tryd.func50 rfl Tryd.ntmps50 rfl ?_ h
  unfold r50
  refine f_seq ?_
  refine f_region ?_
  refine f_op rfl rfl (s_box (v := .agg [.int .i64 a1_0, .int .i64 a1_1]) rfl rfl) ?_
  refine f_op rfl rfl (s_as (v := .bool false) rfl) ?_
  refine o_hp ?_; intro H1 hH1
  refine f_nil ?_
  refine f_seq ?_
  refine f_region ?_
  refine f_op rfl rfl (s_mv (v := .sl a0) rfl) ?_
  refine o_bind ?_; intro x2 hx2
  refine o_bind ?_; intro x3 hx3
  refine f_op rfl rfl (s_loads Tryd.underlying23 rfl ty23 rfl (lds_cons (ldI_eq hx2) (lds_cons (ldI_eq hx3) (lds_nil)))) ?_
  refine o_bind ?_; intro p4 hp4
  refine f_op rfl rfl (s_callF rfl ok55 (sim55 hp4)) ?_
  refine f_op rfl rfl (s_geq rfl rfl) ?_
  refine f_op rfl rfl (s_as (v := .bool (decide (0 ≤ p4.1))) rfl) ?_
  refine f_nil ?_
  exact f_ret (.tmp rfl (.nil)) rfl

/- 37 (congou/deals.offers).valid -/
theorem ok37 : FnOk Tryd.prog 37 := ⟨⟨Tryd.f37, Tryd.func37, by kernel_rfl, rfl⟩⟩
theorem s37_j2 (kt1 : Sl → Sl → Int → Int → Hp → Option (Bool × Hp)) (hkt1 : ∀ (v1 : Sl) (v2 : Sl) (v3 : Int) (v4 : Int) (H : Hp), Fin Tryd.prog Tryd.f37 ret37 38 (todoAt (bodyOf Tryd.f37) [1, 1, 0, 1, 0, 0] []) [(0, .sl v1), (13, .sl v2), (14, .int .i64 v3), (15, .int .i64 v4)] H (kt1 v1 v2 v3 v4 H)) (v1 : Sl) (v2 : Sl) (v3 : Int) (v4 : Int) (v5 : Bool) (H : Hp) : Fin Tryd.prog Tryd.f37 ret37 38 (todoAt (bodyOf Tryd.f37) [1, 1, 0, 1, 0, 0, 1, 1, 0, 0, 1, 1] []) [(0, .sl v1), (13, .sl v2), (14, .int .i64 v3), (15, .int .i64 v4), (36, .bool v5)] H (r37_j2 kt1 v1 v2 v3 v4 v5 H) := by
  unfold r37_j2
  refine f_if (fun h1 => ?_) (fun h1 => ?_)
  · skip
    refine f_know 36 rfl (bool_T h1) ?_
    refine f_condT rfl ?_
    refine f_seq ?_
    refine f_region ?_
    refine f_op rfl rfl (s_as (v := .bool false) rfl) ?_
    refine f_nil ?_
    exact f_ret (.tmp rfl (.nil)) rfl
  · skip
    refine f_know 36 rfl (bool_F h1) ?_
    refine f_condF rfl ?_
    refine f_skip ?_
    refine f_inBlock ?_
    refine f_region ?_
    refine f_op rfl rfl (s_add rfl rfl) ?_
    refine f_op rfl rfl (s_mv (v := .int .i64 (w64 (v4 + 1))) rfl) ?_
    refine f_nil ?_
    refine f_inLoop ?_
    refine f_keep [0, 13, 14, 15] ?_
    exact hkt1 v1 v2 v3 (w64 (v4 + 1)) H

theorem s37_l1 : ∀ (k_ : Nat) (v1 : Sl) (v2 : Sl) (v3 : Int) (v4 : Int) (H : Hp), Fin Tryd.prog Tryd.f37 ret37 38 (todoAt (bodyOf Tryd.f37) [1, 1, 0, 1, 0, 0] []) [(0, .sl v1), (13, .sl v2), (14, .int .i64 v3), (15, .int .i64 v4)] H (r37_l1 k_ v1 v2 v3 v4 H) := by
  intro k_
  induction k_ with
  | zero => intro _ _ _ _ _; exact f_none
  | succ k_ ih =>
    intro v1 v2 v3 v4 H
    rw [r37_l1]
    refine f_seq ?_
    refine f_region ?_
    refine f_op rfl rfl (s_lss rfl rfl) ?_
    refine f_nil ?_
    refine f_seq ?_
    refine f_if (fun h1 => ?_) (fun h1 => ?_)
    · skip
      refine f_know 16 rfl (dec_true h1) ?_
      refine f_condT rfl ?_
      refine f_skip ?_
      refine f_seq ?_
      refine f_block ?_
      refine f_seq ?_
      refine f_region ?_
      refine f_op rfl rfl (s_mv (v := .int .i64 v4) rfl) ?_
      refine o_ck fun g2 => ?_
      refine f_op rfl rfl (s_idx Tryd.underlying39 ty23 rfl rfl g2) ?_
      refine o_bind ?_; intro x3 hx3
      refine o_bind ?_; intro x4 hx4
      refine f_op rfl rfl (s_loads Tryd.underlying23 rfl ty23 rfl (lds_cons (ldI_eq hx3) (lds_cons (ldI_eq hx4) (lds_nil)))) ?_
      refine f_op rfl rfl (s_alloc (zs := [.int .i64 0, .int .i64 0]) ty23 rfl rfl) ?_
      refine f_op rfl rfl (s_as (v := .int .i64 v4) rfl) ?_
      refine o_bind ?_; intro H5 hH5
      refine f_op rfl rfl (s_stores ty23 rfl rfl rfl rfl hH5 (Nat.le_of_eq (sts_mono hH5).symm)) ?_
      refine f_nil ?_
      refine f_seq ?_
      refine f_bind ?_; intro x6 hx6
      refine f_bind ?_; intro p7 hp7
      refine f_if (fun h8 => ?_) (fun h8 => ?_)
      · skip
        refine f_bind ?_; intro x9 hx9
        refine f_bind ?_; intro p10 hp10
        refine f_if (fun h11 => ?_) (fun h11 => ?_)
        · skip
          refine f_ck fun g12 => ?_
          refine f_bind ?_; intro x13 hx13
          refine f_bind ?_; intro x14 hx14
          refine f_bind ?_; intro p15 hp15
          refine f_draw (Φ := fun _ => True) (lim := 1000000) [0, 1, 0, 0, 0, 0, 1, 0, 0, 0, 0, 0, 0, 0, 1, 2, 0] (Trc.pure rfl rfl rfl (.inl fun _ => s_idxA Tryd.underlying23 ty3 rfl rfl (by decide)) (Trc.read rfl rfl rfl (s_load Tryd.underlying3 rfl rfl (ldI_eq hx6)) (Trc.pure rfl rfl rfl (.inl fun _ => s_callO rfl ok38 (sim38 hp7) rfl rfl) (Trc.pure rfl rfl rfl (.inl fun _ => s_not rfl) (Trc.pure rfl rfl rfl (.inl fun _ => s_mv (v := .bool (!p7.1)) rfl) (Trc.know 24 rfl (bool_notT h8) (Trc.pure rfl rfl rfl (.inl fun _ => s_idxA Tryd.underlying23 ty3 rfl rfl (by decide)) (Trc.read rfl rfl rfl (s_load Tryd.underlying3 rfl rfl (ldI_eq hx9)) (Trc.pure rfl rfl rfl (.inl fun _ => s_callO rfl ok38 (sim38 hp10) rfl rfl) (Trc.pure rfl rfl rfl (.inl fun _ => s_not rfl) (Trc.pure rfl rfl rfl (.inl fun _ => s_pickF (v := .bool (!p10.1)) rfl rfl) (Trc.pure rfl rfl rfl (.inl fun _ => s_mv (v := .bool (!p10.1)) rfl) (Trc.know 30 rfl (bool_notT h11) (Trc.pure rfl rfl rfl (.inl fun _ => s_mv (v := .sl v1) rfl) (Trc.pure rfl rfl rfl (.inl fun _ => s_mv (v := .int .i64 v4) rfl) (Trc.pure rfl rfl rfl (.inl fun _ => s_slice Tryd.underlying39 ty23 rfl rfl rfl g12.1 g12.2) (Trc.read rfl rfl rfl (s_loads Tryd.underlying23 rfl ty23 rfl (lds_cons (ldI_eq hx13) (lds_cons (ldI_eq hx14) (lds_nil)))) (Trc.eff rfl rfl rfl (fun _ => trivial) (s_callF rfl ok50 (sim50 hp15)) (Trc.pure rfl rfl rfl (.inl fun _ => s_pickF (v := .bool p15.1) rfl rfl) (Trc.nil (fun _ => trivial))))))))))))))))))))) rfl (by decide +kernel) mixed ?_
          refine f_keep [0, 13, 14, 15, 36] ?_
          exact s37_j2 _ (fun v1_ v2_ v3_ v4_ H_ => ih v1_ v2_ v3_ v4_ H_) v1 v2 v3 v4 p15.1 p15.2
        · skip
          refine f_draw (Φ := fun _ => True) (lim := 1000000) [0, 1, 0, 0, 0, 0, 1, 0, 0, 0, 0, 0, 0, 0, 0, 0, 0] (Trc.pure rfl rfl rfl (.inl fun _ => s_idxA Tryd.underlying23 ty3 rfl rfl (by decide)) (Trc.read rfl rfl rfl (s_load Tryd.underlying3 rfl rfl (ldI_eq hx6)) (Trc.pure rfl rfl rfl (.inl fun _ => s_callO rfl ok38 (sim38 hp7) rfl rfl) (Trc.pure rfl rfl rfl (.inl fun _ => s_not rfl) (Trc.pure rfl rfl rfl (.inl fun _ => s_mv (v := .bool (!p7.1)) rfl) (Trc.know 24 rfl (bool_notT h8) (Trc.pure rfl rfl rfl (.inl fun _ => s_idxA Tryd.underlying23 ty3 rfl rfl (by decide)) (Trc.read rfl rfl rfl (s_load Tryd.underlying3 rfl rfl (ldI_eq hx9)) (Trc.pure rfl rfl rfl (.inl fun _ => s_callO rfl ok38 (sim38 hp10) rfl rfl) (Trc.pure rfl rfl rfl (.inl fun _ => s_not rfl) (Trc.pure rfl rfl rfl (.inl fun _ => s_pickF (v := .bool (!p10.1)) rfl rfl) (Trc.pure rfl rfl rfl (.inl fun _ => s_mv (v := .bool (!p10.1)) rfl) (Trc.know 30 rfl (bool_notF h11) (Trc.no rfl rfl rfl (Trc.no rfl rfl rfl (Trc.no rfl rfl rfl (Trc.no rfl rfl rfl (Trc.no rfl rfl rfl (Trc.pure rfl rfl rfl (.inl fun _ => s_pickT (v := .bool true) rfl rfl) (Trc.nil (fun _ => trivial))))))))))))))))))))) rfl (by decide +kernel) mixed ?_
          refine f_keep [0, 13, 14, 15, 36] ?_
          exact s37_j2 _ (fun v1_ v2_ v3_ v4_ H_ => ih v1_ v2_ v3_ v4_ H_) v1 v2 v3 v4 true H5
      · skip
        refine f_draw (Φ := fun _ => True) (lim := 1000000) [0, 1, 0, 0, 0, 0, 0, 0, 0, 0, 0, 0, 0, 0, 0, 0, 0] (Trc.pure rfl rfl rfl (.inl fun _ => s_idxA Tryd.underlying23 ty3 rfl rfl (by decide)) (Trc.read rfl rfl rfl (s_load Tryd.underlying3 rfl rfl (ldI_eq hx6)) (Trc.pure rfl rfl rfl (.inl fun _ => s_callO rfl ok38 (sim38 hp7) rfl rfl) (Trc.pure rfl rfl rfl (.inl fun _ => s_not rfl) (Trc.pure rfl rfl rfl (.inl fun _ => s_mv (v := .bool (!p7.1)) rfl) (Trc.know 24 rfl (bool_notF h8) (Trc.no rfl rfl rfl (Trc.no rfl rfl rfl (Trc.no rfl rfl rfl (Trc.no rfl rfl rfl (Trc.pure rfl rfl rfl (.inl fun _ => s_pickT (v := .bool true) rfl rfl) (Trc.pure rfl rfl rfl (.inl fun _ => s_mv (v := .bool true) rfl) (Trc.no rfl rfl rfl (Trc.no rfl rfl rfl (Trc.no rfl rfl rfl (Trc.no rfl rfl rfl (Trc.no rfl rfl rfl (Trc.pure rfl rfl rfl (.inl fun _ => s_pickT (v := .bool true) rfl rfl) (Trc.nil (fun _ => trivial)))))))))))))))))))) rfl (by decide +kernel) mixed ?_
        refine f_keep [0, 13, 14, 15, 36] ?_
        exact s37_j2 _ (fun v1_ v2_ v3_ v4_ H_ => ih v1_ v2_ v3_ v4_ H_) v1 v2 v3 v4 true H5
    · skip
      refine f_know 16 rfl (dec_false h1) ?_
      refine f_condF rfl ?_
      refine f_exit rfl ?_
      refine f_seq ?_
      refine f_region ?_
      refine f_op rfl rfl (s_as (v := .bool true) rfl) ?_
      refine f_nil ?_
      exact f_ret (.tmp rfl (.nil)) rfl

theorem s37_j0 (v1 : Sl) (v2 : Bool) (H : Hp) : Fin Tryd.prog Tryd.f37 ret37 38 (todoAt (bodyOf Tryd.f37) [1, 0, 1] []) [(0, .sl v1), (12, .bool v2)] H (r37_j0 v1 v2 H) := by
  unfold r37_j0
  refine f_if (fun h1 => ?_) (fun h1 => ?_)
  · skip
    refine f_know 12 rfl (bool_T h1) ?_
    refine f_condT rfl ?_
    refine f_seq ?_
    refine f_region ?_
    refine f_op rfl rfl (s_as (v := .bool false) rfl) ?_
    refine f_nil ?_
    exact f_ret (.tmp rfl (.nil)) rfl
  · skip
    refine f_know 12 rfl (bool_F h1) ?_
    refine f_condF rfl ?_
    refine f_skip ?_
    refine f_seq ?_
    refine f_seq ?_
    refine f_region ?_
    refine f_op rfl rfl (s_mv (v := .sl v1) rfl) ?_
    refine f_op rfl rfl (s_lenS rfl Tryd.underlying39 rfl) ?_
    refine f_op rfl rfl (s_mv (v := .int .i64 0) rfl) ?_
    refine f_nil ?_
    refine f_block ?_
    refine f_loop ?_
    refine f_keep [0, 13, 14, 15] ?_
    exact s37_l1 FUEL v1 v1 (v1.len : Int) 0 H

theorem sim37 {a0 : Sl} {H : Hp} {p : Bool × Hp} (h : r37 a0 H = some p) : CallSim Tryd.prog 37 [.sl a0] H (.bool p.1) p.2 := by
  refine callSim (fn := Tryd.f37) (ret := ret37) Tryd.func37 rfl Tryd.ntmps37 rfl ?_ h
  unfold r37
  refine f_seq ?_
  refine f_region ?_
  refine f_op rfl rfl (s_as (v := .bool false) rfl) ?_
  refine f_nil ?_
  refine f_seq ?_
  refine f_seq ?_
  refine f_region ?_
  refine f_op rfl rfl (s_mv (v := .sl a0) rfl) ?_
  refine f_op rfl rfl (s_lenS rfl Tryd.underlying39 rfl) ?_
  refine f_op rfl rfl (s_lss rfl rfl) ?_
  refine f_op rfl rfl (s_mv (v := .bool (decide ((a0.len : Int) < 1))) rfl) ?_
  refine o_if (fun h1 => ?_) (fun h1 => ?_)
  · skip
    refine o_know 8 rfl (dec_true h1) ?_
    refine f_no rfl rfl ?_
    refine f_no rfl rfl ?_
    refine f_no rfl rfl ?_
    refine f_op rfl rfl (s_pickT (v := .bool true) rfl rfl) ?_
    refine f_nil ?_
    refine f_keep [0, 12] ?_
    exact s37_j0 a0 true H
  · skip
    refine o_know 8 rfl (dec_false h1) ?_
    refine f_op rfl rfl (s_mv (v := .sl a0) rfl) ?_
    refine f_op rfl rfl (s_lenS rfl Tryd.underlying39 rfl) ?_
    refine f_op rfl rfl (s_gtr rfl rfl) ?_
    refine f_op rfl rfl (s_pickF (v := .bool (decide (8 < (a0.len : Int)))) rfl rfl) ?_
    refine f_nil ?_
    refine f_keep [0, 12] ?_
    exact s37_j0 a0 (decide (8 < (a0.len : Int))) H

/- 39 (congou/deals.line).rest -/
theorem ok39 : FnOk Tryd.prog 39 := ⟨⟨Tryd.f39, Tryd.func39, by kernel_rfl, rfl⟩⟩
theorem sim39 {a0_0 : Int} {a0_1 : Int} {a0_2 : Int} {a1_0 : Int} {a1_1 : Int} {H : Hp} {p : Int × Hp} (h : r39 a0_0 a0_1 a0_2 a1_0 a1_1 H = some p) : CallSim Tryd.prog 39 [.agg [.int .i64 a0_0, .int .i64 a0_1, .int .i64 a0_2], .agg [.int .i64 a1_0, .int .i64 a1_1]] H (.int .i64 p.1) p.2 := by
  refine callSim (fn := Tryd.f39) (ret := ret39) Tryd.func39 rfl Tryd.ntmps39 rfl ?_ h
  unfold r39
  refine f_seq ?_
  refine f_region ?_
  refine f_op rfl rfl (s_box (v := .agg [.int .i64 a0_0, .int .i64 a0_1, .int .i64 a0_2]) rfl rfl) ?_
  refine f_op rfl rfl (s_box (v := .agg [.int .i64 a1_0, .int .i64 a1_1]) rfl rfl) ?_
  refine f_op rfl rfl (s_as (v := .int .i64 0) rfl) ?_
  refine o_hp ?_; intro H1 hH1
  refine f_nil ?_
  refine f_seq ?_
  refine f_region ?_
  refine f_op rfl rfl (s_fieldAddr Tryd.underlying49 rfl ty3 rfl) ?_
  refine o_bind ?_; intro x2 hx2
  refine f_op rfl rfl (s_load Tryd.underlying3 rfl rfl (ldI_eq hx2)) ?_
  refine f_op rfl rfl (s_fieldAddr Tryd.underlying49 rfl ty3 rfl) ?_
  refine o_bind ?_; intro x3 hx3
  refine f_op rfl rfl (s_load Tryd.underlying3 rfl rfl (ldI_eq hx3)) ?_
  refine f_op rfl rfl (s_idxA Tryd.underlying23 ty3 rfl rfl (by decide)) ?_
  refine o_bind ?_; intro x4 hx4
  refine f_op rfl rfl (s_load Tryd.underlying3 rfl rfl (ldI_eq hx4)) ?_
  refine f_op rfl rfl (s_mul rfl rfl) ?_
  refine f_op rfl rfl (s_sub rfl rfl) ?_
  refine f_op rfl rfl (s_fieldAddr Tryd.underlying49 rfl ty3 rfl) ?_
  refine o_bind ?_; intro x5 hx5
  refine f_op rfl rfl (s_load Tryd.underlying3 rfl rfl (ldI_eq hx5)) ?_
  refine f_op rfl rfl (s_idxA Tryd.underlying23 ty3 rfl rfl (by decide)) ?_
  refine o_bind ?_; intro x6 hx6
  refine f_op rfl rfl (s_load Tryd.underlying3 rfl rfl (ldI_eq hx6)) ?_
  refine f_op rfl rfl (s_mul rfl rfl) ?_
  refine f_op rfl rfl (s_sub rfl rfl) ?_
  refine f_op rfl rfl (s_as (v := .int .i64 (w64 ((w64 (x2 - (w64 (x3 * x4)))) - (w64 (x5 * x6))))) rfl) ?_
  refine f_nil ?_
  exact f_ret (.tmp rfl (.nil)) rfl

/- 16 congou/deals.read -/
theorem ok16 : FnOk Tryd.prog 16 := ⟨⟨Tryd.f16, Tryd.func16, by kernel_rfl, rfl⟩⟩
theorem s16_l0 {app : App} (happ : AppSim Tryd.prog app) : ∀ (k_ : Nat) (v1 : Nat) (v2 : Sl) (v3 : Sl) (v4 : Int) (v5 : Int) (H : Hp), Fin Tryd.prog Tryd.f16 ret16 38 (todoAt (bodyOf Tryd.f16) [1, 1, 1, 0, 1, 0, 0] []) [(3, .ptr v1 0), (6, .sl v2), (26, .sl v3), (27, .int .i64 v4), (28, .int .i64 v5)] H (r16_l0 app k_ v1 v2 v3 v4 v5 H) := by
  intro k_
  induction k_ with
  | zero => intro _ _ _ _ _ _; exact f_none
  | succ k_ ih =>
    intro v1 v2 v3 v4 v5 H
    rw [r16_l0]
    refine f_seq ?_
    refine f_region ?_
    refine f_op rfl rfl (s_lss rfl rfl) ?_
    refine f_nil ?_
    refine f_seq ?_
    refine f_if (fun h1 => ?_) (fun h1 => ?_)
    · skip
      refine f_know 29 rfl (dec_true h1) ?_
      refine f_condT rfl ?_
      refine f_skip ?_
      refine f_seq ?_
      refine f_block ?_
      refine f_seq ?_
      refine f_region ?_
      refine o_ck fun g2 => ?_
      refine f_op rfl rfl (s_idx Tryd.underlying50 ty49 rfl rfl g2) ?_
      refine o_bind ?_; intro x3 hx3
      refine o_bind ?_; intro x4 hx4
      refine o_bind ?_; intro x5 hx5
      refine f_op rfl rfl (s_loads Tryd.underlying49 rfl ty49 rfl (lds_cons (ldI_eq hx3) (lds_cons (ldI_eq hx4) (lds_cons (ldI_eq hx5) (lds_nil))))) ?_
      refine f_op rfl rfl (s_alloc (zs := [.int .i64 0, .int .i64 0, .int .i64 0]) ty49 rfl rfl) ?_
      refine o_bind ?_; intro H6 hH6
      refine f_op rfl rfl (s_stores ty49 rfl rfl rfl rfl hH6 (Nat.le_of_eq (sts_mono hH6).symm)) ?_
      refine f_nil ?_
      refine f_seq ?_
      refine f_region ?_
      refine o_bind ?_; intro x7 hx7
      refine o_bind ?_; intro x8 hx8
      refine o_bind ?_; intro x9 hx9
      refine f_op rfl rfl (s_loads Tryd.underlying49 rfl ty49 rfl (lds_cons (ldI_eq hx7) (lds_cons (ldI_eq hx8) (lds_cons (ldI_eq hx9) (lds_nil))))) ?_
      refine o_bind ?_; intro x10 hx10
      refine o_bind ?_; intro x11 hx11
      refine f_op rfl rfl (s_loads Tryd.underlying23 rfl ty23 rfl (lds_cons (ldI_eq hx10) (lds_cons (ldI_eq hx11) (lds_nil)))) ?_
      refine o_bind ?_; intro p12 hp12
      refine f_op rfl rfl (s_callO rfl ok39 (sim39 hp12) rfl rfl) ?_
      refine f_op rfl rfl (s_leq rfl rfl) ?_
      refine f_nil ?_
      refine f_if (fun h13 => ?_) (fun h13 => ?_)
      · skip
        refine f_know 35 rfl (dec_true h13) ?_
        refine f_condT rfl ?_
        refine f_seq ?_
        refine f_region ?_
        refine f_op rfl rfl (s_as (v := .sl ⟨true, 0, 0, 0, 0, 0⟩) rfl) ?_
        refine f_op rfl rfl (s_as (v := .int .i64 4) rfl) ?_
        refine f_nil ?_
        exact f_ret (.tmp rfl (.tmp rfl (.nil))) rfl
      · skip
        refine f_know 35 rfl (dec_false h13) ?_
        refine f_condF rfl ?_
        refine f_skip ?_
        refine f_inBlock ?_
        refine f_region ?_
        refine f_op rfl rfl (s_add rfl rfl) ?_
        refine f_op rfl rfl (s_mv (v := .int .i64 (w64 (v5 + 1))) rfl) ?_
        refine f_nil ?_
        refine f_inLoop ?_
        refine f_keep [3, 6, 26, 27, 28] ?_
        exact ih v1 v2 v3 v4 (w64 (v5 + 1)) H6
    · skip
      refine f_know 29 rfl (dec_false h1) ?_
      refine f_condF rfl ?_
      refine f_exit rfl ?_
      refine f_seq ?_
      refine f_region ?_
      refine f_op rfl rfl (s_mv (v := .sl v2) rfl) ?_
      refine f_op rfl rfl (s_as (v := .sl v2) rfl) ?_
      refine f_op rfl rfl (s_as (v := .int .i64 0) rfl) ?_
      refine f_nil ?_
      exact f_ret (.tmp rfl (.tmp rfl (.nil))) rfl

theorem s16_j1 {app : App} (happ : AppSim Tryd.prog app) (v1 : Nat) (v2 : Sl) (v3 : Bool) (H : Hp) : Fin Tryd.prog Tryd.f16 ret16 38 (todoAt (bodyOf Tryd.f16) [1, 1, 0, 1] []) [(3, .ptr v1 0), (6, .sl v2), (24, .bool v3)] H (r16_j1 app v1 v2 v3 H) := by
  unfold r16_j1
  refine f_if (fun h1 => ?_) (fun h1 => ?_)
  · skip
    refine f_know 24 rfl (bool_T h1) ?_
    refine f_condT rfl ?_
    refine f_seq ?_
    refine f_region ?_
    refine f_op rfl rfl (s_as (v := .sl ⟨true, 0, 0, 0, 0, 0⟩) rfl) ?_
    refine f_op rfl rfl (s_as (v := .int .i64 2) rfl) ?_
    refine f_nil ?_
    exact f_ret (.tmp rfl (.tmp rfl (.nil))) rfl
  · skip
    refine f_know 24 rfl (bool_F h1) ?_
    refine f_condF rfl ?_
    refine f_skip ?_
    refine f_seq ?_
    refine f_seq ?_
    refine f_region ?_
    refine f_op rfl rfl (s_mv (v := .sl v2) rfl) ?_
    refine o_bind ?_; intro p2 hp2
    refine f_op rfl rfl (s_callF rfl ok22 (sim22 happ hp2)) ?_
    refine f_op rfl rfl (s_lenS rfl Tryd.underlying50 rfl) ?_
    refine f_op rfl rfl (s_mv (v := .int .i64 0) rfl) ?_
    refine f_nil ?_
    refine f_block ?_
    refine f_loop ?_
    refine f_keep [3, 6, 26, 27, 28] ?_
    exact s16_l0 happ FUEL v1 v2 p2.1 (p2.1.len : Int) 0 p2.2

theorem sim16 {app : App} (happ : AppSim Tryd.prog app) {a0 : Sl} {a1_0 : Int} {a1_1 : Int} {H : Hp} {p : (Sl × Int) × Hp} (h : r16 app a0 a1_0 a1_1 H = some p) : CallSim Tryd.prog 16 [.sl a0, .agg [.int .i64 a1_0, .int .i64 a1_1]] H (.tup [.sl p.1.1, .int .i64 p.1.2]) p.2 := by
  refine callSim (fn := Tryd.f16) (ret := ret16) Tryd.func16 rfl Tryd.ntmps16 rfl ?_ h
  unfold r16
  refine f_seq ?_
  refine f_region ?_
  refine f_op rfl rfl (s_box (v := .agg [.int .i64 a1_0, .int .i64 a1_1]) rfl rfl) ?_
  refine f_op rfl rfl (s_as (v := .sl ⟨true, 0, 0, 0, 0, 0⟩) rfl) ?_
  refine f_op rfl rfl (s_as (v := .int .i64 0) rfl) ?_
  refine o_hp ?_; intro H1 hH1
  refine f_nil ?_
  refine f_seq ?_
  refine f_region ?_
  refine f_op rfl rfl (s_mv (v := .sl a0) rfl) ?_
  refine f_op rfl rfl (s_as (v := .sl a0) rfl) ?_
  refine f_nil ?_
  refine f_seq ?_
  refine f_seq ?_
  refine f_region ?_
  refine f_op rfl rfl (s_mv (v := .sl a0) rfl) ?_
  refine o_bind ?_; intro p2 hp2
  refine f_op rfl rfl (s_callF rfl ok37 (sim37 hp2)) ?_
  refine f_op rfl rfl (s_not rfl) ?_
  refine f_op rfl rfl (s_mv (v := .bool (!p2.1)) rfl) ?_
  refine o_if (fun h3 => ?_) (fun h3 => ?_)
  · skip
    refine o_know 13 rfl (bool_notT h3) ?_
    refine f_op rfl rfl (s_idxA Tryd.underlying23 ty3 rfl rfl (by decide)) ?_
    refine o_bind ?_; intro x4 hx4
    refine f_op rfl rfl (s_load Tryd.underlying3 rfl rfl (ldI_eq hx4)) ?_
    refine o_bind ?_; intro p5 hp5
    refine f_op rfl rfl (s_callO rfl ok38 (sim38 hp5) rfl rfl) ?_
    refine f_op rfl rfl (s_not rfl) ?_
    refine f_op rfl rfl (s_pickF (v := .bool (!p5.1)) rfl rfl) ?_
    refine f_op rfl rfl (s_mv (v := .bool (!p5.1)) rfl) ?_
    refine o_if (fun h6 => ?_) (fun h6 => ?_)
    · skip
      refine o_know 19 rfl (bool_notT h6) ?_
      refine f_op rfl rfl (s_idxA Tryd.underlying23 ty3 rfl rfl (by decide)) ?_
      refine o_bind ?_; intro x7 hx7
      refine f_op rfl rfl (s_load Tryd.underlying3 rfl rfl (ldI_eq hx7)) ?_
      refine o_bind ?_; intro p8 hp8
      refine f_op rfl rfl (s_callO rfl ok38 (sim38 hp8) rfl rfl) ?_
      refine f_op rfl rfl (s_not rfl) ?_
      refine f_op rfl rfl (s_pickF (v := .bool (!p8.1)) rfl rfl) ?_
      refine f_nil ?_
      refine f_keep [3, 6, 24] ?_
      exact s16_j1 happ H.n a0 (!p8.1) p2.2
    · skip
      refine o_know 19 rfl (bool_notF h6) ?_
      refine f_no rfl rfl ?_
      refine f_no rfl rfl ?_
      refine f_no rfl rfl ?_
      refine f_no rfl rfl ?_
      refine f_op rfl rfl (s_pickT (v := .bool true) rfl rfl) ?_
      refine f_nil ?_
      refine f_keep [3, 6, 24] ?_
      exact s16_j1 happ H.n a0 true p2.2
  · skip
    refine o_know 13 rfl (bool_notF h3) ?_
    refine f_no rfl rfl ?_
    refine f_no rfl rfl ?_
    refine f_no rfl rfl ?_
    refine f_no rfl rfl ?_
    refine f_op rfl rfl (s_pickT (v := .bool true) rfl rfl) ?_
    refine f_op rfl rfl (s_mv (v := .bool true) rfl) ?_
    refine f_no rfl rfl ?_
    refine f_no rfl rfl ?_
    refine f_no rfl rfl ?_
    refine f_no rfl rfl ?_
    refine f_op rfl rfl (s_pickT (v := .bool true) rfl rfl) ?_
    refine f_nil ?_
    refine f_keep [3, 6, 24] ?_
    exact s16_j1 happ H.n a0 true p2.2

/- 45 congou/deals.gcd -/
theorem ok45 : FnOk Tryd.prog 45 := ⟨⟨Tryd.f45, Tryd.func45, by kernel_rfl, rfl⟩⟩
theorem s45_l0 : ∀ (k_ : Nat) (v1 : Int) (v2 : Int) (H : Hp), Fin Tryd.prog Tryd.f45 ret45 15 (todoAt (bodyOf Tryd.f45) [1, 0, 0, 0] []) [(0, .int .i64 v1), (1, .int .i64 v2)] H (r45_l0 k_ v1 v2 H) := by
  intro k_
  induction k_ with
  | zero => intro _ _ _; exact f_none
  | succ k_ ih =>
    intro v1 v2 H
    rw [r45_l0]
    refine f_seq ?_
    refine f_seq ?_
    refine f_region ?_
    refine f_op rfl rfl (s_mv (v := .int .i64 v2) rfl) ?_
    refine f_op rfl rfl (s_neq rfl rfl) ?_
    refine f_nil ?_
    refine f_if (fun h1 => ?_) (fun h1 => ?_)
    · skip
      refine f_know 6 rfl (dec_true h1) ?_
      refine f_condT rfl ?_
      refine f_skip ?_
      refine f_block ?_
      refine f_ck fun g2 => ?_
      refine f_draw (Φ := fun _ => True) (lim := 1000000) [0, 0, 0, 0, 0, 0] (Trc.pure rfl rfl rfl (.inl fun _ => s_mv (v := .int .i64 v2) rfl) (Trc.pure rfl rfl rfl (.inl fun _ => s_mv (v := .int .i64 v1) rfl) (Trc.pure rfl rfl rfl (.inl fun _ => s_mv (v := .int .i64 v2) rfl) (Trc.pure rfl rfl rfl (.inl fun _ => s_rem rfl rfl g2) (Trc.pure rfl rfl rfl (.inl fun _ => s_as (v := .int .i64 v2) rfl) (Trc.pure rfl rfl rfl (.inl fun _ => s_as (v := .int .i64 (Int.tmod v1 v2)) rfl) (Trc.nil (fun _ => trivial)))))))) rfl (by decide +kernel) mixed ?_
      refine f_inBlock ?_
      refine f_inLoop ?_
      refine f_keep [0, 1] ?_
      exact ih v2 (Int.tmod v1 v2) H
    · skip
      refine f_know 6 rfl (dec_false h1) ?_
      refine f_condF rfl ?_
      refine f_exit rfl ?_
      refine f_seq ?_
      refine f_region ?_
      refine f_op rfl rfl (s_mv (v := .int .i64 v1) rfl) ?_
      refine f_op rfl rfl (s_mv (v := .int .i64 v1) rfl) ?_
      refine f_op rfl rfl (s_neg rfl) ?_
      refine f_op rfl rfl (s_max2 rfl rfl) ?_
      refine f_op rfl rfl (s_as (v := .int .i64 (if v1 < (w64 (0 - v1)) then (w64 (0 - v1)) else v1)) rfl) ?_
      refine f_nil ?_
      exact f_ret (.tmp rfl (.nil)) rfl

theorem sim45 {a0 : Int} {a1 : Int} {H : Hp} {p : Int × Hp} (h : r45 a0 a1 H = some p) : CallSim Tryd.prog 45 [.int .i64 a0, .int .i64 a1] H (.int .i64 p.1) p.2 := by
  refine callSim (fn := Tryd.f45) (ret := ret45) Tryd.func45 rfl Tryd.ntmps45 rfl ?_ h
  unfold r45
  refine f_seq ?_
  refine f_region ?_
  refine f_op rfl rfl (s_as (v := .int .i64 0) rfl) ?_
  refine f_nil ?_
  refine f_seq ?_
  refine f_block ?_
  refine f_loop ?_
  refine f_keep [0, 1] ?_
  exact s45_l0 FUEL a0 a1 H

/- 18 congou/deals.frac -/
theorem ok18 : FnOk Tryd.prog 18 := ⟨⟨Tryd.f18, Tryd.func18, by kernel_rfl, rfl⟩⟩
theorem s18_j0 (v1 : Int) (v2 : Int) (v3 : Nat) (H : Hp) : Fin Tryd.prog Tryd.f18 ret18 22 (todoAt (bodyOf Tryd.f18) [1, 1] []) [(0, .int .i64 v1), (1, .int .i64 v2), (4, .ptr v3 0)] H (r18_j0 v1 v2 v3 H) := by
  unfold r18_j0
  refine f_seq ?_
  refine f_region ?_
  refine f_op rfl rfl (s_mv (v := .int .i64 v1) rfl) ?_
  refine f_op rfl rfl (s_mv (v := .int .i64 v2) rfl) ?_
  refine o_bind ?_; intro p1 hp1
  refine f_op rfl rfl (s_callO rfl ok45 (sim45 hp1) rfl rfl) ?_
  refine f_op rfl rfl (s_as (v := .int .i64 p1.1) rfl) ?_
  refine f_nil ?_
  refine f_seq ?_
  refine f_ck fun g2 => ?_
  refine f_ck fun g3 => ?_
  refine f_bind ?_; intro H4 hH4
  refine f_draw (Φ := fun _ => True) (lim := 1000000) [0, 0, 0, 0, 0, 0, 0, 2] (Trc.pure rfl rfl rfl (.inl fun _ => s_mv (v := .int .i64 v1) rfl) (Trc.pure rfl rfl rfl (.inl fun _ => s_mv (v := .int .i64 p1.1) rfl) (Trc.pure rfl rfl rfl (.inl fun _ => s_quo rfl rfl g2) (Trc.pure rfl rfl rfl (.inl fun _ => s_mv (v := .int .i64 v2) rfl) (Trc.pure rfl rfl rfl (.inl fun _ => s_mv (v := .int .i64 p1.1) rfl) (Trc.pure rfl rfl rfl (.inl fun _ => s_quo rfl rfl g3) (Trc.pure rfl rfl rfl (.inl fun _ => s_build (cs := [.int .i64 (w64 (Int.tdiv v1 p1.1)), .int .i64 (w64 (Int.tdiv v2 p1.1))]) Tryd.underlying25 ty25 rfl pl25 rfl) (Trc.eff rfl rfl rfl (fun _ => trivial) (s_stores ty25 rfl rfl rfl rfl hH4 (Nat.le_of_eq (sts_mono hH4).symm)) (Trc.nil (fun _ => trivial)))))))))) rfl (by decide +kernel) mixed ?_
  refine f_bind ?_; intro x5 hx5
  refine f_bind ?_; intro x6 hx6
  exact f_ret (.cells Tryd.underlying25 rfl sz25 rfl (lds_cons (ldI_eq hx5) (lds_cons (ldI_eq hx6) (lds_nil))) (.nil)) rfl

theorem sim18 {a0 : Int} {a1 : Int} {H : Hp} {p : (Int × Int) × Hp} (h : r18 a0 a1 H = some p) : CallSim Tryd.prog 18 [.int .i64 a0, .int .i64 a1] H (.agg [.int .i64 p.1.1, .int .i64 p.1.2]) p.2 := by
  refine callSim (fn := Tryd.f18) (ret := ret18) Tryd.func18 rfl Tryd.ntmps18 rfl ?_ h
  unfold r18
  refine f_seq ?_
  refine f_region ?_
  refine f_op rfl rfl (s_alloc (zs := [.int .i64 0, .int .i64 0]) ty25 rfl rfl) ?_
  refine o_hp ?_; intro H1 hH1
  refine f_nil ?_
  refine f_seq ?_
  refine f_seq ?_
  refine f_region ?_
  refine f_op rfl rfl (s_mv (v := .int .i64 a1) rfl) ?_
  refine f_op rfl rfl (s_lss rfl rfl) ?_
  refine f_nil ?_
  refine f_if (fun h2 => ?_) (fun h2 => ?_)
  · skip
    refine f_know 7 rfl (dec_true h2) ?_
    refine f_condT rfl ?_
    refine f_region ?_
    refine f_op rfl rfl (s_mv (v := .int .i64 a0) rfl) ?_
    refine f_op rfl rfl (s_neg rfl) ?_
    refine f_op rfl rfl (s_mv (v := .int .i64 a1) rfl) ?_
    refine f_op rfl rfl (s_neg rfl) ?_
    refine f_op rfl rfl (s_as (v := .int .i64 (w64 (0 - a0))) rfl) ?_
    refine f_op rfl rfl (s_as (v := .int .i64 (w64 (0 - a1))) rfl) ?_
    refine f_nil ?_
    refine f_keep [0, 1, 4] ?_
    exact s18_j0 (w64 (0 - a0)) (w64 (0 - a1)) H.n H1
  · skip
    refine f_know 7 rfl (dec_false h2) ?_
    refine f_condF rfl ?_
    refine f_skip ?_
    refine f_keep [0, 1, 4] ?_
    exact s18_j0 a0 a1 H.n H1

/- 21 congou/deals.compare -/
theorem ok21 : FnOk Tryd.prog 21 := ⟨⟨Tryd.f21, Tryd.func21, by kernel_rfl, rfl⟩⟩
theorem sim21 {a0_0 : Int} {a0_1 : Int} {a1_0 : Int} {a1_1 : Int} {H : Hp} {p : Int × Hp} (h : r21 a0_0 a0_1 a1_0 a1_1 H = some p) : CallSim Tryd.prog 21 [.agg [.int .i64 a0_0, .int .i64 a0_1], .agg [.int .i64 a1_0, .int .i64 a1_1]] H (.int .i64 p.1) p.2 := by
  refine callSim (fn := Tryd.f21) (ret := ret21) Tryd.func21 rfl Tryd.ntmps21 rfl ?_ h
  unfold r21
  refine f_seq ?_
  refine f_region ?_
  refine f_op rfl rfl (s_box (v := .agg [.int .i64 a0_0, .int .i64 a0_1]) rfl rfl) ?_
  refine f_op rfl rfl (s_box (v := .agg [.int .i64 a1_0, .int .i64 a1_1]) rfl rfl) ?_
  refine f_op rfl rfl (s_as (v := .int .i64 0) rfl) ?_
  refine o_hp ?_; intro H1 hH1
  refine f_nil ?_
  refine f_seq ?_
  refine f_region ?_
  refine f_op rfl rfl (s_fieldAddr Tryd.underlying25 rfl ty3 rfl) ?_
  refine o_bind ?_; intro x2 hx2
  refine f_op rfl rfl (s_load Tryd.underlying3 rfl rfl (ldI_eq hx2)) ?_
  refine f_op rfl rfl (s_fieldAddr Tryd.underlying25 rfl ty3 rfl) ?_
  refine o_bind ?_; intro x3 hx3
  refine f_op rfl rfl (s_load Tryd.underlying3 rfl rfl (ldI_eq hx3)) ?_
  refine f_op rfl rfl (s_mul rfl rfl) ?_
  refine f_op rfl rfl (s_fieldAddr Tryd.underlying25 rfl ty3 rfl) ?_
  refine o_bind ?_; intro x4 hx4
  refine f_op rfl rfl (s_load Tryd.underlying3 rfl rfl (ldI_eq hx4)) ?_
  refine f_op rfl rfl (s_fieldAddr Tryd.underlying25 rfl ty3 rfl) ?_
  refine o_bind ?_; intro x5 hx5
  refine f_op rfl rfl (s_load Tryd.underlying3 rfl rfl (ldI_eq hx5)) ?_
  refine f_op rfl rfl (s_mul rfl rfl) ?_
  refine o_bind ?_; intro p6 hp6
  refine f_op rfl rfl (s_callO rfl ok46 (sim46 hp6) rfl rfl) ?_
  refine f_op rfl rfl (s_as (v := .int .i64 p6.1) rfl) ?_
  refine f_nil ?_
  exact f_ret (.tmp rfl (.nil)) rfl

/- 23 (congou/deals.line).middle -/
theorem ok23 : FnOk Tryd.prog 23 := ⟨⟨Tryd.f23, Tryd.func23, by kernel_rfl, rfl⟩⟩
theorem sim23 {a0_0 : Int} {a0_1 : Int} {a0_2 : Int} {a1_0 : Int} {a1_1 : Int} {a2_0 : Int} {a2_1 : Int} {a3_0 : Int} {a3_1 : Int} {H : Hp} {p : (Int × Int × Int × Int × Bool) × Hp} (h : r23 a0_0 a0_1 a0_2 a1_0 a1_1 a2_0 a2_1 a3_0 a3_1 H = some p) : CallSim Tryd.prog 23 [.agg [.int .i64 a0_0, .int .i64 a0_1, .int .i64 a0_2], .agg [.int .i64 a1_0, .int .i64 a1_1], .agg [.int .i64 a2_0, .int .i64 a2_1], .agg [.int .i64 a3_0, .int .i64 a3_1]] H (.tup [.agg [.int .i64 p.1.1, .int .i64 p.1.2.1, .int .i64 p.1.2.2.1, .int .i64 p.1.2.2.2.1], .bool p.1.2.2.2.2]) p.2 := by
  refine callSim (fn := Tryd.f23) (ret := ret23) Tryd.func23 rfl Tryd.ntmps23 rfl ?_ h
  unfold r23
  refine f_seq ?_
  refine f_region ?_
  refine f_op rfl rfl (s_box (v := .agg [.int .i64 a0_0, .int .i64 a0_1, .int .i64 a0_2]) rfl rfl) ?_
  refine f_op rfl rfl (s_box (v := .agg [.int .i64 a1_0, .int .i64 a1_1]) rfl rfl) ?_
  refine f_op rfl rfl (s_box (v := .agg [.int .i64 a2_0, .int .i64 a2_1]) rfl rfl) ?_
  refine f_op rfl rfl (s_box (v := .agg [.int .i64 a3_0, .int .i64 a3_1]) rfl rfl) ?_
  refine f_op rfl rfl (s_alloc (zs := [.int .i64 0, .int .i64 0, .int .i64 0, .int .i64 0]) ty27 rfl rfl) ?_
  refine f_op rfl rfl (s_as (v := .bool false) rfl) ?_
  refine o_hp ?_; intro H1 hH1
  refine f_nil ?_
  refine f_seq ?_
  refine f_bind ?_; intro x2 hx2
  refine f_bind ?_; intro x3 hx3
  refine f_bind ?_; intro x4 hx4
  refine f_bind ?_; intro x5 hx5
  refine f_bind ?_; intro x6 hx6
  refine f_bind ?_; intro p7 hp7
  refine f_bind ?_; intro x8 hx8
  refine f_bind ?_; intro x9 hx9
  refine f_bind ?_; intro x10 hx10
  refine f_bind ?_; intro p11 hp11
  refine f_bind ?_; intro x12 hx12
  refine f_bind ?_; intro x13 hx13
  refine f_bind ?_; intro x14 hx14
  refine f_bind ?_; intro x15 hx15
  refine f_bind ?_; intro x16 hx16
  refine f_bind ?_; intro p17 hp17
  refine f_bind ?_; intro x18 hx18
  refine f_bind ?_; intro x19 hx19
  refine f_bind ?_; intro x20 hx20
  refine f_bind ?_; intro p21 hp21
  refine f_bind ?_; intro H22 hH22
  refine f_drawF (Φ := fun _ => True) (lim := 1000000) [1, 1, 0, 0, 1, 0, 0, 1, 0, 0, 0, 1, 0, 0, 1, 1, 0, 0, 1, 0, 0, 1, 0, 0, 0, 1, 0, 0, 0, 2, 2] [false, false, false, false, false, false, false, false, false, false, false, false, false, false, false, false, false, false, false, false, false, false, false, false, false, false, false, false, false, true, false] 29 30 (Trc.read rfl rfl rfl (s_loads Tryd.underlying49 rfl ty49 rfl (lds_cons (ldI_eq hx2) (lds_cons (ldI_eq hx3) (lds_cons (ldI_eq hx4) (lds_nil))))) (Trc.read rfl rfl rfl (s_loads Tryd.underlying23 rfl ty23 rfl (lds_cons (ldI_eq hx5) (lds_cons (ldI_eq hx6) (lds_nil)))) (Trc.pure rfl rfl rfl (.inl fun _ => s_callO rfl ok39 (sim39 hp7) rfl rfl) (Trc.pure rfl rfl rfl (.inl fun _ => s_fieldAddr Tryd.underlying49 rfl ty3 rfl) (Trc.read rfl rfl rfl (s_load Tryd.underlying3 rfl rfl (ldI_eq hx8)) (Trc.pure rfl rfl rfl (.inl fun _ => s_mul rfl rfl) (Trc.pure rfl rfl rfl (.inl fun _ => s_idxA Tryd.underlying23 ty3 rfl rfl (by decide)) (Trc.read rfl rfl rfl (s_load Tryd.underlying3 rfl rfl (ldI_eq hx9)) (Trc.pure rfl rfl rfl (.inl fun _ => s_mul rfl rfl) (Trc.pure rfl rfl rfl (.inl fun _ => s_add rfl rfl) (Trc.pure rfl rfl rfl (.inl fun _ => s_fieldAddr Tryd.underlying49 rfl ty3 rfl) (Trc.read rfl rfl rfl (s_load Tryd.underlying3 rfl rfl (ldI_eq hx10)) (Trc.pure rfl rfl rfl (.inl fun _ => s_mul rfl rfl) (Trc.pure rfl rfl rfl (.inl fun _ => s_callO rfl ok18 (sim18 hp11) rfl rfl) (Trc.read rfl rfl rfl (s_loads Tryd.underlying49 rfl ty49 rfl (lds_cons (ldI_eq hx12) (lds_cons (ldI_eq hx13) (lds_cons (ldI_eq hx14) (lds_nil))))) (Trc.read rfl rfl rfl (s_loads Tryd.underlying23 rfl ty23 rfl (lds_cons (ldI_eq hx15) (lds_cons (ldI_eq hx16) (lds_nil)))) (Trc.pure rfl rfl rfl (.inl fun _ => s_callO rfl ok39 (sim39 hp17) rfl rfl) (Trc.pure rfl rfl rfl (.inl fun _ => s_fieldAddr Tryd.underlying49 rfl ty3 rfl) (Trc.read rfl rfl rfl (s_load Tryd.underlying3 rfl rfl (ldI_eq hx18)) (Trc.pure rfl rfl rfl (.inl fun _ => s_mul rfl rfl) (Trc.pure rfl rfl rfl (.inl fun _ => s_idxA Tryd.underlying23 ty3 rfl rfl (by decide)) (Trc.read rfl rfl rfl (s_load Tryd.underlying3 rfl rfl (ldI_eq hx19)) (Trc.pure rfl rfl rfl (.inl fun _ => s_mul rfl rfl) (Trc.pure rfl rfl rfl (.inl fun _ => s_add rfl rfl) (Trc.pure rfl rfl rfl (.inl fun _ => s_fieldAddr Tryd.underlying49 rfl ty3 rfl) (Trc.read rfl rfl rfl (s_load Tryd.underlying3 rfl rfl (ldI_eq hx20)) (Trc.pure rfl rfl rfl (.inl fun _ => s_mul rfl rfl) (Trc.pure rfl rfl rfl (.inl fun _ => s_callO rfl ok18 (sim18 hp21) rfl rfl) (Trc.pure rfl rfl rfl (.inl fun _ => s_build (cs := [.int .i64 p11.1.1, .int .i64 p11.1.2, .int .i64 p21.1.1, .int .i64 p21.1.2]) Tryd.underlying27 ty27 rfl pl27 rfl) (Trc.fl .p rfl rfl rfl (fun _ => trivial) rfl (by rfl) (fun _ => s_alloc (zs := [.int .i64 0, .int .i64 0, .int .i64 0, .int .i64 0]) ty27 rfl rfl) (Trc.eff rfl rfl rfl (fun _ => trivial) (s_stores ty27 rfl rfl rfl rfl hH22 (Nat.le_of_eq (sts_mono hH22).symm)) (Trc.nil (fun _ => trivial))))))))))))))))))))))))))))))))) rfl rfl (by decide +kernel) mixed ?_
  refine f_seq ?_
  refine f_bind ?_; intro x23 hx23
  refine f_bind ?_; intro x24 hx24
  refine f_bind ?_; intro x25 hx25
  refine f_bind ?_; intro x26 hx26
  refine f_bind ?_; intro x27 hx27
  refine f_bind ?_; intro x28 hx28
  refine f_bind ?_; intro x29 hx29
  refine f_bind ?_; intro p30 hp30
  refine f_bind ?_; intro p31 hp31
  refine f_if (fun h32 => ?_) (fun h32 => ?_)
  · skip
    refine f_bind ?_; intro x33 hx33
    refine f_bind ?_; intro x34 hx34
    refine f_bind ?_; intro x35 hx35
    refine f_bind ?_; intro p36 hp36
    refine f_bind ?_; intro p37 hp37
    refine f_bind ?_; intro H38 hH38
    refine f_draw (Φ := fun _ => True) (lim := 1000000) [1, 0, 1, 0, 1, 0, 0, 0, 0, 0, 1, 0, 1, 0, 0, 0, 0, 2, 0] (Trc.read rfl rfl rfl (s_loads Tryd.underlying27 rfl ty27 rfl (lds_cons (ldI_eq hx23) (lds_cons (ldI_eq hx24) (lds_cons (ldI_eq hx25) (lds_cons (ldI_eq hx26) (lds_nil)))))) (Trc.pure rfl rfl rfl (.inl fun _ => s_fieldAddr Tryd.underlying27 rfl ty25 rfl) (Trc.read rfl rfl rfl (s_loads Tryd.underlying25 rfl ty25 rfl (lds_cons (ldI_eq hx27) (lds_cons (ldI_eq hx28) (lds_nil)))) (Trc.pure rfl rfl rfl (.inl fun _ => s_idxA Tryd.underlying23 ty3 rfl rfl (by decide)) (Trc.read rfl rfl rfl (s_load Tryd.underlying3 rfl rfl (ldI_eq hx29)) (Trc.pure rfl rfl rfl (.inl fun _ => s_callO rfl ok18 (sim18 hp30) rfl rfl) (Trc.pure rfl rfl rfl (.inl fun _ => s_callO rfl ok21 (sim21 hp31) rfl rfl) (Trc.pure rfl rfl rfl (.inl fun _ => s_geq rfl rfl) (Trc.pure rfl rfl rfl (.inl fun _ => s_mv (v := .bool (decide (0 ≤ p31.1))) rfl) (Trc.know 48 rfl (dec_true h32) (Trc.pure rfl rfl rfl (.inl fun _ => s_fieldAddr Tryd.underlying27 rfl ty25 rfl) (Trc.read rfl rfl rfl (s_loads Tryd.underlying25 rfl ty25 rfl (lds_cons (ldI_eq hx33) (lds_cons (ldI_eq hx34) (lds_nil)))) (Trc.pure rfl rfl rfl (.inl fun _ => s_idxA Tryd.underlying23 ty3 rfl rfl (by decide)) (Trc.read rfl rfl rfl (s_load Tryd.underlying3 rfl rfl (ldI_eq hx35)) (Trc.pure rfl rfl rfl (.inl fun _ => s_callO rfl ok18 (sim18 hp36) rfl rfl) (Trc.pure rfl rfl rfl (.inl fun _ => s_callO rfl ok21 (sim21 hp37) rfl rfl) (Trc.pure rfl rfl rfl (.inl fun _ => s_leq rfl rfl) (Trc.pure rfl rfl rfl (.inl fun _ => s_pickT (v := .bool (decide (p37.1 ≤ 0))) rfl rfl) (Trc.eff rfl rfl rfl (fun _ => trivial) (s_stores ty27 rfl rfl rfl rfl hH38 (Nat.le_of_eq (sts_mono hH38).symm)) (Trc.pure rfl rfl rfl (.inl fun _ => s_as (v := .bool (decide (p37.1 ≤ 0))) rfl) (Trc.nil (fun _ => trivial)))))))))))))))))))))) rfl (by decide +kernel) mixed ?_
    refine f_bind ?_; intro x39 hx39
    refine f_bind ?_; intro x40 hx40
    refine f_bind ?_; intro x41 hx41
    refine f_bind ?_; intro x42 hx42
    exact f_ret (.cells Tryd.underlying27 rfl sz27 rfl (lds_cons (ldI_eq hx39) (lds_cons (ldI_eq hx40) (lds_cons (ldI_eq hx41) (lds_cons (ldI_eq hx42) (lds_nil))))) (.tmp rfl (.nil))) rfl
  · skip
    refine f_bind ?_; intro H43 hH43
    refine f_draw (Φ := fun _ => True) (lim := 1000000) [1, 0, 1, 0, 1, 0, 0, 0, 0, 0, 0, 0, 0, 0, 0, 0, 0, 2, 0] (Trc.read rfl rfl rfl (s_loads Tryd.underlying27 rfl ty27 rfl (lds_cons (ldI_eq hx23) (lds_cons (ldI_eq hx24) (lds_cons (ldI_eq hx25) (lds_cons (ldI_eq hx26) (lds_nil)))))) (Trc.pure rfl rfl rfl (.inl fun _ => s_fieldAddr Tryd.underlying27 rfl ty25 rfl) (Trc.read rfl rfl rfl (s_loads Tryd.underlying25 rfl ty25 rfl (lds_cons (ldI_eq hx27) (lds_cons (ldI_eq hx28) (lds_nil)))) (Trc.pure rfl rfl rfl (.inl fun _ => s_idxA Tryd.underlying23 ty3 rfl rfl (by decide)) (Trc.read rfl rfl rfl (s_load Tryd.underlying3 rfl rfl (ldI_eq hx29)) (Trc.pure rfl rfl rfl (.inl fun _ => s_callO rfl ok18 (sim18 hp30) rfl rfl) (Trc.pure rfl rfl rfl (.inl fun _ => s_callO rfl ok21 (sim21 hp31) rfl rfl) (Trc.pure rfl rfl rfl (.inl fun _ => s_geq rfl rfl) (Trc.pure rfl rfl rfl (.inl fun _ => s_mv (v := .bool (decide (0 ≤ p31.1))) rfl) (Trc.know 48 rfl (dec_false h32) (Trc.no rfl rfl rfl (Trc.no rfl rfl rfl (Trc.no rfl rfl rfl (Trc.no rfl rfl rfl (Trc.no rfl rfl rfl (Trc.no rfl rfl rfl (Trc.no rfl rfl rfl (Trc.pure rfl rfl rfl (.inl fun _ => s_pickF (v := .bool false) rfl rfl) (Trc.eff rfl rfl rfl (fun _ => trivial) (s_stores ty27 rfl rfl rfl rfl hH43 (Nat.le_of_eq (sts_mono hH43).symm)) (Trc.pure rfl rfl rfl (.inl fun _ => s_as (v := .bool false) rfl) (Trc.nil (fun _ => trivial)))))))))))))))))))))) rfl (by decide +kernel) mixed ?_
    refine f_bind ?_; intro x44 hx44
    refine f_bind ?_; intro x45 hx45
    refine f_bind ?_; intro x46 hx46
    refine f_bind ?_; intro x47 hx47
    exact f_ret (.cells Tryd.underlying27 rfl sz27 rfl (lds_cons (ldI_eq hx44) (lds_cons (ldI_eq hx45) (lds_cons (ldI_eq hx46) (lds_cons (ldI_eq hx47) (lds_nil))))) (.tmp rfl (.nil))) rfl

end Go.Lt.P5
