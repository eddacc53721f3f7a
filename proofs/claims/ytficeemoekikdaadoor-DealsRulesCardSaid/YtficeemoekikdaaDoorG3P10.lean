/- PRINTED BY A PROGRAM OF OURS: what each function that 'DealsRules' reaches computes on the abstract heap, and that the translated code does just that. Nothing is asked of the input. -/
import Derived.Test.YtficeemoekikdaaDoorG3P9
set_option linter.unusedVariables false
set_option linter.unusedSimpArgs false
set_option maxRecDepth 100000
set_option maxHeartbeats 4000000
namespace Go.Lt.P5
open Go Go.Lt Go.Proofs
/- 3 congou/congoulaw05.DealsRules -/
theorem ok3 : FnOk Tryd.prog 3 := ⟨⟨Tryd.f3, Tryd.func3, by kernel_rfl, rfl⟩⟩
theorem s3_j2 {app : App} (happ : AppSim Tryd.prog app) (v1 : Nat) (v2 : Int) (v3 : Nat) (v4 : Int) (v5 : Nat) (v6 : Int) (v7 : Int) (H : Hp) : Fin Tryd.prog Tryd.f3 ret3 118 (todoAt (bodyOf Tryd.f3) [1, 1, 1, 1, 0, 1, 1, 0, 1, 1] []) [(5, .ptr v1 0), (6, .int .i64 v2), (7, .ptr v3 0), (8, .int .i64 v4), (9, .ptr v5 0), (10, .int .i64 v6), (12, .int .i64 v7)] H (r3_j2 app v1 v2 v3 v4 v5 v6 v7 H) := by
  unfold r3_j2
  refine f_seq ?_
  refine f_region ?_
  refine o_bind ?_; intro x1 hx1
  refine o_bind ?_; intro x2 hx2
  refine o_bind ?_; intro x3 hx3
  refine o_bind ?_; intro x4 hx4
  refine f_op rfl rfl (s_loads Tryd.underlying27 rfl ty27 rfl (lds_cons (ldI_eq hx1) (lds_cons (ldI_eq hx2) (lds_cons (ldI_eq hx3) (lds_cons (ldI_eq hx4) (lds_nil)))))) ?_
  refine f_op rfl rfl (s_loadsG (gl := 0) glb_0 Tryd.underlying27 rfl ty27 rfl) ?_
  refine f_op rfl rfl (s_eqAgg eg27 rfl rfl (eq22 Tryd.underlying27 Tryd.underlying25 Tryd.underlying3 Tryd.underlying3 ty25 (by decide) (by decide) (by decide) (by decide) rfl rfl rfl rfl sih27 sih25 x1 x2 x3 x4 0 0 0 0)) ?_
  refine f_op rfl rfl (s_mv (v := .bool (((x1 == 0) && (x2 == 0)) && ((x3 == 0) && (x4 == 0)))) rfl) ?_
  refine o_if (fun h5 => ?_) (fun h5 => ?_)
  · skip
    refine o_know 53 rfl (bool_T h5) ?_
    refine o_bind ?_; intro x6 hx6
    refine o_bind ?_; intro x7 hx7
    refine o_bind ?_; intro x8 hx8
    refine o_bind ?_; intro x9 hx9
    refine f_op rfl rfl (s_loads Tryd.underlying27 rfl ty27 rfl (lds_cons (ldI_eq hx6) (lds_cons (ldI_eq hx7) (lds_cons (ldI_eq hx8) (lds_cons (ldI_eq hx9) (lds_nil)))))) ?_
    refine f_op rfl rfl (s_loadsG (gl := 0) glb_0 Tryd.underlying27 rfl ty27 rfl) ?_
    refine f_op rfl rfl (s_eqAgg eg27 rfl rfl (eq22 Tryd.underlying27 Tryd.underlying25 Tryd.underlying3 Tryd.underlying3 ty25 (by decide) (by decide) (by decide) (by decide) rfl rfl rfl rfl sih27 sih25 x6 x7 x8 x9 0 0 0 0)) ?_
    refine f_op rfl rfl (s_pickT (v := .bool (((x6 == 0) && (x7 == 0)) && ((x8 == 0) && (x9 == 0)))) rfl rfl) ?_
    refine f_op rfl rfl (s_mv (v := .bool (((x6 == 0) && (x7 == 0)) && ((x8 == 0) && (x9 == 0)))) rfl) ?_
    refine o_if (fun h10 => ?_) (fun h10 => ?_)
    · skip
      refine o_know 58 rfl (bool_T h10) ?_
      refine o_bind ?_; intro x11 hx11
      refine o_bind ?_; intro x12 hx12
      refine o_bind ?_; intro x13 hx13
      refine o_bind ?_; intro x14 hx14
      refine f_op rfl rfl (s_loads Tryd.underlying27 rfl ty27 rfl (lds_cons (ldI_eq hx11) (lds_cons (ldI_eq hx12) (lds_cons (ldI_eq hx13) (lds_cons (ldI_eq hx14) (lds_nil)))))) ?_
      refine f_op rfl rfl (s_loadsG (gl := 0) glb_0 Tryd.underlying27 rfl ty27 rfl) ?_
      refine f_op rfl rfl (s_eqAgg eg27 rfl rfl (eq22 Tryd.underlying27 Tryd.underlying25 Tryd.underlying3 Tryd.underlying3 ty25 (by decide) (by decide) (by decide) (by decide) rfl rfl rfl rfl sih27 sih25 x11 x12 x13 x14 0 0 0 0)) ?_
      refine f_op rfl rfl (s_pickT (v := .bool (((x11 == 0) && (x12 == 0)) && ((x13 == 0) && (x14 == 0)))) rfl rfl) ?_
      refine f_op rfl rfl (s_mv (v := .bool (((x11 == 0) && (x12 == 0)) && ((x13 == 0) && (x14 == 0)))) rfl) ?_
      refine o_if (fun h15 => ?_) (fun h15 => ?_)
      · skip
        refine o_know 63 rfl (bool_T h15) ?_
        refine f_op rfl rfl (s_mv (v := .int .i64 v2) rfl) ?_
        refine f_op rfl rfl (s_mv (v := .int .i64 v7) rfl) ?_
        refine f_op rfl rfl (s_eql rfl rfl) ?_
        refine f_op rfl rfl (s_pickT (v := .bool (decide (v2 = v7))) rfl rfl) ?_
        refine f_op rfl rfl (s_mv (v := .bool (decide (v2 = v7))) rfl) ?_
        refine o_if (fun h16 => ?_) (fun h16 => ?_)
        · skip
          refine o_know 68 rfl (dec_true h16) ?_
          refine f_op rfl rfl (s_mv (v := .int .i64 v4) rfl) ?_
          refine f_op rfl rfl (s_mv (v := .int .i64 v7) rfl) ?_
          refine f_op rfl rfl (s_eql rfl rfl) ?_
          refine f_op rfl rfl (s_pickT (v := .bool (decide (v4 = v7))) rfl rfl) ?_
          refine f_op rfl rfl (s_mv (v := .bool (decide (v4 = v7))) rfl) ?_
          refine o_if (fun h17 => ?_) (fun h17 => ?_)
          · skip
            refine o_know 73 rfl (dec_true h17) ?_
            refine f_op rfl rfl (s_mv (v := .int .i64 v6) rfl) ?_
            refine f_op rfl rfl (s_mv (v := .int .i64 v7) rfl) ?_
            refine f_op rfl rfl (s_eql rfl rfl) ?_
            refine f_op rfl rfl (s_pickT (v := .bool (decide (v6 = v7))) rfl rfl) ?_
            refine f_op rfl rfl (s_mv (v := .bool (decide (v6 = v7))) rfl) ?_
            refine o_if (fun h18 => ?_) (fun h18 => ?_)
            · skip
              refine o_know 78 rfl (dec_true h18) ?_
              refine o_bind ?_; intro p19 hp19
              refine o_bind ?_; intro x20 hx20
              refine f_op rfl rfl (s_callA happ rfl hp19) ?_
              refine o_know 79 rfl (asB_eq hx20) ?_
              refine f_op rfl rfl (s_pickT (v := .bool x20) rfl rfl) ?_
              refine f_op rfl rfl (s_as (v := .bool x20) rfl) ?_
              refine f_nil ?_
              exact f_ret (.tmp rfl (.nil)) rfl
            · skip
              refine o_know 78 rfl (dec_false h18) ?_
              refine f_no rfl rfl ?_
              refine f_op rfl rfl (s_pickF (v := .bool false) rfl rfl) ?_
              refine f_op rfl rfl (s_as (v := .bool false) rfl) ?_
              refine f_nil ?_
              exact f_ret (.tmp rfl (.nil)) rfl
          · skip
            refine o_know 73 rfl (dec_false h17) ?_
            refine f_no rfl rfl ?_
            refine f_no rfl rfl ?_
            refine f_no rfl rfl ?_
            refine f_op rfl rfl (s_pickF (v := .bool false) rfl rfl) ?_
            refine f_op rfl rfl (s_mv (v := .bool false) rfl) ?_
            refine f_no rfl rfl ?_
            refine f_op rfl rfl (s_pickF (v := .bool false) rfl rfl) ?_
            refine f_op rfl rfl (s_as (v := .bool false) rfl) ?_
            refine f_nil ?_
            exact f_ret (.tmp rfl (.nil)) rfl
        · skip
          refine o_know 68 rfl (dec_false h16) ?_
          refine f_no rfl rfl ?_
          refine f_no rfl rfl ?_
          refine f_no rfl rfl ?_
          refine f_op rfl rfl (s_pickF (v := .bool false) rfl rfl) ?_
          refine f_op rfl rfl (s_mv (v := .bool false) rfl) ?_
          refine f_no rfl rfl ?_
          refine f_no rfl rfl ?_
          refine f_no rfl rfl ?_
          refine f_op rfl rfl (s_pickF (v := .bool false) rfl rfl) ?_
          refine f_op rfl rfl (s_mv (v := .bool false) rfl) ?_
          refine f_no rfl rfl ?_
          refine f_op rfl rfl (s_pickF (v := .bool false) rfl rfl) ?_
          refine f_op rfl rfl (s_as (v := .bool false) rfl) ?_
          refine f_nil ?_
          exact f_ret (.tmp rfl (.nil)) rfl
      · skip
        refine o_know 63 rfl (bool_F h15) ?_
        refine f_no rfl rfl ?_
        refine f_no rfl rfl ?_
        refine f_no rfl rfl ?_
        refine f_op rfl rfl (s_pickF (v := .bool false) rfl rfl) ?_
        refine f_op rfl rfl (s_mv (v := .bool false) rfl) ?_
        refine f_no rfl rfl ?_
        refine f_no rfl rfl ?_
        refine f_no rfl rfl ?_
        refine f_op rfl rfl (s_pickF (v := .bool false) rfl rfl) ?_
        refine f_op rfl rfl (s_mv (v := .bool false) rfl) ?_
        refine f_no rfl rfl ?_
        refine f_no rfl rfl ?_
        refine f_no rfl rfl ?_
        refine f_op rfl rfl (s_pickF (v := .bool false) rfl rfl) ?_
        refine f_op rfl rfl (s_mv (v := .bool false) rfl) ?_
        refine f_no rfl rfl ?_
        refine f_op rfl rfl (s_pickF (v := .bool false) rfl rfl) ?_
        refine f_op rfl rfl (s_as (v := .bool false) rfl) ?_
        refine f_nil ?_
        exact f_ret (.tmp rfl (.nil)) rfl
    · skip
      refine o_know 58 rfl (bool_F h10) ?_
      refine f_no rfl rfl ?_
      refine f_no rfl rfl ?_
      refine f_no rfl rfl ?_
      refine f_op rfl rfl (s_pickF (v := .bool false) rfl rfl) ?_
      refine f_op rfl rfl (s_mv (v := .bool false) rfl) ?_
      refine f_no rfl rfl ?_
      refine f_no rfl rfl ?_
      refine f_no rfl rfl ?_
      refine f_op rfl rfl (s_pickF (v := .bool false) rfl rfl) ?_
      refine f_op rfl rfl (s_mv (v := .bool false) rfl) ?_
      refine f_no rfl rfl ?_
      refine f_no rfl rfl ?_
      refine f_no rfl rfl ?_
      refine f_op rfl rfl (s_pickF (v := .bool false) rfl rfl) ?_
      refine f_op rfl rfl (s_mv (v := .bool false) rfl) ?_
      refine f_no rfl rfl ?_
      refine f_no rfl rfl ?_
      refine f_no rfl rfl ?_
      refine f_op rfl rfl (s_pickF (v := .bool false) rfl rfl) ?_
      refine f_op rfl rfl (s_mv (v := .bool false) rfl) ?_
      refine f_no rfl rfl ?_
      refine f_op rfl rfl (s_pickF (v := .bool false) rfl rfl) ?_
      refine f_op rfl rfl (s_as (v := .bool false) rfl) ?_
      refine f_nil ?_
      exact f_ret (.tmp rfl (.nil)) rfl
  · skip
    refine o_know 53 rfl (bool_F h5) ?_
    refine f_no rfl rfl ?_
    refine f_no rfl rfl ?_
    refine f_no rfl rfl ?_
    refine f_op rfl rfl (s_pickF (v := .bool false) rfl rfl) ?_
    refine f_op rfl rfl (s_mv (v := .bool false) rfl) ?_
    refine f_no rfl rfl ?_
    refine f_no rfl rfl ?_
    refine f_no rfl rfl ?_
    refine f_op rfl rfl (s_pickF (v := .bool false) rfl rfl) ?_
    refine f_op rfl rfl (s_mv (v := .bool false) rfl) ?_
    refine f_no rfl rfl ?_
    refine f_no rfl rfl ?_
    refine f_no rfl rfl ?_
    refine f_op rfl rfl (s_pickF (v := .bool false) rfl rfl) ?_
    refine f_op rfl rfl (s_mv (v := .bool false) rfl) ?_
    refine f_no rfl rfl ?_
    refine f_no rfl rfl ?_
    refine f_no rfl rfl ?_
    refine f_op rfl rfl (s_pickF (v := .bool false) rfl rfl) ?_
    refine f_op rfl rfl (s_mv (v := .bool false) rfl) ?_
    refine f_no rfl rfl ?_
    refine f_no rfl rfl ?_
    refine f_no rfl rfl ?_
    refine f_op rfl rfl (s_pickF (v := .bool false) rfl rfl) ?_
    refine f_op rfl rfl (s_mv (v := .bool false) rfl) ?_
    refine f_no rfl rfl ?_
    refine f_op rfl rfl (s_pickF (v := .bool false) rfl rfl) ?_
    refine f_op rfl rfl (s_as (v := .bool false) rfl) ?_
    refine f_nil ?_
    exact f_ret (.tmp rfl (.nil)) rfl

theorem s3_j0 {app : App} (happ : AppSim Tryd.prog app) (v1 : Sl) (v2 : Nat) (v3 : Nat) (v4 : Int) (v5 : Nat) (v6 : Int) (v7 : Nat) (v8 : Int) (v9 : Bool) (v10 : Bool) (H : Hp) : Fin Tryd.prog Tryd.f3 ret3 118 (todoAt (bodyOf Tryd.f3) [1, 1, 1, 1, 0, 1, 1] []) [(0, .sl v1), (3, .ptr v2 0), (5, .ptr v3 0), (6, .int .i64 v4), (7, .ptr v5 0), (8, .int .i64 v6), (9, .ptr v7 0), (10, .int .i64 v8), (11, .bool v9), (47, .bool v10)] H (r3_j0 app v1 v2 v3 v4 v5 v6 v7 v8 v9 v10 H) := by
  unfold r3_j0
  refine f_if (fun h1 => ?_) (fun h1 => ?_)
  · skip
    refine f_know 47 rfl (bool_T h1) ?_
    refine f_condT rfl ?_
    refine f_seq ?_
    refine f_region ?_
    refine f_op rfl rfl (s_as (v := .int .i64 4) rfl) ?_
    refine f_nil ?_
    refine f_seq ?_
    refine f_seq ?_
    refine f_region ?_
    refine f_op rfl rfl (s_mv (v := .bool v9) rfl) ?_
    refine f_op rfl rfl (s_not rfl) ?_
    refine f_nil ?_
    refine f_if (fun h2 => ?_) (fun h2 => ?_)
    · skip
      refine f_know 49 rfl (bool_notT h2) ?_
      refine f_condF rfl ?_
      refine f_skip ?_
      refine f_keep [5, 6, 7, 8, 9, 10, 12] ?_
      exact s3_j2 happ v3 v4 v5 v6 v7 v8 4 H
    · skip
      refine f_know 49 rfl (bool_notF h2) ?_
      refine f_condT rfl ?_
      refine f_region ?_
      refine f_op rfl rfl (s_as (v := .int .i64 2) rfl) ?_
      refine f_nil ?_
      refine f_keep [5, 6, 7, 8, 9, 10, 12] ?_
      exact s3_j2 happ v3 v4 v5 v6 v7 v8 2 H
  · skip
    refine f_know 47 rfl (bool_F h1) ?_
    refine f_condF rfl ?_
    refine f_skip ?_
    refine f_seq ?_
    refine f_bind ?_; intro x3 hx3
    refine f_bind ?_; intro x4 hx4
    refine f_bind ?_; intro x5 hx5
    refine f_bind ?_; intro x6 hx6
    refine f_bind ?_; intro p7 hp7
    refine f_bind ?_; intro x8 hx8
    refine f_bind ?_; intro x9 hx9
    refine f_bind ?_; intro p10 hp10
    refine f_if (fun h11 => ?_) (fun h11 => ?_)
    · skip
      refine f_bind ?_; intro x12 hx12
      refine f_bind ?_; intro x13 hx13
      refine f_bind ?_; intro x14 hx14
      refine f_bind ?_; intro x15 hx15
      refine f_bind ?_; intro p16 hp16
      refine f_bind ?_; intro x17 hx17
      refine f_bind ?_; intro x18 hx18
      refine f_bind ?_; intro p19 hp19
      refine f_if (fun h20 => ?_) (fun h20 => ?_)
      · skip
        refine f_bind ?_; intro x21 hx21
        refine f_bind ?_; intro x22 hx22
        refine f_bind ?_; intro x23 hx23
        refine f_bind ?_; intro x24 hx24
        refine f_bind ?_; intro p25 hp25
        refine f_bind ?_; intro x26 hx26
        refine f_bind ?_; intro x27 hx27
        refine f_bind ?_; intro p28 hp28
        refine f_if (fun h29 => ?_) (fun h29 => ?_)
        · skip
          refine f_if (fun h30 => ?_) (fun h30 => ?_)
          · skip
            refine f_if (fun h31 => ?_) (fun h31 => ?_)
            · skip
              refine f_if (fun h32 => ?_) (fun h32 => ?_)
              · skip
                refine f_bind ?_; intro p33 hp33
                refine f_bind ?_; intro x34 hx34
                refine f_draw (Φ := fun _ => True) (lim := 1000000) [1, 0, 0, 1, 2, 0, 0, 1, 0, 0, 1, 2, 0, 0, 0, 1, 0, 0, 1, 2, 0, 0, 0, 0, 0, 0, 0, 0, 0, 0, 0, 0, 0, 0, 0, 2, 0, 0] (Trc.read rfl rfl rfl (s_loads Tryd.underlying27 rfl ty27 rfl (lds_cons (ldI_eq hx3) (lds_cons (ldI_eq hx4) (lds_cons (ldI_eq hx5) (lds_cons (ldI_eq hx6) (lds_nil)))))) (Trc.pure rfl rfl rfl (.inl fun _ => s_callO rfl ok12 (sim12 hp7) rfl rfl) (Trc.pure rfl rfl rfl (.inl fun _ => s_mv (v := .sl v1) rfl) (Trc.read rfl rfl rfl (s_loads Tryd.underlying23 rfl ty23 rfl (lds_cons (ldI_eq hx8) (lds_cons (ldI_eq hx9) (lds_nil)))) (Trc.eff rfl rfl rfl (fun _ => trivial) (s_callF rfl ok13 (sim13 hp10)) (Trc.pure rfl rfl rfl (.inl fun _ => s_eqAgg eg36 rfl rfl (eq22 Tryd.underlying36 Tryd.underlying25 Tryd.underlying3 Tryd.underlying3 ty25 (by decide) (by decide) (by decide) (by decide) rfl rfl rfl rfl sih36 sih25 p7.1.1 p7.1.2.1 p7.1.2.2.1 p7.1.2.2.2 p10.1.1 p10.1.2.1 p10.1.2.2.1 p10.1.2.2.2)) (Trc.pure rfl rfl rfl (.inl fun _ => s_mv (v := .bool (((p7.1.1 == p10.1.1) && (p7.1.2.1 == p10.1.2.1)) && ((p7.1.2.2.1 == p10.1.2.2.1) && (p7.1.2.2.2 == p10.1.2.2.2)))) rfl) (Trc.know 87 rfl (bool_T h11) (Trc.read rfl rfl rfl (s_loads Tryd.underlying27 rfl ty27 rfl (lds_cons (ldI_eq hx12) (lds_cons (ldI_eq hx13) (lds_cons (ldI_eq hx14) (lds_cons (ldI_eq hx15) (lds_nil)))))) (Trc.pure rfl rfl rfl (.inl fun _ => s_callO rfl ok12 (sim12 hp16) rfl rfl) (Trc.pure rfl rfl rfl (.inl fun _ => s_mv (v := .sl v1) rfl) (Trc.read rfl rfl rfl (s_loads Tryd.underlying23 rfl ty23 rfl (lds_cons (ldI_eq hx17) (lds_cons (ldI_eq hx18) (lds_nil)))) (Trc.eff rfl rfl rfl (fun _ => trivial) (s_callF rfl ok14 (sim14 hp19)) (Trc.pure rfl rfl rfl (.inl fun _ => s_eqAgg eg36 rfl rfl (eq22 Tryd.underlying36 Tryd.underlying25 Tryd.underlying3 Tryd.underlying3 ty25 (by decide) (by decide) (by decide) (by decide) rfl rfl rfl rfl sih36 sih25 p16.1.1 p16.1.2.1 p16.1.2.2.1 p16.1.2.2.2 p19.1.1 p19.1.2.1 p19.1.2.2.1 p19.1.2.2.2)) (Trc.pure rfl rfl rfl (.inl fun _ => s_pickT (v := .bool (((p16.1.1 == p19.1.1) && (p16.1.2.1 == p19.1.2.1)) && ((p16.1.2.2.1 == p19.1.2.2.1) && (p16.1.2.2.2 == p19.1.2.2.2)))) rfl rfl) (Trc.pure rfl rfl rfl (.inl fun _ => s_mv (v := .bool (((p16.1.1 == p19.1.1) && (p16.1.2.1 == p19.1.2.1)) && ((p16.1.2.2.1 == p19.1.2.2.1) && (p16.1.2.2.2 == p19.1.2.2.2)))) rfl) (Trc.know 95 rfl (bool_T h20) (Trc.read rfl rfl rfl (s_loads Tryd.underlying27 rfl ty27 rfl (lds_cons (ldI_eq hx21) (lds_cons (ldI_eq hx22) (lds_cons (ldI_eq hx23) (lds_cons (ldI_eq hx24) (lds_nil)))))) (Trc.pure rfl rfl rfl (.inl fun _ => s_callO rfl ok12 (sim12 hp25) rfl rfl) (Trc.pure rfl rfl rfl (.inl fun _ => s_mv (v := .sl v1) rfl) (Trc.read rfl rfl rfl (s_loads Tryd.underlying23 rfl ty23 rfl (lds_cons (ldI_eq hx26) (lds_cons (ldI_eq hx27) (lds_nil)))) (Trc.eff rfl rfl rfl (fun _ => trivial) (s_callF rfl ok15 (sim15 hp28)) (Trc.pure rfl rfl rfl (.inl fun _ => s_eqAgg eg36 rfl rfl (eq22 Tryd.underlying36 Tryd.underlying25 Tryd.underlying3 Tryd.underlying3 ty25 (by decide) (by decide) (by decide) (by decide) rfl rfl rfl rfl sih36 sih25 p25.1.1 p25.1.2.1 p25.1.2.2.1 p25.1.2.2.2 p28.1.1 p28.1.2.1 p28.1.2.2.1 p28.1.2.2.2)) (Trc.pure rfl rfl rfl (.inl fun _ => s_pickT (v := .bool (((p25.1.1 == p28.1.1) && (p25.1.2.1 == p28.1.2.1)) && ((p25.1.2.2.1 == p28.1.2.2.1) && (p25.1.2.2.2 == p28.1.2.2.2)))) rfl rfl) (Trc.pure rfl rfl rfl (.inl fun _ => s_mv (v := .bool (((p25.1.1 == p28.1.1) && (p25.1.2.1 == p28.1.2.1)) && ((p25.1.2.2.1 == p28.1.2.2.1) && (p25.1.2.2.2 == p28.1.2.2.2)))) rfl) (Trc.know 103 rfl (bool_T h29) (Trc.pure rfl rfl rfl (.inl fun _ => s_mv (v := .int .i64 v4) rfl) (Trc.pure rfl rfl rfl (.inl fun _ => s_eql rfl rfl) (Trc.pure rfl rfl rfl (.inl fun _ => s_pickT (v := .bool (decide (v4 = 0))) rfl rfl) (Trc.pure rfl rfl rfl (.inl fun _ => s_mv (v := .bool (decide (v4 = 0))) rfl) (Trc.know 107 rfl (dec_true h30) (Trc.pure rfl rfl rfl (.inl fun _ => s_mv (v := .int .i64 v6) rfl) (Trc.pure rfl rfl rfl (.inl fun _ => s_eql rfl rfl) (Trc.pure rfl rfl rfl (.inl fun _ => s_pickT (v := .bool (decide (v6 = 0))) rfl rfl) (Trc.pure rfl rfl rfl (.inl fun _ => s_mv (v := .bool (decide (v6 = 0))) rfl) (Trc.know 111 rfl (dec_true h31) (Trc.pure rfl rfl rfl (.inl fun _ => s_mv (v := .int .i64 v8) rfl) (Trc.pure rfl rfl rfl (.inl fun _ => s_eql rfl rfl) (Trc.pure rfl rfl rfl (.inl fun _ => s_pickT (v := .bool (decide (v8 = 0))) rfl rfl) (Trc.pure rfl rfl rfl (.inl fun _ => s_mv (v := .bool (decide (v8 = 0))) rfl) (Trc.know 115 rfl (dec_true h32) (Trc.eff rfl rfl rfl (fun _ => trivial) (s_callA happ rfl hp33) (Trc.know 116 rfl (asB_eq hx34) (Trc.pure rfl rfl rfl (.inl fun _ => s_pickT (v := .bool x34) rfl rfl) (Trc.pure rfl rfl rfl (.inl fun _ => s_as (v := .bool x34) rfl) (Trc.nil (fun _ => trivial))))))))))))))))))))))))))))))))))))))))))))))) rfl (by decide +kernel) mixed ?_
                exact f_ret (.tmp rfl (.nil)) rfl
              · skip
                refine f_draw (Φ := fun _ => True) (lim := 1000000) [1, 0, 0, 1, 2, 0, 0, 1, 0, 0, 1, 2, 0, 0, 0, 1, 0, 0, 1, 2, 0, 0, 0, 0, 0, 0, 0, 0, 0, 0, 0, 0, 0, 0, 0, 0, 0, 0] (Trc.read rfl rfl rfl (s_loads Tryd.underlying27 rfl ty27 rfl (lds_cons (ldI_eq hx3) (lds_cons (ldI_eq hx4) (lds_cons (ldI_eq hx5) (lds_cons (ldI_eq hx6) (lds_nil)))))) (Trc.pure rfl rfl rfl (.inl fun _ => s_callO rfl ok12 (sim12 hp7) rfl rfl) (Trc.pure rfl rfl rfl (.inl fun _ => s_mv (v := .sl v1) rfl) (Trc.read rfl rfl rfl (s_loads Tryd.underlying23 rfl ty23 rfl (lds_cons (ldI_eq hx8) (lds_cons (ldI_eq hx9) (lds_nil)))) (Trc.eff rfl rfl rfl (fun _ => trivial) (s_callF rfl ok13 (sim13 hp10)) (Trc.pure rfl rfl rfl (.inl fun _ => s_eqAgg eg36 rfl rfl (eq22 Tryd.underlying36 Tryd.underlying25 Tryd.underlying3 Tryd.underlying3 ty25 (by decide) (by decide) (by decide) (by decide) rfl rfl rfl rfl sih36 sih25 p7.1.1 p7.1.2.1 p7.1.2.2.1 p7.1.2.2.2 p10.1.1 p10.1.2.1 p10.1.2.2.1 p10.1.2.2.2)) (Trc.pure rfl rfl rfl (.inl fun _ => s_mv (v := .bool (((p7.1.1 == p10.1.1) && (p7.1.2.1 == p10.1.2.1)) && ((p7.1.2.2.1 == p10.1.2.2.1) && (p7.1.2.2.2 == p10.1.2.2.2)))) rfl) (Trc.know 87 rfl (bool_T h11) (Trc.read rfl rfl rfl (s_loads Tryd.underlying27 rfl ty27 rfl (lds_cons (ldI_eq hx12) (lds_cons (ldI_eq hx13) (lds_cons (ldI_eq hx14) (lds_cons (ldI_eq hx15) (lds_nil)))))) (Trc.pure rfl rfl rfl (.inl fun _ => s_callO rfl ok12 (sim12 hp16) rfl rfl) (Trc.pure rfl rfl rfl (.inl fun _ => s_mv (v := .sl v1) rfl) (Trc.read rfl rfl rfl (s_loads Tryd.underlying23 rfl ty23 rfl (lds_cons (ldI_eq hx17) (lds_cons (ldI_eq hx18) (lds_nil)))) (Trc.eff rfl rfl rfl (fun _ => trivial) (s_callF rfl ok14 (sim14 hp19)) (Trc.pure rfl rfl rfl (.inl fun _ => s_eqAgg eg36 rfl rfl (eq22 Tryd.underlying36 Tryd.underlying25 Tryd.underlying3 Tryd.underlying3 ty25 (by decide) (by decide) (by decide) (by decide) rfl rfl rfl rfl sih36 sih25 p16.1.1 p16.1.2.1 p16.1.2.2.1 p16.1.2.2.2 p19.1.1 p19.1.2.1 p19.1.2.2.1 p19.1.2.2.2)) (Trc.pure rfl rfl rfl (.inl fun _ => s_pickT (v := .bool (((p16.1.1 == p19.1.1) && (p16.1.2.1 == p19.1.2.1)) && ((p16.1.2.2.1 == p19.1.2.2.1) && (p16.1.2.2.2 == p19.1.2.2.2)))) rfl rfl) (Trc.pure rfl rfl rfl (.inl fun _ => s_mv (v := .bool (((p16.1.1 == p19.1.1) && (p16.1.2.1 == p19.1.2.1)) && ((p16.1.2.2.1 == p19.1.2.2.1) && (p16.1.2.2.2 == p19.1.2.2.2)))) rfl) (Trc.know 95 rfl (bool_T h20) (Trc.read rfl rfl rfl (s_loads Tryd.underlying27 rfl ty27 rfl (lds_cons (ldI_eq hx21) (lds_cons (ldI_eq hx22) (lds_cons (ldI_eq hx23) (lds_cons (ldI_eq hx24) (lds_nil)))))) (Trc.pure rfl rfl rfl (.inl fun _ => s_callO rfl ok12 (sim12 hp25) rfl rfl) (Trc.pure rfl rfl rfl (.inl fun _ => s_mv (v := .sl v1) rfl) (Trc.read rfl rfl rfl (s_loads Tryd.underlying23 rfl ty23 rfl (lds_cons (ldI_eq hx26) (lds_cons (ldI_eq hx27) (lds_nil)))) (Trc.eff rfl rfl rfl (fun _ => trivial) (s_callF rfl ok15 (sim15 hp28)) (Trc.pure rfl rfl rfl (.inl fun _ => s_eqAgg eg36 rfl rfl (eq22 Tryd.underlying36 Tryd.underlying25 Tryd.underlying3 Tryd.underlying3 ty25 (by decide) (by decide) (by decide) (by decide) rfl rfl rfl rfl sih36 sih25 p25.1.1 p25.1.2.1 p25.1.2.2.1 p25.1.2.2.2 p28.1.1 p28.1.2.1 p28.1.2.2.1 p28.1.2.2.2)) (Trc.pure rfl rfl rfl (.inl fun _ => s_pickT (v := .bool (((p25.1.1 == p28.1.1) && (p25.1.2.1 == p28.1.2.1)) && ((p25.1.2.2.1 == p28.1.2.2.1) && (p25.1.2.2.2 == p28.1.2.2.2)))) rfl rfl) (Trc.pure rfl rfl rfl (.inl fun _ => s_mv (v := .bool (((p25.1.1 == p28.1.1) && (p25.1.2.1 == p28.1.2.1)) && ((p25.1.2.2.1 == p28.1.2.2.1) && (p25.1.2.2.2 == p28.1.2.2.2)))) rfl) (Trc.know 103 rfl (bool_T h29) (Trc.pure rfl rfl rfl (.inl fun _ => s_mv (v := .int .i64 v4) rfl) (Trc.pure rfl rfl rfl (.inl fun _ => s_eql rfl rfl) (Trc.pure rfl rfl rfl (.inl fun _ => s_pickT (v := .bool (decide (v4 = 0))) rfl rfl) (Trc.pure rfl rfl rfl (.inl fun _ => s_mv (v := .bool (decide (v4 = 0))) rfl) (Trc.know 107 rfl (dec_true h30) (Trc.pure rfl rfl rfl (.inl fun _ => s_mv (v := .int .i64 v6) rfl) (Trc.pure rfl rfl rfl (.inl fun _ => s_eql rfl rfl) (Trc.pure rfl rfl rfl (.inl fun _ => s_pickT (v := .bool (decide (v6 = 0))) rfl rfl) (Trc.pure rfl rfl rfl (.inl fun _ => s_mv (v := .bool (decide (v6 = 0))) rfl) (Trc.know 111 rfl (dec_true h31) (Trc.pure rfl rfl rfl (.inl fun _ => s_mv (v := .int .i64 v8) rfl) (Trc.pure rfl rfl rfl (.inl fun _ => s_eql rfl rfl) (Trc.pure rfl rfl rfl (.inl fun _ => s_pickT (v := .bool (decide (v8 = 0))) rfl rfl) (Trc.pure rfl rfl rfl (.inl fun _ => s_mv (v := .bool (decide (v8 = 0))) rfl) (Trc.know 115 rfl (dec_false h32) (Trc.no rfl rfl rfl (Trc.pure rfl rfl rfl (.inl fun _ => s_pickF (v := .bool false) rfl rfl) (Trc.pure rfl rfl rfl (.inl fun _ => s_as (v := .bool false) rfl) (Trc.nil (fun _ => trivial)))))))))))))))))))))))))))))))))))))))))))))) rfl (by decide +kernel) mixed ?_
                exact f_ret (.tmp rfl (.nil)) rfl
            · skip
              refine f_draw (Φ := fun _ => True) (lim := 1000000) [1, 0, 0, 1, 2, 0, 0, 1, 0, 0, 1, 2, 0, 0, 0, 1, 0, 0, 1, 2, 0, 0, 0, 0, 0, 0, 0, 0, 0, 0, 0, 0, 0, 0, 0, 0, 0, 0] (Trc.read rfl rfl rfl (s_loads Tryd.underlying27 rfl ty27 rfl (lds_cons (ldI_eq hx3) (lds_cons (ldI_eq hx4) (lds_cons (ldI_eq hx5) (lds_cons (ldI_eq hx6) (lds_nil)))))) (Trc.pure rfl rfl rfl (.inl fun _ => s_callO rfl ok12 (sim12 hp7) rfl rfl) (Trc.pure rfl rfl rfl (.inl fun _ => s_mv (v := .sl v1) rfl) (Trc.read rfl rfl rfl (s_loads Tryd.underlying23 rfl ty23 rfl (lds_cons (ldI_eq hx8) (lds_cons (ldI_eq hx9) (lds_nil)))) (Trc.eff rfl rfl rfl (fun _ => trivial) (s_callF rfl ok13 (sim13 hp10)) (Trc.pure rfl rfl rfl (.inl fun _ => s_eqAgg eg36 rfl rfl (eq22 Tryd.underlying36 Tryd.underlying25 Tryd.underlying3 Tryd.underlying3 ty25 (by decide) (by decide) (by decide) (by decide) rfl rfl rfl rfl sih36 sih25 p7.1.1 p7.1.2.1 p7.1.2.2.1 p7.1.2.2.2 p10.1.1 p10.1.2.1 p10.1.2.2.1 p10.1.2.2.2)) (Trc.pure rfl rfl rfl (.inl fun _ => s_mv (v := .bool (((p7.1.1 == p10.1.1) && (p7.1.2.1 == p10.1.2.1)) && ((p7.1.2.2.1 == p10.1.2.2.1) && (p7.1.2.2.2 == p10.1.2.2.2)))) rfl) (Trc.know 87 rfl (bool_T h11) (Trc.read rfl rfl rfl (s_loads Tryd.underlying27 rfl ty27 rfl (lds_cons (ldI_eq hx12) (lds_cons (ldI_eq hx13) (lds_cons (ldI_eq hx14) (lds_cons (ldI_eq hx15) (lds_nil)))))) (Trc.pure rfl rfl rfl (.inl fun _ => s_callO rfl ok12 (sim12 hp16) rfl rfl) (Trc.pure rfl rfl rfl (.inl fun _ => s_mv (v := .sl v1) rfl) (Trc.read rfl rfl rfl (s_loads Tryd.underlying23 rfl ty23 rfl (lds_cons (ldI_eq hx17) (lds_cons (ldI_eq hx18) (lds_nil)))) (Trc.eff rfl rfl rfl (fun _ => trivial) (s_callF rfl ok14 (sim14 hp19)) (Trc.pure rfl rfl rfl (.inl fun _ => s_eqAgg eg36 rfl rfl (eq22 Tryd.underlying36 Tryd.underlying25 Tryd.underlying3 Tryd.underlying3 ty25 (by decide) (by decide) (by decide) (by decide) rfl rfl rfl rfl sih36 sih25 p16.1.1 p16.1.2.1 p16.1.2.2.1 p16.1.2.2.2 p19.1.1 p19.1.2.1 p19.1.2.2.1 p19.1.2.2.2)) (Trc.pure rfl rfl rfl (.inl fun _ => s_pickT (v := .bool (((p16.1.1 == p19.1.1) && (p16.1.2.1 == p19.1.2.1)) && ((p16.1.2.2.1 == p19.1.2.2.1) && (p16.1.2.2.2 == p19.1.2.2.2)))) rfl rfl) (Trc.pure rfl rfl rfl (.inl fun _ => s_mv (v := .bool (((p16.1.1 == p19.1.1) && (p16.1.2.1 == p19.1.2.1)) && ((p16.1.2.2.1 == p19.1.2.2.1) && (p16.1.2.2.2 == p19.1.2.2.2)))) rfl) (Trc.know 95 rfl (bool_T h20) (Trc.read rfl rfl rfl (s_loads Tryd.underlying27 rfl ty27 rfl (lds_cons (ldI_eq hx21) (lds_cons (ldI_eq hx22) (lds_cons (ldI_eq hx23) (lds_cons (ldI_eq hx24) (lds_nil)))))) (Trc.pure rfl rfl rfl (.inl fun _ => s_callO rfl ok12 (sim12 hp25) rfl rfl) (Trc.pure rfl rfl rfl (.inl fun _ => s_mv (v := .sl v1) rfl) (Trc.read rfl rfl rfl (s_loads Tryd.underlying23 rfl ty23 rfl (lds_cons (ldI_eq hx26) (lds_cons (ldI_eq hx27) (lds_nil)))) (Trc.eff rfl rfl rfl (fun _ => trivial) (s_callF rfl ok15 (sim15 hp28)) (Trc.pure rfl rfl rfl (.inl fun _ => s_eqAgg eg36 rfl rfl (eq22 Tryd.underlying36 Tryd.underlying25 Tryd.underlying3 Tryd.underlying3 ty25 (by decide) (by decide) (by decide) (by decide) rfl rfl rfl rfl sih36 sih25 p25.1.1 p25.1.2.1 p25.1.2.2.1 p25.1.2.2.2 p28.1.1 p28.1.2.1 p28.1.2.2.1 p28.1.2.2.2)) (Trc.pure rfl rfl rfl (.inl fun _ => s_pickT (v := .bool (((p25.1.1 == p28.1.1) && (p25.1.2.1 == p28.1.2.1)) && ((p25.1.2.2.1 == p28.1.2.2.1) && (p25.1.2.2.2 == p28.1.2.2.2)))) rfl rfl) (Trc.pure rfl rfl rfl (.inl fun _ => s_mv (v := .bool (((p25.1.1 == p28.1.1) && (p25.1.2.1 == p28.1.2.1)) && ((p25.1.2.2.1 == p28.1.2.2.1) && (p25.1.2.2.2 == p28.1.2.2.2)))) rfl) (Trc.know 103 rfl (bool_T h29) (Trc.pure rfl rfl rfl (.inl fun _ => s_mv (v := .int .i64 v4) rfl) (Trc.pure rfl rfl rfl (.inl fun _ => s_eql rfl rfl) (Trc.pure rfl rfl rfl (.inl fun _ => s_pickT (v := .bool (decide (v4 = 0))) rfl rfl) (Trc.pure rfl rfl rfl (.inl fun _ => s_mv (v := .bool (decide (v4 = 0))) rfl) (Trc.know 107 rfl (dec_true h30) (Trc.pure rfl rfl rfl (.inl fun _ => s_mv (v := .int .i64 v6) rfl) (Trc.pure rfl rfl rfl (.inl fun _ => s_eql rfl rfl) (Trc.pure rfl rfl rfl (.inl fun _ => s_pickT (v := .bool (decide (v6 = 0))) rfl rfl) (Trc.pure rfl rfl rfl (.inl fun _ => s_mv (v := .bool (decide (v6 = 0))) rfl) (Trc.know 111 rfl (dec_false h31) (Trc.no rfl rfl rfl (Trc.no rfl rfl rfl (Trc.pure rfl rfl rfl (.inl fun _ => s_pickF (v := .bool false) rfl rfl) (Trc.pure rfl rfl rfl (.inl fun _ => s_mv (v := .bool false) rfl) (Trc.no rfl rfl rfl (Trc.pure rfl rfl rfl (.inl fun _ => s_pickF (v := .bool false) rfl rfl) (Trc.pure rfl rfl rfl (.inl fun _ => s_as (v := .bool false) rfl) (Trc.nil (fun _ => trivial))))))))))))))))))))))))))))))))))))))))))))) rfl (by decide +kernel) mixed ?_
              exact f_ret (.tmp rfl (.nil)) rfl
          · skip
            refine f_draw (Φ := fun _ => True) (lim := 1000000) [1, 0, 0, 1, 2, 0, 0, 1, 0, 0, 1, 2, 0, 0, 0, 1, 0, 0, 1, 2, 0, 0, 0, 0, 0, 0, 0, 0, 0, 0, 0, 0, 0, 0, 0, 0, 0, 0] (Trc.read rfl rfl rfl (s_loads Tryd.underlying27 rfl ty27 rfl (lds_cons (ldI_eq hx3) (lds_cons (ldI_eq hx4) (lds_cons (ldI_eq hx5) (lds_cons (ldI_eq hx6) (lds_nil)))))) (Trc.pure rfl rfl rfl (.inl fun _ => s_callO rfl ok12 (sim12 hp7) rfl rfl) (Trc.pure rfl rfl rfl (.inl fun _ => s_mv (v := .sl v1) rfl) (Trc.read rfl rfl rfl (s_loads Tryd.underlying23 rfl ty23 rfl (lds_cons (ldI_eq hx8) (lds_cons (ldI_eq hx9) (lds_nil)))) (Trc.eff rfl rfl rfl (fun _ => trivial) (s_callF rfl ok13 (sim13 hp10)) (Trc.pure rfl rfl rfl (.inl fun _ => s_eqAgg eg36 rfl rfl (eq22 Tryd.underlying36 Tryd.underlying25 Tryd.underlying3 Tryd.underlying3 ty25 (by decide) (by decide) (by decide) (by decide) rfl rfl rfl rfl sih36 sih25 p7.1.1 p7.1.2.1 p7.1.2.2.1 p7.1.2.2.2 p10.1.1 p10.1.2.1 p10.1.2.2.1 p10.1.2.2.2)) (Trc.pure rfl rfl rfl (.inl fun _ => s_mv (v := .bool (((p7.1.1 == p10.1.1) && (p7.1.2.1 == p10.1.2.1)) && ((p7.1.2.2.1 == p10.1.2.2.1) && (p7.1.2.2.2 == p10.1.2.2.2)))) rfl) (Trc.know 87 rfl (bool_T h11) (Trc.read rfl rfl rfl (s_loads Tryd.underlying27 rfl ty27 rfl (lds_cons (ldI_eq hx12) (lds_cons (ldI_eq hx13) (lds_cons (ldI_eq hx14) (lds_cons (ldI_eq hx15) (lds_nil)))))) (Trc.pure rfl rfl rfl (.inl fun _ => s_callO rfl ok12 (sim12 hp16) rfl rfl) (Trc.pure rfl rfl rfl (.inl fun _ => s_mv (v := .sl v1) rfl) (Trc.read rfl rfl rfl (s_loads Tryd.underlying23 rfl ty23 rfl (lds_cons (ldI_eq hx17) (lds_cons (ldI_eq hx18) (lds_nil)))) (Trc.eff rfl rfl rfl (fun _ => trivial) (s_callF rfl ok14 (sim14 hp19)) (Trc.pure rfl rfl rfl (.inl fun _ => s_eqAgg eg36 rfl rfl (eq22 Tryd.underlying36 Tryd.underlying25 Tryd.underlying3 Tryd.underlying3 ty25 (by decide) (by decide) (by decide) (by decide) rfl rfl rfl rfl sih36 sih25 p16.1.1 p16.1.2.1 p16.1.2.2.1 p16.1.2.2.2 p19.1.1 p19.1.2.1 p19.1.2.2.1 p19.1.2.2.2)) (Trc.pure rfl rfl rfl (.inl fun _ => s_pickT (v := .bool (((p16.1.1 == p19.1.1) && (p16.1.2.1 == p19.1.2.1)) && ((p16.1.2.2.1 == p19.1.2.2.1) && (p16.1.2.2.2 == p19.1.2.2.2)))) rfl rfl) (Trc.pure rfl rfl rfl (.inl fun _ => s_mv (v := .bool (((p16.1.1 == p19.1.1) && (p16.1.2.1 == p19.1.2.1)) && ((p16.1.2.2.1 == p19.1.2.2.1) && (p16.1.2.2.2 == p19.1.2.2.2)))) rfl) (Trc.know 95 rfl (bool_T h20) (Trc.read rfl rfl rfl (s_loads Tryd.underlying27 rfl ty27 rfl (lds_cons (ldI_eq hx21) (lds_cons (ldI_eq hx22) (lds_cons (ldI_eq hx23) (lds_cons (ldI_eq hx24) (lds_nil)))))) (Trc.pure rfl rfl rfl (.inl fun _ => s_callO rfl ok12 (sim12 hp25) rfl rfl) (Trc.pure rfl rfl rfl (.inl fun _ => s_mv (v := .sl v1) rfl) (Trc.read rfl rfl rfl (s_loads Tryd.underlying23 rfl ty23 rfl (lds_cons (ldI_eq hx26) (lds_cons (ldI_eq hx27) (lds_nil)))) (Trc.eff rfl rfl rfl (fun _ => trivial) (s_callF rfl ok15 (sim15 hp28)) (Trc.pure rfl rfl rfl (.inl fun _ => s_eqAgg eg36 rfl rfl (eq22 Tryd.underlying36 Tryd.underlying25 Tryd.underlying3 Tryd.underlying3 ty25 (by decide) (by decide) (by decide) (by decide) rfl rfl rfl rfl sih36 sih25 p25.1.1 p25.1.2.1 p25.1.2.2.1 p25.1.2.2.2 p28.1.1 p28.1.2.1 p28.1.2.2.1 p28.1.2.2.2)) (Trc.pure rfl rfl rfl (.inl fun _ => s_pickT (v := .bool (((p25.1.1 == p28.1.1) && (p25.1.2.1 == p28.1.2.1)) && ((p25.1.2.2.1 == p28.1.2.2.1) && (p25.1.2.2.2 == p28.1.2.2.2)))) rfl rfl) (Trc.pure rfl rfl rfl (.inl fun _ => s_mv (v := .bool (((p25.1.1 == p28.1.1) && (p25.1.2.1 == p28.1.2.1)) && ((p25.1.2.2.1 == p28.1.2.2.1) && (p25.1.2.2.2 == p28.1.2.2.2)))) rfl) (Trc.know 103 rfl (bool_T h29) (Trc.pure rfl rfl rfl (.inl fun _ => s_mv (v := .int .i64 v4) rfl) (Trc.pure rfl rfl rfl (.inl fun _ => s_eql rfl rfl) (Trc.pure rfl rfl rfl (.inl fun _ => s_pickT (v := .bool (decide (v4 = 0))) rfl rfl) (Trc.pure rfl rfl rfl (.inl fun _ => s_mv (v := .bool (decide (v4 = 0))) rfl) (Trc.know 107 rfl (dec_false h30) (Trc.no rfl rfl rfl (Trc.no rfl rfl rfl (Trc.pure rfl rfl rfl (.inl fun _ => s_pickF (v := .bool false) rfl rfl) (Trc.pure rfl rfl rfl (.inl fun _ => s_mv (v := .bool false) rfl) (Trc.no rfl rfl rfl (Trc.no rfl rfl rfl (Trc.pure rfl rfl rfl (.inl fun _ => s_pickF (v := .bool false) rfl rfl) (Trc.pure rfl rfl rfl (.inl fun _ => s_mv (v := .bool false) rfl) (Trc.no rfl rfl rfl (Trc.pure rfl rfl rfl (.inl fun _ => s_pickF (v := .bool false) rfl rfl) (Trc.pure rfl rfl rfl (.inl fun _ => s_as (v := .bool false) rfl) (Trc.nil (fun _ => trivial)))))))))))))))))))))))))))))))))))))))))))) rfl (by decide +kernel) mixed ?_
            exact f_ret (.tmp rfl (.nil)) rfl
        · skip
          refine f_draw (Φ := fun _ => True) (lim := 1000000) [1, 0, 0, 1, 2, 0, 0, 1, 0, 0, 1, 2, 0, 0, 0, 1, 0, 0, 1, 2, 0, 0, 0, 0, 0, 0, 0, 0, 0, 0, 0, 0, 0, 0, 0, 0, 0, 0] (Trc.read rfl rfl rfl (s_loads Tryd.underlying27 rfl ty27 rfl (lds_cons (ldI_eq hx3) (lds_cons (ldI_eq hx4) (lds_cons (ldI_eq hx5) (lds_cons (ldI_eq hx6) (lds_nil)))))) (Trc.pure rfl rfl rfl (.inl fun _ => s_callO rfl ok12 (sim12 hp7) rfl rfl) (Trc.pure rfl rfl rfl (.inl fun _ => s_mv (v := .sl v1) rfl) (Trc.read rfl rfl rfl (s_loads Tryd.underlying23 rfl ty23 rfl (lds_cons (ldI_eq hx8) (lds_cons (ldI_eq hx9) (lds_nil)))) (Trc.eff rfl rfl rfl (fun _ => trivial) (s_callF rfl ok13 (sim13 hp10)) (Trc.pure rfl rfl rfl (.inl fun _ => s_eqAgg eg36 rfl rfl (eq22 Tryd.underlying36 Tryd.underlying25 Tryd.underlying3 Tryd.underlying3 ty25 (by decide) (by decide) (by decide) (by decide) rfl rfl rfl rfl sih36 sih25 p7.1.1 p7.1.2.1 p7.1.2.2.1 p7.1.2.2.2 p10.1.1 p10.1.2.1 p10.1.2.2.1 p10.1.2.2.2)) (Trc.pure rfl rfl rfl (.inl fun _ => s_mv (v := .bool (((p7.1.1 == p10.1.1) && (p7.1.2.1 == p10.1.2.1)) && ((p7.1.2.2.1 == p10.1.2.2.1) && (p7.1.2.2.2 == p10.1.2.2.2)))) rfl) (Trc.know 87 rfl (bool_T h11) (Trc.read rfl rfl rfl (s_loads Tryd.underlying27 rfl ty27 rfl (lds_cons (ldI_eq hx12) (lds_cons (ldI_eq hx13) (lds_cons (ldI_eq hx14) (lds_cons (ldI_eq hx15) (lds_nil)))))) (Trc.pure rfl rfl rfl (.inl fun _ => s_callO rfl ok12 (sim12 hp16) rfl rfl) (Trc.pure rfl rfl rfl (.inl fun _ => s_mv (v := .sl v1) rfl) (Trc.read rfl rfl rfl (s_loads Tryd.underlying23 rfl ty23 rfl (lds_cons (ldI_eq hx17) (lds_cons (ldI_eq hx18) (lds_nil)))) (Trc.eff rfl rfl rfl (fun _ => trivial) (s_callF rfl ok14 (sim14 hp19)) (Trc.pure rfl rfl rfl (.inl fun _ => s_eqAgg eg36 rfl rfl (eq22 Tryd.underlying36 Tryd.underlying25 Tryd.underlying3 Tryd.underlying3 ty25 (by decide) (by decide) (by decide) (by decide) rfl rfl rfl rfl sih36 sih25 p16.1.1 p16.1.2.1 p16.1.2.2.1 p16.1.2.2.2 p19.1.1 p19.1.2.1 p19.1.2.2.1 p19.1.2.2.2)) (Trc.pure rfl rfl rfl (.inl fun _ => s_pickT (v := .bool (((p16.1.1 == p19.1.1) && (p16.1.2.1 == p19.1.2.1)) && ((p16.1.2.2.1 == p19.1.2.2.1) && (p16.1.2.2.2 == p19.1.2.2.2)))) rfl rfl) (Trc.pure rfl rfl rfl (.inl fun _ => s_mv (v := .bool (((p16.1.1 == p19.1.1) && (p16.1.2.1 == p19.1.2.1)) && ((p16.1.2.2.1 == p19.1.2.2.1) && (p16.1.2.2.2 == p19.1.2.2.2)))) rfl) (Trc.know 95 rfl (bool_T h20) (Trc.read rfl rfl rfl (s_loads Tryd.underlying27 rfl ty27 rfl (lds_cons (ldI_eq hx21) (lds_cons (ldI_eq hx22) (lds_cons (ldI_eq hx23) (lds_cons (ldI_eq hx24) (lds_nil)))))) (Trc.pure rfl rfl rfl (.inl fun _ => s_callO rfl ok12 (sim12 hp25) rfl rfl) (Trc.pure rfl rfl rfl (.inl fun _ => s_mv (v := .sl v1) rfl) (Trc.read rfl rfl rfl (s_loads Tryd.underlying23 rfl ty23 rfl (lds_cons (ldI_eq hx26) (lds_cons (ldI_eq hx27) (lds_nil)))) (Trc.eff rfl rfl rfl (fun _ => trivial) (s_callF rfl ok15 (sim15 hp28)) (Trc.pure rfl rfl rfl (.inl fun _ => s_eqAgg eg36 rfl rfl (eq22 Tryd.underlying36 Tryd.underlying25 Tryd.underlying3 Tryd.underlying3 ty25 (by decide) (by decide) (by decide) (by decide) rfl rfl rfl rfl sih36 sih25 p25.1.1 p25.1.2.1 p25.1.2.2.1 p25.1.2.2.2 p28.1.1 p28.1.2.1 p28.1.2.2.1 p28.1.2.2.2)) (Trc.pure rfl rfl rfl (.inl fun _ => s_pickT (v := .bool (((p25.1.1 == p28.1.1) && (p25.1.2.1 == p28.1.2.1)) && ((p25.1.2.2.1 == p28.1.2.2.1) && (p25.1.2.2.2 == p28.1.2.2.2)))) rfl rfl) (Trc.pure rfl rfl rfl (.inl fun _ => s_mv (v := .bool (((p25.1.1 == p28.1.1) && (p25.1.2.1 == p28.1.2.1)) && ((p25.1.2.2.1 == p28.1.2.2.1) && (p25.1.2.2.2 == p28.1.2.2.2)))) rfl) (Trc.know 103 rfl (bool_F h29) (Trc.no rfl rfl rfl (Trc.no rfl rfl rfl (Trc.pure rfl rfl rfl (.inl fun _ => s_pickF (v := .bool false) rfl rfl) (Trc.pure rfl rfl rfl (.inl fun _ => s_mv (v := .bool false) rfl) (Trc.no rfl rfl rfl (Trc.no rfl rfl rfl (Trc.pure rfl rfl rfl (.inl fun _ => s_pickF (v := .bool false) rfl rfl) (Trc.pure rfl rfl rfl (.inl fun _ => s_mv (v := .bool false) rfl) (Trc.no rfl rfl rfl (Trc.no rfl rfl rfl (Trc.pure rfl rfl rfl (.inl fun _ => s_pickF (v := .bool false) rfl rfl) (Trc.pure rfl rfl rfl (.inl fun _ => s_mv (v := .bool false) rfl) (Trc.no rfl rfl rfl (Trc.pure rfl rfl rfl (.inl fun _ => s_pickF (v := .bool false) rfl rfl) (Trc.pure rfl rfl rfl (.inl fun _ => s_as (v := .bool false) rfl) (Trc.nil (fun _ => trivial))))))))))))))))))))))))))))))))))))))))))) rfl (by decide +kernel) mixed ?_
          exact f_ret (.tmp rfl (.nil)) rfl
      · skip
        refine f_draw (Φ := fun _ => True) (lim := 1000000) [1, 0, 0, 1, 2, 0, 0, 1, 0, 0, 1, 2, 0, 0, 0, 0, 0, 0, 0, 0, 0, 0, 0, 0, 0, 0, 0, 0, 0, 0, 0, 0, 0, 0, 0, 0, 0, 0] (Trc.read rfl rfl rfl (s_loads Tryd.underlying27 rfl ty27 rfl (lds_cons (ldI_eq hx3) (lds_cons (ldI_eq hx4) (lds_cons (ldI_eq hx5) (lds_cons (ldI_eq hx6) (lds_nil)))))) (Trc.pure rfl rfl rfl (.inl fun _ => s_callO rfl ok12 (sim12 hp7) rfl rfl) (Trc.pure rfl rfl rfl (.inl fun _ => s_mv (v := .sl v1) rfl) (Trc.read rfl rfl rfl (s_loads Tryd.underlying23 rfl ty23 rfl (lds_cons (ldI_eq hx8) (lds_cons (ldI_eq hx9) (lds_nil)))) (Trc.eff rfl rfl rfl (fun _ => trivial) (s_callF rfl ok13 (sim13 hp10)) (Trc.pure rfl rfl rfl (.inl fun _ => s_eqAgg eg36 rfl rfl (eq22 Tryd.underlying36 Tryd.underlying25 Tryd.underlying3 Tryd.underlying3 ty25 (by decide) (by decide) (by decide) (by decide) rfl rfl rfl rfl sih36 sih25 p7.1.1 p7.1.2.1 p7.1.2.2.1 p7.1.2.2.2 p10.1.1 p10.1.2.1 p10.1.2.2.1 p10.1.2.2.2)) (Trc.pure rfl rfl rfl (.inl fun _ => s_mv (v := .bool (((p7.1.1 == p10.1.1) && (p7.1.2.1 == p10.1.2.1)) && ((p7.1.2.2.1 == p10.1.2.2.1) && (p7.1.2.2.2 == p10.1.2.2.2)))) rfl) (Trc.know 87 rfl (bool_T h11) (Trc.read rfl rfl rfl (s_loads Tryd.underlying27 rfl ty27 rfl (lds_cons (ldI_eq hx12) (lds_cons (ldI_eq hx13) (lds_cons (ldI_eq hx14) (lds_cons (ldI_eq hx15) (lds_nil)))))) (Trc.pure rfl rfl rfl (.inl fun _ => s_callO rfl ok12 (sim12 hp16) rfl rfl) (Trc.pure rfl rfl rfl (.inl fun _ => s_mv (v := .sl v1) rfl) (Trc.read rfl rfl rfl (s_loads Tryd.underlying23 rfl ty23 rfl (lds_cons (ldI_eq hx17) (lds_cons (ldI_eq hx18) (lds_nil)))) (Trc.eff rfl rfl rfl (fun _ => trivial) (s_callF rfl ok14 (sim14 hp19)) (Trc.pure rfl rfl rfl (.inl fun _ => s_eqAgg eg36 rfl rfl (eq22 Tryd.underlying36 Tryd.underlying25 Tryd.underlying3 Tryd.underlying3 ty25 (by decide) (by decide) (by decide) (by decide) rfl rfl rfl rfl sih36 sih25 p16.1.1 p16.1.2.1 p16.1.2.2.1 p16.1.2.2.2 p19.1.1 p19.1.2.1 p19.1.2.2.1 p19.1.2.2.2)) (Trc.pure rfl rfl rfl (.inl fun _ => s_pickT (v := .bool (((p16.1.1 == p19.1.1) && (p16.1.2.1 == p19.1.2.1)) && ((p16.1.2.2.1 == p19.1.2.2.1) && (p16.1.2.2.2 == p19.1.2.2.2)))) rfl rfl) (Trc.pure rfl rfl rfl (.inl fun _ => s_mv (v := .bool (((p16.1.1 == p19.1.1) && (p16.1.2.1 == p19.1.2.1)) && ((p16.1.2.2.1 == p19.1.2.2.1) && (p16.1.2.2.2 == p19.1.2.2.2)))) rfl) (Trc.know 95 rfl (bool_F h20) (Trc.no rfl rfl rfl (Trc.no rfl rfl rfl (Trc.no rfl rfl rfl (Trc.no rfl rfl rfl (Trc.no rfl rfl rfl (Trc.no rfl rfl rfl (Trc.pure rfl rfl rfl (.inl fun _ => s_pickF (v := .bool false) rfl rfl) (Trc.pure rfl rfl rfl (.inl fun _ => s_mv (v := .bool false) rfl) (Trc.no rfl rfl rfl (Trc.no rfl rfl rfl (Trc.pure rfl rfl rfl (.inl fun _ => s_pickF (v := .bool false) rfl rfl) (Trc.pure rfl rfl rfl (.inl fun _ => s_mv (v := .bool false) rfl) (Trc.no rfl rfl rfl (Trc.no rfl rfl rfl (Trc.pure rfl rfl rfl (.inl fun _ => s_pickF (v := .bool false) rfl rfl) (Trc.pure rfl rfl rfl (.inl fun _ => s_mv (v := .bool false) rfl) (Trc.no rfl rfl rfl (Trc.no rfl rfl rfl (Trc.pure rfl rfl rfl (.inl fun _ => s_pickF (v := .bool false) rfl rfl) (Trc.pure rfl rfl rfl (.inl fun _ => s_mv (v := .bool false) rfl) (Trc.no rfl rfl rfl (Trc.pure rfl rfl rfl (.inl fun _ => s_pickF (v := .bool false) rfl rfl) (Trc.pure rfl rfl rfl (.inl fun _ => s_as (v := .bool false) rfl) (Trc.nil (fun _ => trivial)))))))))))))))))))))))))))))))))))))))))) rfl (by decide +kernel) mixed ?_
        exact f_ret (.tmp rfl (.nil)) rfl
    · skip
      refine f_draw (Φ := fun _ => True) (lim := 1000000) [1, 0, 0, 1, 2, 0, 0, 0, 0, 0, 0, 0, 0, 0, 0, 0, 0, 0, 0, 0, 0, 0, 0, 0, 0, 0, 0, 0, 0, 0, 0, 0, 0, 0, 0, 0, 0, 0] (Trc.read rfl rfl rfl (s_loads Tryd.underlying27 rfl ty27 rfl (lds_cons (ldI_eq hx3) (lds_cons (ldI_eq hx4) (lds_cons (ldI_eq hx5) (lds_cons (ldI_eq hx6) (lds_nil)))))) (Trc.pure rfl rfl rfl (.inl fun _ => s_callO rfl ok12 (sim12 hp7) rfl rfl) (Trc.pure rfl rfl rfl (.inl fun _ => s_mv (v := .sl v1) rfl) (Trc.read rfl rfl rfl (s_loads Tryd.underlying23 rfl ty23 rfl (lds_cons (ldI_eq hx8) (lds_cons (ldI_eq hx9) (lds_nil)))) (Trc.eff rfl rfl rfl (fun _ => trivial) (s_callF rfl ok13 (sim13 hp10)) (Trc.pure rfl rfl rfl (.inl fun _ => s_eqAgg eg36 rfl rfl (eq22 Tryd.underlying36 Tryd.underlying25 Tryd.underlying3 Tryd.underlying3 ty25 (by decide) (by decide) (by decide) (by decide) rfl rfl rfl rfl sih36 sih25 p7.1.1 p7.1.2.1 p7.1.2.2.1 p7.1.2.2.2 p10.1.1 p10.1.2.1 p10.1.2.2.1 p10.1.2.2.2)) (Trc.pure rfl rfl rfl (.inl fun _ => s_mv (v := .bool (((p7.1.1 == p10.1.1) && (p7.1.2.1 == p10.1.2.1)) && ((p7.1.2.2.1 == p10.1.2.2.1) && (p7.1.2.2.2 == p10.1.2.2.2)))) rfl) (Trc.know 87 rfl (bool_F h11) (Trc.no rfl rfl rfl (Trc.no rfl rfl rfl (Trc.no rfl rfl rfl (Trc.no rfl rfl rfl (Trc.no rfl rfl rfl (Trc.no rfl rfl rfl (Trc.pure rfl rfl rfl (.inl fun _ => s_pickF (v := .bool false) rfl rfl) (Trc.pure rfl rfl rfl (.inl fun _ => s_mv (v := .bool false) rfl) (Trc.no rfl rfl rfl (Trc.no rfl rfl rfl (Trc.no rfl rfl rfl (Trc.no rfl rfl rfl (Trc.no rfl rfl rfl (Trc.no rfl rfl rfl (Trc.pure rfl rfl rfl (.inl fun _ => s_pickF (v := .bool false) rfl rfl) (Trc.pure rfl rfl rfl (.inl fun _ => s_mv (v := .bool false) rfl) (Trc.no rfl rfl rfl (Trc.no rfl rfl rfl (Trc.pure rfl rfl rfl (.inl fun _ => s_pickF (v := .bool false) rfl rfl) (Trc.pure rfl rfl rfl (.inl fun _ => s_mv (v := .bool false) rfl) (Trc.no rfl rfl rfl (Trc.no rfl rfl rfl (Trc.pure rfl rfl rfl (.inl fun _ => s_pickF (v := .bool false) rfl rfl) (Trc.pure rfl rfl rfl (.inl fun _ => s_mv (v := .bool false) rfl) (Trc.no rfl rfl rfl (Trc.no rfl rfl rfl (Trc.pure rfl rfl rfl (.inl fun _ => s_pickF (v := .bool false) rfl rfl) (Trc.pure rfl rfl rfl (.inl fun _ => s_mv (v := .bool false) rfl) (Trc.no rfl rfl rfl (Trc.pure rfl rfl rfl (.inl fun _ => s_pickF (v := .bool false) rfl rfl) (Trc.pure rfl rfl rfl (.inl fun _ => s_as (v := .bool false) rfl) (Trc.nil (fun _ => trivial))))))))))))))))))))))))))))))))))))))))) rfl (by decide +kernel) mixed ?_
      exact f_ret (.tmp rfl (.nil)) rfl

theorem s3_j1 {app : App} (happ : AppSim Tryd.prog app) (v1 : Sl) (v2 : Nat) (v3 : Nat) (v4 : Int) (v5 : Nat) (v6 : Int) (v7 : Nat) (v8 : Int) (v9 : Bool) (H : Hp) : Fin Tryd.prog Tryd.f3 ret3 118 (todoAt (bodyOf Tryd.f3) [1, 1, 1, 1, 0, 1] []) [(0, .sl v1), (3, .ptr v2 0), (5, .ptr v3 0), (6, .int .i64 v4), (7, .ptr v5 0), (8, .int .i64 v6), (9, .ptr v7 0), (10, .int .i64 v8), (11, .bool v9)] H (r3_j1 app v1 v2 v3 v4 v5 v6 v7 v8 v9 H) := by
  unfold r3_j1
  refine f_seq ?_
  refine f_region ?_
  refine f_op rfl rfl (s_mv (v := .bool v9) rfl) ?_
  refine f_op rfl rfl (s_not rfl) ?_
  refine f_op rfl rfl (s_mv (v := .bool (!v9)) rfl) ?_
  refine o_if (fun h1 => ?_) (fun h1 => ?_)
  · skip
    refine o_know 42 rfl (bool_notT h1) ?_
    refine f_op rfl rfl (s_mv (v := .sl v1) rfl) ?_
    refine o_bind ?_; intro x2 hx2
    refine o_bind ?_; intro x3 hx3
    refine f_op rfl rfl (s_loads Tryd.underlying23 rfl ty23 rfl (lds_cons (ldI_eq hx2) (lds_cons (ldI_eq hx3) (lds_nil)))) ?_
    refine o_bind ?_; intro p4 hp4
    refine f_op rfl rfl (s_callF rfl ok10 (sim10 hp4)) ?_
    refine f_op rfl rfl (s_not rfl) ?_
    refine f_op rfl rfl (s_pickF (v := .bool (!p4.1)) rfl rfl) ?_
    refine f_nil ?_
    refine f_know 11 rfl (bool_T h1) ?_
    refine f_keep [0, 3, 5, 6, 7, 8, 9, 10, 11, 47] ?_
    exact s3_j0 happ v1 v2 v3 v4 v5 v6 v7 v8 true (!p4.1) p4.2
  · skip
    refine o_know 42 rfl (bool_notF h1) ?_
    refine f_no rfl rfl ?_
    refine f_no rfl rfl ?_
    refine f_no rfl rfl ?_
    refine f_no rfl rfl ?_
    refine f_op rfl rfl (s_pickT (v := .bool true) rfl rfl) ?_
    refine f_nil ?_
    refine f_know 11 rfl (bool_F h1) ?_
    refine f_keep [0, 3, 5, 6, 7, 8, 9, 10, 11, 47] ?_
    exact s3_j0 happ v1 v2 v3 v4 v5 v6 v7 v8 false true H

theorem sim3 {app : App} (happ : AppSim Tryd.prog app) {a0 : Sl} {a1_0 : Int} {a1_1 : Int} {H : Hp} {p : Bool × Hp} (h : r3 app a0 a1_0 a1_1 H = some p) : CallSim Tryd.prog 3 [.sl a0, .agg [.int .i64 a1_0, .int .i64 a1_1]] H (.bool p.1) p.2 := by
  refine callSim (fn := Tryd.f3) (ret := ret3) Tryd.func3 rfl Tryd.ntmps3 rfl ?_ h
  unfold r3
  refine f_seq ?_
  refine f_region ?_
  refine f_op rfl rfl (s_box (v := .agg [.int .i64 a1_0, .int .i64 a1_1]) rfl rfl) ?_
  refine f_op rfl rfl (s_as (v := .bool false) rfl) ?_
  refine o_hp ?_; intro H1 hH1
  refine f_nil ?_
  refine f_seq ?_
  refine f_bind ?_; intro p2 hp2
  refine f_bind ?_; intro x3 hx3
  refine f_bind ?_; intro x4 hx4
  refine f_bind ?_; intro p5 hp5
  refine f_bind ?_; intro H6 hH6
  refine f_ck fun g7 => ?_
  refine f_ck fun g8 => ?_
  refine f_drawF (Φ := fun H_ => H_.ld H.n 0 = some (.int .i64 x3) ∧ H_.ld H.n (0 + 1) = some (.int .i64 x4)) (lim := 3) [0, 2, 0, 2, 0, 0, 0, 2, 2, 0] [false, false, false, false, false, false, false, true, false, false] 7 8 (Trc.pure rfl rfl rfl (.inl fun _ => s_mv (v := .sl a0) rfl) (Trc.eff rfl rfl rfl (fun _ => ⟨ldI_eq g7, ldI_eq g8⟩) (s_callF rfl ok5 (sim5 hp2)) (Trc.pure rfl rfl rfl (.inr ⟨by decide +kernel, fun _ hp_ => s_loads Tryd.underlying23 rfl ty23 rfl (lds_cons hp_.1 (lds_cons hp_.2 (lds_nil)))⟩) (Trc.eff rfl rfl rfl (fun _ => ⟨ldI_eq hx3, ldI_eq hx4⟩) (s_callF rfl ok4 (sim4 happ hp5)) (Trc.pure rfl rfl rfl (.inl fun _ => s_mv (v := .tup [.agg [.int .i64 p5.1.1, .int .i64 p5.1.2.1, .int .i64 p5.1.2.2.1, .int .i64 p5.1.2.2.2.1], .int .i64 p5.1.2.2.2.2]) rfl) (Trc.pure rfl rfl rfl (.inl fun _ => s_extract (r := .agg [.int .i64 p5.1.1, .int .i64 p5.1.2.1, .int .i64 p5.1.2.2.1, .int .i64 p5.1.2.2.2.1]) rfl rfl) (Trc.pure rfl rfl rfl (.inl fun _ => s_extract (r := .int .i64 p5.1.2.2.2.2) rfl rfl) (Trc.fl .p rfl rfl rfl (fun h_ => absurd h_ (by decide +kernel)) rfl (by rfl) (fun _ => s_alloc (zs := [.int .i64 0, .int .i64 0, .int .i64 0, .int .i64 0]) ty27 rfl rfl) (Trc.eff rfl rfl rfl (fun h_ => absurd h_ (by decide +kernel)) (s_stores ty27 rfl rfl rfl rfl hH6 (Nat.le_of_eq (sts_mono hH6).symm)) (Trc.pure rfl rfl rfl (.inl fun _ => s_as (v := .int .i64 p5.1.2.2.2.2) rfl) (Trc.nil (fun h_ => absurd h_ (by decide +kernel))))))))))))) rfl rfl (by decide +kernel) mixed ?_
  refine f_seq ?_
  refine f_bind ?_; intro p9 hp9
  refine f_bind ?_; intro x10 hx10
  refine f_bind ?_; intro x11 hx11
  refine f_bind ?_; intro p12 hp12
  refine f_bind ?_; intro H13 hH13
  refine f_ck fun g14 => ?_
  refine f_ck fun g15 => ?_
  refine f_drawF (Φ := fun H_ => H_.ld H.n 0 = some (.int .i64 x10) ∧ H_.ld H.n (0 + 1) = some (.int .i64 x11)) (lim := 3) [0, 2, 0, 2, 0, 0, 0, 2, 2, 0] [false, false, false, false, false, false, false, true, false, false] 7 8 (Trc.pure rfl rfl rfl (.inl fun _ => s_mv (v := .sl a0) rfl) (Trc.eff rfl rfl rfl (fun _ => ⟨ldI_eq g14, ldI_eq g15⟩) (s_callF rfl ok5 (sim5 hp9)) (Trc.pure rfl rfl rfl (.inr ⟨by decide +kernel, fun _ hp_ => s_loads Tryd.underlying23 rfl ty23 rfl (lds_cons hp_.1 (lds_cons hp_.2 (lds_nil)))⟩) (Trc.eff rfl rfl rfl (fun _ => ⟨ldI_eq hx10, ldI_eq hx11⟩) (s_callF rfl ok6 (sim6 happ hp12)) (Trc.pure rfl rfl rfl (.inl fun _ => s_mv (v := .tup [.agg [.int .i64 p12.1.1, .int .i64 p12.1.2.1, .int .i64 p12.1.2.2.1, .int .i64 p12.1.2.2.2.1], .int .i64 p12.1.2.2.2.2]) rfl) (Trc.pure rfl rfl rfl (.inl fun _ => s_extract (r := .agg [.int .i64 p12.1.1, .int .i64 p12.1.2.1, .int .i64 p12.1.2.2.1, .int .i64 p12.1.2.2.2.1]) rfl rfl) (Trc.pure rfl rfl rfl (.inl fun _ => s_extract (r := .int .i64 p12.1.2.2.2.2) rfl rfl) (Trc.fl .p rfl rfl rfl (fun h_ => absurd h_ (by decide +kernel)) rfl (by rfl) (fun _ => s_alloc (zs := [.int .i64 0, .int .i64 0, .int .i64 0, .int .i64 0]) ty27 rfl rfl) (Trc.eff rfl rfl rfl (fun h_ => absurd h_ (by decide +kernel)) (s_stores ty27 rfl rfl rfl rfl hH13 (Nat.le_of_eq (sts_mono hH13).symm)) (Trc.pure rfl rfl rfl (.inl fun _ => s_as (v := .int .i64 p12.1.2.2.2.2) rfl) (Trc.nil (fun h_ => absurd h_ (by decide +kernel))))))))))))) rfl rfl (by decide +kernel) mixed ?_
  refine f_seq ?_
  refine f_bind ?_; intro p16 hp16
  refine f_bind ?_; intro x17 hx17
  refine f_bind ?_; intro x18 hx18
  refine f_bind ?_; intro p19 hp19
  refine f_bind ?_; intro H20 hH20
  refine f_ck fun g21 => ?_
  refine f_ck fun g22 => ?_
  refine f_drawF (Φ := fun H_ => H_.ld H.n 0 = some (.int .i64 x17) ∧ H_.ld H.n (0 + 1) = some (.int .i64 x18)) (lim := 3) [0, 2, 0, 2, 0, 0, 0, 2, 2, 0] [false, false, false, false, false, false, false, true, false, false] 7 8 (Trc.pure rfl rfl rfl (.inl fun _ => s_mv (v := .sl a0) rfl) (Trc.eff rfl rfl rfl (fun _ => ⟨ldI_eq g21, ldI_eq g22⟩) (s_callF rfl ok5 (sim5 hp16)) (Trc.pure rfl rfl rfl (.inr ⟨by decide +kernel, fun _ hp_ => s_loads Tryd.underlying23 rfl ty23 rfl (lds_cons hp_.1 (lds_cons hp_.2 (lds_nil)))⟩) (Trc.eff rfl rfl rfl (fun _ => ⟨ldI_eq hx17, ldI_eq hx18⟩) (s_callF rfl ok7 (sim7 happ hp19)) (Trc.pure rfl rfl rfl (.inl fun _ => s_mv (v := .tup [.agg [.int .i64 p19.1.1, .int .i64 p19.1.2.1, .int .i64 p19.1.2.2.1, .int .i64 p19.1.2.2.2.1], .int .i64 p19.1.2.2.2.2]) rfl) (Trc.pure rfl rfl rfl (.inl fun _ => s_extract (r := .agg [.int .i64 p19.1.1, .int .i64 p19.1.2.1, .int .i64 p19.1.2.2.1, .int .i64 p19.1.2.2.2.1]) rfl rfl) (Trc.pure rfl rfl rfl (.inl fun _ => s_extract (r := .int .i64 p19.1.2.2.2.2) rfl rfl) (Trc.fl .p rfl rfl rfl (fun h_ => absurd h_ (by decide +kernel)) rfl (by rfl) (fun _ => s_alloc (zs := [.int .i64 0, .int .i64 0, .int .i64 0, .int .i64 0]) ty27 rfl rfl) (Trc.eff rfl rfl rfl (fun h_ => absurd h_ (by decide +kernel)) (s_stores ty27 rfl rfl rfl rfl hH20 (Nat.le_of_eq (sts_mono hH20).symm)) (Trc.pure rfl rfl rfl (.inl fun _ => s_as (v := .int .i64 p19.1.2.2.2.2) rfl) (Trc.nil (fun h_ => absurd h_ (by decide +kernel))))))))))))) rfl rfl (by decide +kernel) mixed ?_
  refine f_seq ?_
  refine f_seq ?_
  refine f_region ?_
  refine f_op rfl rfl (s_mv (v := .sl a0) rfl) ?_
  refine o_bind ?_; intro p23 hp23
  refine f_op rfl rfl (s_callF rfl ok8 (sim8 hp23)) ?_
  refine f_op rfl rfl (s_mv (v := .bool p23.1) rfl) ?_
  refine o_if (fun h24 => ?_) (fun h24 => ?_)
  · skip
    refine o_know 36 rfl (bool_T h24) ?_
    refine o_bind ?_; intro x25 hx25
    refine o_bind ?_; intro x26 hx26
    refine f_op rfl rfl (s_loads Tryd.underlying23 rfl ty23 rfl (lds_cons (ldI_eq hx25) (lds_cons (ldI_eq hx26) (lds_nil)))) ?_
    refine o_bind ?_; intro p27 hp27
    refine f_op rfl rfl (s_callO rfl ok9 (sim9 hp27) rfl rfl) ?_
    refine f_op rfl rfl (s_pickT (v := .bool p27.1) rfl rfl) ?_
    refine f_op rfl rfl (s_as (v := .bool p27.1) rfl) ?_
    refine f_nil ?_
    refine f_keep [0, 3, 5, 6, 7, 8, 9, 10, 11] ?_
    exact s3_j1 happ a0 H.n p5.2.n p5.1.2.2.2.2 p12.2.n p12.1.2.2.2.2 p19.2.n p19.1.2.2.2.2 p27.1 p23.2
  · skip
    refine o_know 36 rfl (bool_F h24) ?_
    refine f_no rfl rfl ?_
    refine f_no rfl rfl ?_
    refine f_op rfl rfl (s_pickF (v := .bool false) rfl rfl) ?_
    refine f_op rfl rfl (s_as (v := .bool false) rfl) ?_
    refine f_nil ?_
    refine f_keep [0, 3, 5, 6, 7, 8, 9, 10, 11] ?_
    exact s3_j1 happ a0 H.n p5.2.n p5.1.2.2.2.2 p12.2.n p12.1.2.2.2.2 p19.2.n p19.1.2.2.2.2 false p23.2

/- 20 congou/deals.gain -/
theorem ok20 : FnOk Tryd.prog 20 := ⟨⟨Tryd.f20, Tryd.func20, by kernel_rfl, rfl⟩⟩
theorem s20_j0 (v1 : Nat) (v2 : Nat) (v3 : Nat) (v4 : Bool) (H : Hp) : Fin Tryd.prog Tryd.f20 ret20 55 (todoAt (bodyOf Tryd.f20) [1, 1, 0, 1] []) [(4, .ptr v1 0), (5, .ptr v2 0), (6, .ptr v3 0), (42, .bool v4)] H (r20_j0 v1 v2 v3 v4 H) := by
  unfold r20_j0
  refine f_if (fun h1 => ?_) (fun h1 => ?_)
  · skip
    refine f_know 42 rfl (bool_T h1) ?_
    refine f_condT rfl ?_
    refine f_seq ?_
    refine f_region ?_
    refine o_bind ?_; intro p2 hp2
    refine f_op rfl rfl (s_callO rfl ok18 (sim18 hp2) rfl rfl) ?_
    refine o_bind ?_; intro H3 hH3
    refine f_op rfl rfl (s_stores ty25 rfl rfl rfl rfl hH3 (Nat.le_of_eq (sts_mono hH3).symm)) ?_
    refine f_nil ?_
    refine f_bind ?_; intro x4 hx4
    refine f_bind ?_; intro x5 hx5
    exact f_ret (.cells Tryd.underlying25 rfl sz25 rfl (lds_cons (ldI_eq hx4) (lds_cons (ldI_eq hx5) (lds_nil))) (.nil)) rfl
  · skip
    refine f_know 42 rfl (bool_F h1) ?_
    refine f_condF rfl ?_
    refine f_skip ?_
    refine f_seq ?_
    refine f_region ?_
    refine f_op rfl rfl (s_fieldAddr Tryd.underlying25 rfl ty3 rfl) ?_
    refine o_bind ?_; intro x6 hx6
    refine f_op rfl rfl (s_load Tryd.underlying3 rfl rfl (ldI_eq hx6)) ?_
    refine f_op rfl rfl (s_fieldAddr Tryd.underlying25 rfl ty3 rfl) ?_
    refine o_bind ?_; intro x7 hx7
    refine f_op rfl rfl (s_load Tryd.underlying3 rfl rfl (ldI_eq hx7)) ?_
    refine f_op rfl rfl (s_mul rfl rfl) ?_
    refine f_op rfl rfl (s_fieldAddr Tryd.underlying25 rfl ty3 rfl) ?_
    refine o_bind ?_; intro x8 hx8
    refine f_op rfl rfl (s_load Tryd.underlying3 rfl rfl (ldI_eq hx8)) ?_
    refine f_op rfl rfl (s_fieldAddr Tryd.underlying25 rfl ty3 rfl) ?_
    refine o_bind ?_; intro x9 hx9
    refine f_op rfl rfl (s_load Tryd.underlying3 rfl rfl (ldI_eq hx9)) ?_
    refine f_op rfl rfl (s_mul rfl rfl) ?_
    refine o_bind ?_; intro p10 hp10
    refine f_op rfl rfl (s_callO rfl ok18 (sim18 hp10) rfl rfl) ?_
    refine o_bind ?_; intro H11 hH11
    refine f_op rfl rfl (s_stores ty25 rfl rfl rfl rfl hH11 (Nat.le_of_eq (sts_mono hH11).symm)) ?_
    refine f_nil ?_
    refine f_bind ?_; intro x12 hx12
    refine f_bind ?_; intro x13 hx13
    exact f_ret (.cells Tryd.underlying25 rfl sz25 rfl (lds_cons (ldI_eq hx12) (lds_cons (ldI_eq hx13) (lds_nil))) (.nil)) rfl

theorem sim20 {a0_0 : Int} {a0_1 : Int} {a0_2 : Int} {a0_3 : Int} {a1_0 : Int} {a1_1 : Int} {H : Hp} {p : (Int × Int) × Hp} (h : r20 a0_0 a0_1 a0_2 a0_3 a1_0 a1_1 H = some p) : CallSim Tryd.prog 20 [.agg [.int .i64 a0_0, .int .i64 a0_1, .int .i64 a0_2, .int .i64 a0_3], .agg [.int .i64 a1_0, .int .i64 a1_1]] H (.agg [.int .i64 p.1.1, .int .i64 p.1.2]) p.2 := by
  refine callSim (fn := Tryd.f20) (ret := ret20) Tryd.func20 rfl Tryd.ntmps20 rfl ?_ h
  unfold r20
  refine f_seq ?_
  refine f_region ?_
  refine f_op rfl rfl (s_box (v := .agg [.int .i64 a0_0, .int .i64 a0_1, .int .i64 a0_2, .int .i64 a0_3]) rfl rfl) ?_
  refine f_op rfl rfl (s_box (v := .agg [.int .i64 a1_0, .int .i64 a1_1]) rfl rfl) ?_
  refine f_op rfl rfl (s_alloc (zs := [.int .i64 0, .int .i64 0]) ty25 rfl rfl) ?_
  refine o_hp ?_; intro H1 hH1
  refine f_nil ?_
  refine f_seq ?_
  refine f_bind ?_; intro x2 hx2
  refine f_bind ?_; intro x3 hx3
  refine f_bind ?_; intro x4 hx4
  refine f_bind ?_; intro x5 hx5
  refine f_bind ?_; intro p6 hp6
  refine f_bind ?_; intro x7 hx7
  refine f_bind ?_; intro x8 hx8
  refine f_bind ?_; intro x9 hx9
  refine f_bind ?_; intro x10 hx10
  refine f_bind ?_; intro p11 hp11
  refine f_bind ?_; intro H12 hH12
  refine f_bind ?_; intro H13 hH13
  refine f_drawF (Φ := fun _ => True) (lim := 1000000) [0, 0, 1, 0, 1, 0, 0, 1, 0, 0, 0, 0, 1, 0, 0, 0, 1, 0, 1, 0, 0, 1, 0, 0, 0, 0, 1, 0, 2, 2, 2, 2] [false, false, false, false, false, false, false, false, false, false, false, false, false, false, false, false, false, false, false, false, false, false, false, false, false, false, false, false, true, true, false, false] 28 30 (Trc.pure rfl rfl rfl (.inl fun _ => s_fieldAddr Tryd.underlying27 rfl ty25 rfl) (Trc.pure rfl rfl rfl (.inl fun _ => s_fieldAddr Tryd.underlying25 rfl ty3 rfl) (Trc.read rfl rfl rfl (s_load Tryd.underlying3 rfl rfl (ldI_eq hx2)) (Trc.pure rfl rfl rfl (.inl fun _ => s_idxA Tryd.underlying23 ty3 rfl rfl (by decide)) (Trc.read rfl rfl rfl (s_load Tryd.underlying3 rfl rfl (ldI_eq hx3)) (Trc.pure rfl rfl rfl (.inl fun _ => s_fieldAddr Tryd.underlying27 rfl ty25 rfl) (Trc.pure rfl rfl rfl (.inl fun _ => s_fieldAddr Tryd.underlying25 rfl ty3 rfl) (Trc.read rfl rfl rfl (s_load Tryd.underlying3 rfl rfl (ldI_eq hx4)) (Trc.pure rfl rfl rfl (.inl fun _ => s_mul rfl rfl) (Trc.pure rfl rfl rfl (.inl fun _ => s_sub rfl rfl) (Trc.pure rfl rfl rfl (.inl fun _ => s_fieldAddr Tryd.underlying27 rfl ty25 rfl) (Trc.pure rfl rfl rfl (.inl fun _ => s_fieldAddr Tryd.underlying25 rfl ty3 rfl) (Trc.read rfl rfl rfl (s_load Tryd.underlying3 rfl rfl (ldI_eq hx5)) (Trc.pure rfl rfl rfl (.inl fun _ => s_callO rfl ok18 (sim18 hp6) rfl rfl) (Trc.pure rfl rfl rfl (.inl fun _ => s_fieldAddr Tryd.underlying27 rfl ty25 rfl) (Trc.pure rfl rfl rfl (.inl fun _ => s_fieldAddr Tryd.underlying25 rfl ty3 rfl) (Trc.read rfl rfl rfl (s_load Tryd.underlying3 rfl rfl (ldI_eq hx7)) (Trc.pure rfl rfl rfl (.inl fun _ => s_idxA Tryd.underlying23 ty3 rfl rfl (by decide)) (Trc.read rfl rfl rfl (s_load Tryd.underlying3 rfl rfl (ldI_eq hx8)) (Trc.pure rfl rfl rfl (.inl fun _ => s_fieldAddr Tryd.underlying27 rfl ty25 rfl) (Trc.pure rfl rfl rfl (.inl fun _ => s_fieldAddr Tryd.underlying25 rfl ty3 rfl) (Trc.read rfl rfl rfl (s_load Tryd.underlying3 rfl rfl (ldI_eq hx9)) (Trc.pure rfl rfl rfl (.inl fun _ => s_mul rfl rfl) (Trc.pure rfl rfl rfl (.inl fun _ => s_sub rfl rfl) (Trc.pure rfl rfl rfl (.inl fun _ => s_fieldAddr Tryd.underlying27 rfl ty25 rfl) (Trc.pure rfl rfl rfl (.inl fun _ => s_fieldAddr Tryd.underlying25 rfl ty3 rfl) (Trc.read rfl rfl rfl (s_load Tryd.underlying3 rfl rfl (ldI_eq hx10)) (Trc.pure rfl rfl rfl (.inl fun _ => s_callO rfl ok18 (sim18 hp11) rfl rfl) (Trc.fl .p rfl rfl rfl (fun _ => trivial) rfl (by rfl) (fun _ => s_alloc (zs := [.int .i64 0, .int .i64 0]) ty25 rfl rfl) (Trc.fl .p rfl rfl rfl (fun _ => trivial) rfl (by rfl) (fun _ => s_alloc (zs := [.int .i64 0, .int .i64 0]) ty25 rfl rfl) (Trc.eff rfl rfl rfl (fun _ => trivial) (s_stores ty25 rfl rfl rfl rfl hH12 (Nat.le_of_eq (sts_mono hH12).symm)) (Trc.eff rfl rfl rfl (fun _ => trivial) (s_stores ty25 rfl rfl rfl rfl hH13 (Nat.le_of_eq (sts_mono hH13).symm)) (Trc.nil (fun _ => trivial)))))))))))))))))))))))))))))))))) rfl rfl (by decide +kernel) mixed ?_
  refine f_seq ?_
  refine f_seq ?_
  refine f_region ?_
  refine f_op rfl rfl (s_fieldAddr Tryd.underlying25 rfl ty3 rfl) ?_
  refine o_bind ?_; intro x14 hx14
  refine f_op rfl rfl (s_load Tryd.underlying3 rfl rfl (ldI_eq hx14)) ?_
  refine f_op rfl rfl (s_lss rfl rfl) ?_
  refine f_op rfl rfl (s_mv (v := .bool (decide (x14 < 0))) rfl) ?_
  refine o_if (fun h15 => ?_) (fun h15 => ?_)
  · skip
    refine o_know 38 rfl (dec_true h15) ?_
    refine f_no rfl rfl ?_
    refine f_no rfl rfl ?_
    refine f_no rfl rfl ?_
    refine f_op rfl rfl (s_pickT (v := .bool true) rfl rfl) ?_
    refine f_nil ?_
    refine f_keep [4, 5, 6, 42] ?_
    exact s20_j0 (((H.push (.cells [.int .i64 a0_0, .int .i64 a0_1, .int .i64 a0_2, .int .i64 a0_3] false)).push (.cells [.int .i64 a1_0, .int .i64 a1_1] false)).n) H1.n ((H1.push (.cells [.int .i64 0, .int .i64 0] false)).n) true H13
  · skip
    refine o_know 38 rfl (dec_false h15) ?_
    refine f_op rfl rfl (s_fieldAddr Tryd.underlying25 rfl ty3 rfl) ?_
    refine o_bind ?_; intro x16 hx16
    refine f_op rfl rfl (s_load Tryd.underlying3 rfl rfl (ldI_eq hx16)) ?_
    refine f_op rfl rfl (s_lss rfl rfl) ?_
    refine f_op rfl rfl (s_pickF (v := .bool (decide (x16 < 0))) rfl rfl) ?_
    refine f_nil ?_
    refine f_keep [4, 5, 6, 42] ?_
    exact s20_j0 (((H.push (.cells [.int .i64 a0_0, .int .i64 a0_1, .int .i64 a0_2, .int .i64 a0_3] false)).push (.cells [.int .i64 a1_0, .int .i64 a1_1] false)).n) H1.n ((H1.push (.cells [.int .i64 0, .int .i64 0] false)).n) (decide (x16 < 0)) H13

end Go.Lt.P5
