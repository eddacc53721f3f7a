/- PRINTED BY A PROGRAM OF OURS: what each function that 'PairsRounds' reaches computes on the abstract heap, and that the translated code does just that. Nothing is asked of the input. -/
import Derived.Test.YthmhdbmpeepmaaaG19P4
set_option linter.unusedVariables false
set_option linter.unusedSimpArgs false
set_option maxRecDepth 100000
set_option maxHeartbeats 4000000
namespace Go.Lt.P8
open Go Go.Lt Go.Proofs
/- 106 congou/pairs.ordered[[2]int] -/
theorem ok106 : FnOk Try.prog 106 := ⟨⟨Try.f106, Try.func106, by kernel_rfl, rfl⟩⟩
theorem sim106 {app : App} (happ : AppSim Try.prog app) {a0 : Sl} {a1 : AV} {H : Hp} {p : Sl × Hp} (h : r106 app a0 a1 H = some p) : CallSim Try.prog 106 [.sl a0, a1] H (.sl p.1) p.2 := by
  refine callSim (fn := Try.f106) (ret := ret106) Try.func106 rfl Try.ntmps106 rfl ?_ h
  unfold r106
  refine f_seq ?_
  refine f_region ?_
  refine f_op rfl rfl (s_as (v := .sl ⟨true, 0, 0, 0, 0, 0⟩) rfl) ?_
  refine f_nil ?_
  refine f_seq ?_
  refine f_region ?_
  refine f_op rfl rfl (s_mv (v := .sl a0) rfl) ?_
  refine f_op rfl rfl (s_mv (v := a1) rfl) ?_
  refine o_bind ?_; intro p1 hp1
  refine f_op rfl rfl (s_callF rfl ok66 (sim66 happ hp1)) ?_
  refine f_nil ?_
  refine f_seq ?_
  refine f_region ?_
  refine f_op rfl rfl (s_mv (v := .sl a0) rfl) ?_
  refine f_op rfl rfl (s_as (v := .sl a0) rfl) ?_
  refine f_nil ?_
  exact f_ret (.tmp rfl (.nil)) rfl

/- 68 congou/pairs.Rounds -/
theorem ok68 : FnOk Try.prog 68 := ⟨⟨Try.f68, Try.func68, by kernel_rfl, rfl⟩⟩
theorem s68_l2 {app : App} (happ : AppSim Try.prog app) (kt1 : Int → Sl → Int → Sl → Int → Int → Int → Int → Hp → Option ((Sl × Int) × Hp)) (hkt1 : ∀ (v1 : Int) (v2 : Sl) (v3 : Int) (v4 : Sl) (v5 : Int) (v6 : Int) (v7 : Int) (v8 : Int) (H : Hp), Fin Try.prog Try.f68 ret68 58 (todoAt (bodyOf Try.f68) [1, 1, 1, 1, 0, 1, 0, 0, 1, 1, 0, 0, 1, 1, 0, 1, 0, 0] []) [(4, .int .i64 v1), (5, .sl v2), (6, .int .i64 v3), (7, .sl v4), (16, .int .i64 v5), (17, .int .i64 v6), (24, .int .i64 v7), (25, .int .i64 v8)] H (kt1 v1 v2 v3 v4 v5 v6 v7 v8 H)) : ∀ (k_ : Nat) (v1 : Int) (v2 : Sl) (v3 : Int) (v4 : Sl) (v5 : Int) (v6 : Int) (v7 : Int) (v8 : Int) (v9 : Int) (v10 : Int) (H : Hp), Fin Try.prog Try.f68 ret68 58 (todoAt (bodyOf Try.f68) [1, 1, 1, 1, 0, 1, 0, 0, 1, 1, 0, 0, 1, 1, 0, 1, 0, 0, 1, 1, 0, 0, 1, 1, 0, 0] []) [(4, .int .i64 v1), (5, .sl v2), (6, .int .i64 v3), (7, .sl v4), (8, .int .i64 v5), (9, .int .i64 v6), (16, .int .i64 v7), (17, .int .i64 v8), (24, .int .i64 v9), (25, .int .i64 v10)] H (r68_l2 app kt1 k_ v1 v2 v3 v4 v5 v6 v7 v8 v9 v10 H) := by
  intro k_
  induction k_ with
  | zero => intro _ _ _ _ _ _ _ _ _ _ _; exact f_none
  | succ k_ ih =>
    intro v1 v2 v3 v4 v5 v6 v7 v8 v9 v10 H
    rw [r68_l2]
    refine f_seq ?_
    refine f_seq ?_
    refine f_region ?_
    refine f_op rfl rfl (s_mv (v := .int .i64 v6) rfl) ?_
    refine f_op rfl rfl (s_mv (v := .int .i64 v1) rfl) ?_
    refine f_op rfl rfl (s_lss rfl rfl) ?_
    refine f_nil ?_
    refine f_if (fun h1 => ?_) (fun h1 => ?_)
    · skip
      refine f_know 32 rfl (dec_true h1) ?_
      refine f_condT rfl ?_
      refine f_skip ?_
      refine f_seq ?_
      refine f_block ?_
      refine f_seq ?_
      refine f_region ?_
      refine f_op rfl rfl (s_mv (v := .int .i64 v5) rfl) ?_
      refine f_op rfl rfl (s_mv (v := .int .i64 v6) rfl) ?_
      refine f_op rfl rfl (s_add rfl rfl) ?_
      refine f_op rfl rfl (s_mv (v := .int .i64 v3) rfl) ?_
      refine f_op rfl rfl (s_mul rfl rfl) ?_
      refine f_op rfl rfl (s_sub rfl rfl) ?_
      refine f_op rfl rfl (s_mv (v := .int .i64 v1) rfl) ?_
      refine o_ck fun g2 => ?_
      refine f_op rfl rfl (s_rem rfl rfl g2) ?_
      refine f_op rfl rfl (s_eql rfl rfl) ?_
      refine f_nil ?_
      refine f_if (fun h3 => ?_) (fun h3 => ?_)
      · skip
        refine f_know 43 rfl (dec_true h3) ?_
        refine f_condT rfl ?_
        refine f_region ?_
        refine f_op rfl rfl (s_mv (v := .sl v4) rfl) ?_
        refine f_op rfl rfl (s_mv (v := .int .i64 v5) rfl) ?_
        refine f_op rfl rfl (s_mv (v := .int .i64 v6) rfl) ?_
        refine f_op rfl rfl (s_buildA (cs := [.int .i64 v5, .int .i64 v6]) Try.underlying43 ty43 ty3 rfl rfl) ?_
        refine f_op rfl rfl (s_buildSlice (cs := [.int .i64 v5, .int .i64 v6]) Try.underlying40 ty43 (by decide) (by decide) rfl (by decide) rfl) ?_
        refine o_bind ?_; intro x4 hx4
        refine f_op rfl rfl (s_ap rfl rfl Try.underlying40 Try.underlying40 ty43 rfl rfl rfl rfl rfl rfl rfl hx4) ?_
        refine f_op rfl rfl (s_as (v := .sl x4.1) rfl) ?_
        refine f_nil ?_
        refine f_inBlock ?_
        refine f_region ?_
        refine f_op rfl rfl (s_mv (v := .int .i64 v6) rfl) ?_
        refine f_op rfl rfl (s_add rfl rfl) ?_
        refine f_op rfl rfl (s_as (v := .int .i64 (w64 (v6 + 1))) rfl) ?_
        refine f_nil ?_
        refine f_inLoop ?_
        refine f_keep [4, 5, 6, 7, 8, 9, 16, 17, 24, 25] ?_
        exact ih v1 v2 v3 x4.1 v5 (w64 (v6 + 1)) v7 v8 v9 v10 x4.2
      · skip
        refine f_know 43 rfl (dec_false h3) ?_
        refine f_condF rfl ?_
        refine f_skip ?_
        refine f_inBlock ?_
        refine f_region ?_
        refine f_op rfl rfl (s_mv (v := .int .i64 v6) rfl) ?_
        refine f_op rfl rfl (s_add rfl rfl) ?_
        refine f_op rfl rfl (s_as (v := .int .i64 (w64 (v6 + 1))) rfl) ?_
        refine f_nil ?_
        refine f_inLoop ?_
        refine f_keep [4, 5, 6, 7, 8, 9, 16, 17, 24, 25] ?_
        exact ih v1 v2 v3 v4 v5 (w64 (v6 + 1)) v7 v8 v9 v10 H
    · skip
      refine f_know 32 rfl (dec_false h1) ?_
      refine f_condF rfl ?_
      refine f_exit rfl ?_
      refine f_inBlock ?_
      refine f_region ?_
      refine f_op rfl rfl (s_add rfl rfl) ?_
      refine f_op rfl rfl (s_mv (v := .int .i64 (w64 (v10 + 1))) rfl) ?_
      refine f_nil ?_
      refine f_inLoop ?_
      refine f_keep [4, 5, 6, 7, 16, 17, 24, 25] ?_
      exact hkt1 v1 v2 v3 v4 v7 v8 v9 (w64 (v10 + 1)) H

theorem s68_l1 {app : App} (happ : AppSim Try.prog app) (kt0 : Int → Sl → Int → Int → Hp → Option ((Sl × Int) × Hp)) (hkt0 : ∀ (v1 : Int) (v2 : Sl) (v3 : Int) (v4 : Int) (H : Hp), Fin Try.prog Try.f68 ret68 58 (todoAt (bodyOf Try.f68) [1, 1, 1, 1, 0, 1, 0, 0] []) [(4, .int .i64 v1), (5, .sl v2), (16, .int .i64 v3), (17, .int .i64 v4)] H (kt0 v1 v2 v3 v4 H)) : ∀ (k_ : Nat) (v1 : Int) (v2 : Sl) (v3 : Int) (v4 : Sl) (v5 : Int) (v6 : Int) (v7 : Int) (v8 : Int) (H : Hp), Fin Try.prog Try.f68 ret68 58 (todoAt (bodyOf Try.f68) [1, 1, 1, 1, 0, 1, 0, 0, 1, 1, 0, 0, 1, 1, 0, 1, 0, 0] []) [(4, .int .i64 v1), (5, .sl v2), (6, .int .i64 v3), (7, .sl v4), (16, .int .i64 v5), (17, .int .i64 v6), (24, .int .i64 v7), (25, .int .i64 v8)] H (r68_l1 app kt0 k_ v1 v2 v3 v4 v5 v6 v7 v8 H) := by
  intro k_
  induction k_ with
  | zero => intro _ _ _ _ _ _ _ _ _; exact f_none
  | succ k_ ih =>
    intro v1 v2 v3 v4 v5 v6 v7 v8 H
    rw [r68_l1]
    refine f_seq ?_
    refine f_region ?_
    refine f_op rfl rfl (s_lss rfl rfl) ?_
    refine f_nil ?_
    refine f_seq ?_
    refine f_if (fun h1 => ?_) (fun h1 => ?_)
    · skip
      refine f_know 26 rfl (dec_true h1) ?_
      refine f_condT rfl ?_
      refine f_skip ?_
      refine f_seq ?_
      refine f_block ?_
      refine f_seq ?_
      refine f_region ?_
      refine f_op rfl rfl (s_mv (v := .int .i64 v8) rfl) ?_
      refine f_op rfl rfl (s_as (v := .int .i64 v8) rfl) ?_
      refine f_nil ?_
      refine f_seq ?_
      refine f_region ?_
      refine f_op rfl rfl (s_mv (v := .int .i64 v8) rfl) ?_
      refine f_op rfl rfl (s_add rfl rfl) ?_
      refine f_op rfl rfl (s_as (v := .int .i64 (w64 (v8 + 1))) rfl) ?_
      refine f_nil ?_
      refine f_block ?_
      refine f_loop ?_
      refine f_keep [4, 5, 6, 7, 8, 9, 16, 17, 24, 25] ?_
      exact s68_l2 happ _ (fun v1_ v2_ v3_ v4_ v5_ v6_ v7_ v8_ H_ => ih v1_ v2_ v3_ v4_ v5_ v6_ v7_ v8_ H_) FUEL v1 v2 v3 v4 v8 (w64 (v8 + 1)) v5 v6 v7 v8 H
    · skip
      refine f_know 26 rfl (dec_false h1) ?_
      refine f_condF rfl ?_
      refine f_exit rfl ?_
      refine f_region ?_
      refine f_op rfl rfl (s_mv (v := .sl v2) rfl) ?_
      refine f_op rfl rfl (s_mv (v := .sl v4) rfl) ?_
      refine o_bind ?_; intro p2 hp2
      refine f_op rfl rfl (s_callF rfl ok106 (sim106 happ hp2)) ?_
      refine f_op rfl rfl (s_buildSlice (cs := [.sl p2.1]) Try.underlying72 ty40 (by decide) (by decide) rfl (by decide) rfl) ?_
      refine o_bind ?_; intro x3 hx3
      refine f_op rfl rfl (s_ap rfl rfl Try.underlying72 Try.underlying72 ty40 rfl rfl rfl rfl rfl rfl rfl hx3) ?_
      refine f_op rfl rfl (s_as (v := .sl x3.1) rfl) ?_
      refine f_nil ?_
      refine f_inBlock ?_
      refine f_region ?_
      refine f_op rfl rfl (s_add rfl rfl) ?_
      refine f_op rfl rfl (s_mv (v := .int .i64 (w64 (v6 + 1))) rfl) ?_
      refine f_nil ?_
      refine f_inLoop ?_
      refine f_keep [4, 5, 16, 17] ?_
      exact hkt0 v1 x3.1 v5 (w64 (v6 + 1)) x3.2

theorem s68_l0 {app : App} (happ : AppSim Try.prog app) : ∀ (k_ : Nat) (v1 : Int) (v2 : Sl) (v3 : Int) (v4 : Int) (H : Hp), Fin Try.prog Try.f68 ret68 58 (todoAt (bodyOf Try.f68) [1, 1, 1, 1, 0, 1, 0, 0] []) [(4, .int .i64 v1), (5, .sl v2), (16, .int .i64 v3), (17, .int .i64 v4)] H (r68_l0 app k_ v1 v2 v3 v4 H) := by
  intro k_
  induction k_ with
  | zero => intro _ _ _ _ _; exact f_none
  | succ k_ ih =>
    intro v1 v2 v3 v4 H
    rw [r68_l0]
    refine f_seq ?_
    refine f_region ?_
    refine f_op rfl rfl (s_lss rfl rfl) ?_
    refine f_nil ?_
    refine f_seq ?_
    refine f_if (fun h1 => ?_) (fun h1 => ?_)
    · skip
      refine f_know 18 rfl (dec_true h1) ?_
      refine f_condT rfl ?_
      refine f_skip ?_
      refine f_seq ?_
      refine f_block ?_
      refine f_seq ?_
      refine f_region ?_
      refine f_op rfl rfl (s_mv (v := .int .i64 v4) rfl) ?_
      refine f_op rfl rfl (s_as (v := .int .i64 v4) rfl) ?_
      refine f_nil ?_
      refine f_seq ?_
      refine f_region ?_
      refine f_op rfl rfl (s_mv (v := .int .i64 v4) rfl) ?_
      refine f_op rfl rfl (s_mv (v := .int .i64 v1) rfl) ?_
      refine f_op rfl rfl (s_buildA (cs := [.int .i64 v4, .int .i64 v1]) Try.underlying43 ty43 ty3 rfl rfl) ?_
      refine f_op rfl rfl (s_buildSlice (cs := [.int .i64 v4, .int .i64 v1]) Try.underlying40 ty43 (by decide) (by decide) rfl (by decide) rfl) ?_
      refine f_op rfl rfl (s_as (v := .sl ⟨false, H.n, 0, 1, 1, 0⟩) rfl) ?_
      refine o_hp ?_; intro H2 hH2
      refine f_nil ?_
      refine f_seq ?_
      refine f_seq ?_
      refine f_region ?_
      refine f_op rfl rfl (s_mv (v := .int .i64 v1) rfl) ?_
      refine f_op rfl rfl (s_mv (v := .int .i64 0) rfl) ?_
      refine f_nil ?_
      refine f_block ?_
      refine f_loop ?_
      refine f_keep [4, 5, 6, 7, 16, 17, 24, 25] ?_
      exact s68_l1 happ _ (fun v1_ v2_ v3_ v4_ H_ => ih v1_ v2_ v3_ v4_ H_) FUEL v1 v2 v4 ⟨false, H.n, 0, 1, 1, 0⟩ v3 v4 v1 0 H2
    · skip
      refine f_know 18 rfl (dec_false h1) ?_
      refine f_condF rfl ?_
      refine f_exit rfl ?_
      refine f_seq ?_
      refine f_region ?_
      refine f_op rfl rfl (s_mv (v := .sl v2) rfl) ?_
      refine f_op rfl rfl (s_as (v := .sl v2) rfl) ?_
      refine f_op rfl rfl (s_as (v := .int .i64 0) rfl) ?_
      refine f_nil ?_
      exact f_ret (.tmp rfl (.tmp rfl (.nil))) rfl

theorem sim68 {app : App} (happ : AppSim Try.prog app) {a0 : Int} {H : Hp} {p : (Sl × Int) × Hp} (h : r68 app a0 H = some p) : CallSim Try.prog 68 [.int .i64 a0] H (.tup [.sl p.1.1, .int .i64 p.1.2]) p.2 := by
  refine callSim (fn := Try.f68) (ret := ret68) Try.func68 rfl Try.ntmps68 rfl ?_ h
  unfold r68
  refine f_seq ?_
  refine f_region ?_
  refine f_op rfl rfl (s_as (v := .sl ⟨true, 0, 0, 0, 0, 0⟩) rfl) ?_
  refine f_op rfl rfl (s_as (v := .int .i64 0) rfl) ?_
  refine f_nil ?_
  refine f_seq ?_
  refine f_seq ?_
  refine f_region ?_
  refine f_op rfl rfl (s_mv (v := .int .i64 a0) rfl) ?_
  refine o_bind ?_; intro p1 hp1
  refine f_op rfl rfl (s_callF rfl ok100 (sim100 hp1)) ?_
  refine f_op rfl rfl (s_not rfl) ?_
  refine f_nil ?_
  refine f_if (fun h2 => ?_) (fun h2 => ?_)
  · skip
    refine f_know 12 rfl (bool_notT h2) ?_
    refine f_condF rfl ?_
    refine f_skip ?_
    refine f_seq ?_
    refine f_region ?_
    refine f_op rfl rfl (s_mv (v := .int .i64 a0) rfl) ?_
    refine f_op rfl rfl (s_mul rfl rfl) ?_
    refine f_op rfl rfl (s_sub rfl rfl) ?_
    refine f_op rfl rfl (s_as (v := .int .i64 (w64 ((w64 (2 * a0)) - 1))) rfl) ?_
    refine f_nil ?_
    refine f_seq ?_
    refine f_region ?_
    refine f_op rfl rfl (s_as (v := .sl ⟨true, 0, 0, 0, 0, 0⟩) rfl) ?_
    refine f_nil ?_
    refine f_seq ?_
    refine f_seq ?_
    refine f_region ?_
    refine f_op rfl rfl (s_mv (v := .int .i64 (w64 ((w64 (2 * a0)) - 1))) rfl) ?_
    refine f_op rfl rfl (s_mv (v := .int .i64 0) rfl) ?_
    refine f_nil ?_
    refine f_block ?_
    refine f_loop ?_
    refine f_keep [4, 5, 16, 17] ?_
    exact s68_l0 happ FUEL (w64 ((w64 (2 * a0)) - 1)) ⟨true, 0, 0, 0, 0, 0⟩ (w64 ((w64 (2 * a0)) - 1)) 0 p1.2
  · skip
    refine f_know 12 rfl (bool_notF h2) ?_
    refine f_condT rfl ?_
    refine f_seq ?_
    refine f_region ?_
    refine f_op rfl rfl (s_as (v := .sl ⟨true, 0, 0, 0, 0, 0⟩) rfl) ?_
    refine f_op rfl rfl (s_as (v := .int .i64 2) rfl) ?_
    refine f_nil ?_
    exact f_ret (.tmp rfl (.tmp rfl (.nil))) rfl

/- 69 slices.EqualFunc[[][][2]int,[][][2]int,[][2]int,[][2]int] -/
theorem ok69 : FnOk Try.prog 69 := ⟨⟨Try.f69, Try.func69, by kernel_rfl, rfl⟩⟩
theorem s69_l0 {app : App} (happ : AppSim Try.prog app) : ∀ (k_ : Nat) (v1 : Sl) (v2 : AV) (v3 : Sl) (v4 : Int) (v5 : Int) (H : Hp), Fin Try.prog Try.f69 ret69 32 (todoAt (bodyOf Try.f69) [1, 1, 0, 1, 0, 0] []) [(1, .sl v1), (2, v2), (15, .sl v3), (16, .int .i64 v4), (17, .int .i64 v5)] H (r69_l0 app k_ v1 v2 v3 v4 v5 H) := by
  intro k_
  induction k_ with
  | zero => intro _ _ _ _ _ _; exact f_none
  | succ k_ ih =>
    intro v1 v2 v3 v4 v5 H
    rw [r69_l0]
    refine f_seq ?_
    refine f_region ?_
    refine f_op rfl rfl (s_lss rfl rfl) ?_
    refine f_nil ?_
    refine f_seq ?_
    refine f_if (fun h1 => ?_) (fun h1 => ?_)
    · skip
      refine f_know 18 rfl (dec_true h1) ?_
      refine f_condT rfl ?_
      refine f_skip ?_
      refine f_seq ?_
      refine f_block ?_
      refine f_seq ?_
      refine f_region ?_
      refine f_op rfl rfl (s_mv (v := .int .i64 v5) rfl) ?_
      refine o_ck fun g2 => ?_
      refine f_op rfl rfl (s_idx Try.underlying72 ty40 rfl rfl g2) ?_
      refine o_bind ?_; intro x3 hx3
      refine f_op rfl rfl (s_load Try.underlying40 rfl rfl (ldSl_eq hx3)) ?_
      refine f_op rfl rfl (s_as (v := .int .i64 v5) rfl) ?_
      refine f_op rfl rfl (s_as (v := .sl x3) rfl) ?_
      refine f_nil ?_
      refine f_seq ?_
      refine f_region ?_
      refine f_op rfl rfl (s_mv (v := .sl v1) rfl) ?_
      refine f_op rfl rfl (s_mv (v := .int .i64 v5) rfl) ?_
      refine o_ck fun g4 => ?_
      refine f_op rfl rfl (s_idx Try.underlying72 ty40 rfl rfl g4) ?_
      refine o_bind ?_; intro x5 hx5
      refine f_op rfl rfl (s_load Try.underlying40 rfl rfl (ldSl_eq hx5)) ?_
      refine f_op rfl rfl (s_as (v := .sl x5) rfl) ?_
      refine f_nil ?_
      refine f_seq ?_
      refine f_region ?_
      refine f_op rfl rfl (s_mv (v := v2) rfl) ?_
      refine f_op rfl rfl (s_mv (v := .sl x3) rfl) ?_
      refine f_op rfl rfl (s_mv (v := .sl x5) rfl) ?_
      refine o_bind ?_; intro p6 hp6
      refine o_bind ?_; intro x7 hx7
      refine f_op rfl rfl (s_callv happ rfl rfl hp6) ?_
      refine o_know 29 rfl (asB_eq hx7) ?_
      refine f_op rfl rfl (s_not rfl) ?_
      refine f_nil ?_
      refine f_if (fun h8 => ?_) (fun h8 => ?_)
      · skip
        refine f_know 30 rfl (bool_notT h8) ?_
        refine f_condF rfl ?_
        refine f_skip ?_
        refine f_inBlock ?_
        refine f_region ?_
        refine f_op rfl rfl (s_add rfl rfl) ?_
        refine f_op rfl rfl (s_mv (v := .int .i64 (w64 (v5 + 1))) rfl) ?_
        refine f_nil ?_
        refine f_inLoop ?_
        refine f_keep [1, 2, 15, 16, 17] ?_
        exact ih v1 v2 v3 v4 (w64 (v5 + 1)) p6.2
      · skip
        refine f_know 30 rfl (bool_notF h8) ?_
        refine f_condT rfl ?_
        refine f_seq ?_
        refine f_region ?_
        refine f_op rfl rfl (s_as (v := .bool false) rfl) ?_
        refine f_nil ?_
        exact f_ret (.tmp rfl (.nil)) rfl
    · skip
      refine f_know 18 rfl (dec_false h1) ?_
      refine f_condF rfl ?_
      refine f_exit rfl ?_
      refine f_seq ?_
      refine f_region ?_
      refine f_op rfl rfl (s_as (v := .bool true) rfl) ?_
      refine f_nil ?_
      exact f_ret (.tmp rfl (.nil)) rfl

theorem sim69 {app : App} (happ : AppSim Try.prog app) {a0 : Sl} {a1 : Sl} {a2 : AV} {H : Hp} {p : Bool × Hp} (h : r69 app a0 a1 a2 H = some p) : CallSim Try.prog 69 [.sl a0, .sl a1, a2] H (.bool p.1) p.2 := by
  refine callSim (fn := Try.f69) (ret := ret69) Try.func69 rfl Try.ntmps69 rfl ?_ h
  unfold r69
  refine f_seq ?_
  refine f_region ?_
  refine f_op rfl rfl (s_as (v := .bool false) rfl) ?_
  refine f_nil ?_
  refine f_seq ?_
  refine f_seq ?_
  refine f_region ?_
  refine f_op rfl rfl (s_mv (v := .sl a0) rfl) ?_
  refine f_op rfl rfl (s_lenS rfl Try.underlying72 rfl) ?_
  refine f_op rfl rfl (s_mv (v := .sl a1) rfl) ?_
  refine f_op rfl rfl (s_lenS rfl Try.underlying72 rfl) ?_
  refine f_op rfl rfl (s_neq rfl rfl) ?_
  refine f_nil ?_
  refine f_if (fun h1 => ?_) (fun h1 => ?_)
  · skip
    refine f_know 14 rfl (dec_true h1) ?_
    refine f_condT rfl ?_
    refine f_seq ?_
    refine f_region ?_
    refine f_op rfl rfl (s_as (v := .bool false) rfl) ?_
    refine f_nil ?_
    exact f_ret (.tmp rfl (.nil)) rfl
  · skip
    refine f_know 14 rfl (dec_false h1) ?_
    refine f_condF rfl ?_
    refine f_skip ?_
    refine f_seq ?_
    refine f_seq ?_
    refine f_region ?_
    refine f_op rfl rfl (s_mv (v := .sl a0) rfl) ?_
    refine f_op rfl rfl (s_lenS rfl Try.underlying72 rfl) ?_
    refine f_op rfl rfl (s_mv (v := .int .i64 0) rfl) ?_
    refine f_nil ?_
    refine f_block ?_
    refine f_loop ?_
    refine f_keep [1, 2, 15, 16, 17] ?_
    exact s69_l0 happ FUEL a1 a2 a0 (a0.len : Int) 0 H

/- 70 congou/congouref08.Rounds -/
theorem ok70 : FnOk Try.prog 70 := ⟨⟨Try.f70, Try.func70, by kernel_rfl, rfl⟩⟩
theorem s70_j3 (kt2 : Int → Sl → Int → Int → Sl → Int → Int → Int → Int → Int → Int → Hp → Option (Sl × Hp)) (hkt2 : ∀ (v1 : Int) (v2 : Sl) (v3 : Int) (v4 : Int) (v5 : Sl) (v6 : Int) (v7 : Int) (v8 : Int) (v9 : Int) (v10 : Int) (v11 : Int) (H : Hp), Fin Try.prog Try.f70 ret70 67 (todoAt (bodyOf Try.f70) [1, 1, 1, 0, 1, 0, 0, 1, 1, 0, 0, 1, 1, 0, 1, 0, 0, 1, 1, 0, 0, 1, 1, 0, 0] []) [(0, .int .i64 v1), (3, .sl v2), (4, .int .i64 v3), (5, .int .i64 v4), (6, .sl v5), (7, .int .i64 v6), (8, .int .i64 v7), (12, .int .i64 v8), (13, .int .i64 v9), (17, .int .i64 v10), (18, .int .i64 v11)] H (kt2 v1 v2 v3 v4 v5 v6 v7 v8 v9 v10 v11 H)) (v1 : Int) (v2 : Sl) (v3 : Int) (v4 : Int) (v5 : Sl) (v6 : Int) (v7 : Int) (v8 : Int) (v9 : Int) (v10 : Int) (v11 : Int) (v12 : Bool) (H : Hp) : Fin Try.prog Try.f70 ret70 67 (todoAt (bodyOf Try.f70) [1, 1, 1, 0, 1, 0, 0, 1, 1, 0, 0, 1, 1, 0, 1, 0, 0, 1, 1, 0, 0, 1, 1, 0, 0, 1, 0, 0, 1] []) [(0, .int .i64 v1), (3, .sl v2), (4, .int .i64 v3), (5, .int .i64 v4), (6, .sl v5), (7, .int .i64 v6), (8, .int .i64 v7), (12, .int .i64 v8), (13, .int .i64 v9), (17, .int .i64 v10), (18, .int .i64 v11), (53, .bool v12)] H (r70_j3 kt2 v1 v2 v3 v4 v5 v6 v7 v8 v9 v10 v11 v12 H) := by
  unfold r70_j3
  refine f_if (fun h1 => ?_) (fun h1 => ?_)
  · skip
    refine f_know 53 rfl (bool_T h1) ?_
    refine f_condT rfl ?_
    refine f_region ?_
    refine f_op rfl rfl (s_mv (v := .sl v5) rfl) ?_
    refine f_op rfl rfl (s_mv (v := .int .i64 v6) rfl) ?_
    refine f_op rfl rfl (s_mv (v := .int .i64 v7) rfl) ?_
    refine f_op rfl rfl (s_buildA (cs := [.int .i64 v6, .int .i64 v7]) Try.underlying43 ty43 ty3 rfl rfl) ?_
    refine f_op rfl rfl (s_buildSlice (cs := [.int .i64 v6, .int .i64 v7]) Try.underlying40 ty43 (by decide) (by decide) rfl (by decide) rfl) ?_
    refine o_bind ?_; intro x2 hx2
    refine f_op rfl rfl (s_ap rfl rfl Try.underlying40 Try.underlying40 ty43 rfl rfl rfl rfl rfl rfl rfl hx2) ?_
    refine f_op rfl rfl (s_as (v := .sl x2.1) rfl) ?_
    refine f_nil ?_
    refine f_inBlock ?_
    refine f_region ?_
    refine f_op rfl rfl (s_mv (v := .int .i64 v7) rfl) ?_
    refine f_op rfl rfl (s_add rfl rfl) ?_
    refine f_op rfl rfl (s_as (v := .int .i64 (w64 (v7 + 1))) rfl) ?_
    refine f_nil ?_
    refine f_inLoop ?_
    refine f_keep [0, 3, 4, 5, 6, 7, 8, 12, 13, 17, 18] ?_
    exact hkt2 v1 v2 v3 v4 x2.1 v6 (w64 (v7 + 1)) v8 v9 v10 v11 x2.2
  · skip
    refine f_know 53 rfl (bool_F h1) ?_
    refine f_condF rfl ?_
    refine f_skip ?_
    refine f_inBlock ?_
    refine f_region ?_
    refine f_op rfl rfl (s_mv (v := .int .i64 v7) rfl) ?_
    refine f_op rfl rfl (s_add rfl rfl) ?_
    refine f_op rfl rfl (s_as (v := .int .i64 (w64 (v7 + 1))) rfl) ?_
    refine f_nil ?_
    refine f_inLoop ?_
    refine f_keep [0, 3, 4, 5, 6, 7, 8, 12, 13, 17, 18] ?_
    exact hkt2 v1 v2 v3 v4 v5 v6 (w64 (v7 + 1)) v8 v9 v10 v11 H

theorem s70_l2 (kt1 : Int → Sl → Int → Int → Sl → Int → Int → Int → Int → Hp → Option (Sl × Hp)) (hkt1 : ∀ (v1 : Int) (v2 : Sl) (v3 : Int) (v4 : Int) (v5 : Sl) (v6 : Int) (v7 : Int) (v8 : Int) (v9 : Int) (H : Hp), Fin Try.prog Try.f70 ret70 67 (todoAt (bodyOf Try.f70) [1, 1, 1, 0, 1, 0, 0, 1, 1, 0, 0, 1, 1, 0, 1, 0, 0] []) [(0, .int .i64 v1), (3, .sl v2), (4, .int .i64 v3), (5, .int .i64 v4), (6, .sl v5), (12, .int .i64 v6), (13, .int .i64 v7), (17, .int .i64 v8), (18, .int .i64 v9)] H (kt1 v1 v2 v3 v4 v5 v6 v7 v8 v9 H)) : ∀ (k_ : Nat) (v1 : Int) (v2 : Sl) (v3 : Int) (v4 : Int) (v5 : Sl) (v6 : Int) (v7 : Int) (v8 : Int) (v9 : Int) (v10 : Int) (v11 : Int) (H : Hp), Fin Try.prog Try.f70 ret70 67 (todoAt (bodyOf Try.f70) [1, 1, 1, 0, 1, 0, 0, 1, 1, 0, 0, 1, 1, 0, 1, 0, 0, 1, 1, 0, 0, 1, 1, 0, 0] []) [(0, .int .i64 v1), (3, .sl v2), (4, .int .i64 v3), (5, .int .i64 v4), (6, .sl v5), (7, .int .i64 v6), (8, .int .i64 v7), (12, .int .i64 v8), (13, .int .i64 v9), (17, .int .i64 v10), (18, .int .i64 v11)] H (r70_l2 kt1 k_ v1 v2 v3 v4 v5 v6 v7 v8 v9 v10 v11 H) := by
  intro k_
  induction k_ with
  | zero => intro _ _ _ _ _ _ _ _ _ _ _ _; exact f_none
  | succ k_ ih =>
    intro v1 v2 v3 v4 v5 v6 v7 v8 v9 v10 v11 H
    rw [r70_l2]
    refine f_seq ?_
    refine f_seq ?_
    refine f_region ?_
    refine f_op rfl rfl (s_mv (v := .int .i64 v7) rfl) ?_
    refine f_op rfl rfl (s_mv (v := .int .i64 v1) rfl) ?_
    refine f_op rfl rfl (s_mul rfl rfl) ?_
    refine f_op rfl rfl (s_lss rfl rfl) ?_
    refine f_nil ?_
    refine f_if (fun h1 => ?_) (fun h1 => ?_)
    · skip
      refine f_know 26 rfl (dec_true h1) ?_
      refine f_condT rfl ?_
      refine f_skip ?_
      refine f_seq ?_
      refine f_block ?_
      refine f_seq ?_
      refine f_if (fun h2 => ?_) (fun h2 => ?_)
      · skip
        refine f_if (fun h3 => ?_) (fun h3 => ?_)
        · skip
          refine f_draw (Φ := fun _ => True) [0, 0, 0, 0, 0, 0, 0, 0, 0, 0, 0, 0, 0, 0, 0, 0, 0, 0, 0, 0, 0, 0, 0, 0, 0] (Trc.pure rfl rfl rfl (fun _ _ => s_mv (v := .int .i64 v7) rfl) (Trc.pure rfl rfl rfl (fun _ _ => s_mv (v := .int .i64 v3) rfl) (Trc.pure rfl rfl rfl (fun _ _ => s_eql rfl rfl) (Trc.pure rfl rfl rfl (fun _ _ => s_mv (v := .bool (decide (v7 = v3))) rfl) (Trc.know 32 rfl (dec_true h2) (Trc.pure rfl rfl rfl (fun _ _ => s_mv (v := .int .i64 v6) rfl) (Trc.pure rfl rfl rfl (fun _ _ => s_mv (v := .int .i64 v4) rfl) (Trc.pure rfl rfl rfl (fun _ _ => s_eql rfl rfl) (Trc.pure rfl rfl rfl (fun _ _ => s_pickT (v := .bool (decide (v6 = v4))) rfl rfl) (Trc.pure rfl rfl rfl (fun _ _ => s_mv (v := .bool (decide (v6 = v4))) rfl) (Trc.know 37 rfl (dec_true h3) (Trc.no rfl rfl rfl (Trc.no rfl rfl rfl (Trc.no rfl rfl rfl (Trc.no rfl rfl rfl (Trc.no rfl rfl rfl (Trc.no rfl rfl rfl (Trc.no rfl rfl rfl (Trc.no rfl rfl rfl (Trc.no rfl rfl rfl (Trc.no rfl rfl rfl (Trc.no rfl rfl rfl (Trc.no rfl rfl rfl (Trc.no rfl rfl rfl (Trc.no rfl rfl rfl (Trc.no rfl rfl rfl (Trc.pure rfl rfl rfl (fun _ _ => s_pickT (v := .bool true) rfl rfl) (Trc.nil (trivial))))))))))))))))))))))))))))) rfl (by decide +kernel) mixed ?_
          refine f_keep [0, 3, 4, 5, 6, 7, 8, 12, 13, 17, 18, 53] ?_
          exact s70_j3 _ (fun v1_ v2_ v3_ v4_ v5_ v6_ v7_ v8_ v9_ v10_ v11_ H_ => ih v1_ v2_ v3_ v4_ v5_ v6_ v7_ v8_ v9_ v10_ v11_ H_) v1 v2 v3 v4 v5 v6 v7 v8 v9 v10 v11 true H
        · skip
          refine f_if (fun h4 => ?_) (fun h4 => ?_)
          · skip
            refine f_ck fun g5 => ?_
            refine f_ck fun g6 => ?_
            refine f_draw (Φ := fun _ => True) [0, 0, 0, 0, 0, 0, 0, 0, 0, 0, 0, 0, 0, 0, 0, 0, 0, 0, 0, 0, 0, 0, 0, 0, 0] (Trc.pure rfl rfl rfl (fun _ _ => s_mv (v := .int .i64 v7) rfl) (Trc.pure rfl rfl rfl (fun _ _ => s_mv (v := .int .i64 v3) rfl) (Trc.pure rfl rfl rfl (fun _ _ => s_eql rfl rfl) (Trc.pure rfl rfl rfl (fun _ _ => s_mv (v := .bool (decide (v7 = v3))) rfl) (Trc.know 32 rfl (dec_true h2) (Trc.pure rfl rfl rfl (fun _ _ => s_mv (v := .int .i64 v6) rfl) (Trc.pure rfl rfl rfl (fun _ _ => s_mv (v := .int .i64 v4) rfl) (Trc.pure rfl rfl rfl (fun _ _ => s_eql rfl rfl) (Trc.pure rfl rfl rfl (fun _ _ => s_pickT (v := .bool (decide (v6 = v4))) rfl rfl) (Trc.pure rfl rfl rfl (fun _ _ => s_mv (v := .bool (decide (v6 = v4))) rfl) (Trc.know 37 rfl (dec_false h3) (Trc.pure rfl rfl rfl (fun _ _ => s_mv (v := .int .i64 v7) rfl) (Trc.pure rfl rfl rfl (fun _ _ => s_mv (v := .int .i64 v3) rfl) (Trc.pure rfl rfl rfl (fun _ _ => s_lss rfl rfl) (Trc.pure rfl rfl rfl (fun _ _ => s_mv (v := .bool (decide (v7 < v3))) rfl) (Trc.know 41 rfl (dec_true h4) (Trc.pure rfl rfl rfl (fun _ _ => s_mv (v := .int .i64 v6) rfl) (Trc.pure rfl rfl rfl (fun _ _ => s_mv (v := .int .i64 v7) rfl) (Trc.pure rfl rfl rfl (fun _ _ => s_add rfl rfl) (Trc.pure rfl rfl rfl (fun _ _ => s_mv (v := .int .i64 v3) rfl) (Trc.pure rfl rfl rfl (fun _ _ => s_rem rfl rfl g5) (Trc.pure rfl rfl rfl (fun _ _ => s_mv (v := .int .i64 v4) rfl) (Trc.pure rfl rfl rfl (fun _ _ => s_mul rfl rfl) (Trc.pure rfl rfl rfl (fun _ _ => s_mv (v := .int .i64 v3) rfl) (Trc.pure rfl rfl rfl (fun _ _ => s_rem rfl rfl g6) (Trc.pure rfl rfl rfl (fun _ _ => s_eql rfl rfl) (Trc.pure rfl rfl rfl (fun _ _ => s_pickT (v := .bool (decide ((Int.tmod (w64 (v6 + v7)) v3) = (Int.tmod (w64 (2 * v4)) v3)))) rfl rfl) (Trc.pure rfl rfl rfl (fun _ _ => s_pickF (v := .bool (decide ((Int.tmod (w64 (v6 + v7)) v3) = (Int.tmod (w64 (2 * v4)) v3)))) rfl rfl) (Trc.nil (trivial)))))))))))))))))))))))))))))) rfl (by decide +kernel) mixed ?_
            refine f_keep [0, 3, 4, 5, 6, 7, 8, 12, 13, 17, 18, 53] ?_
            exact s70_j3 _ (fun v1_ v2_ v3_ v4_ v5_ v6_ v7_ v8_ v9_ v10_ v11_ H_ => ih v1_ v2_ v3_ v4_ v5_ v6_ v7_ v8_ v9_ v10_ v11_ H_) v1 v2 v3 v4 v5 v6 v7 v8 v9 v10 v11 (decide ((Int.tmod (w64 (v6 + v7)) v3) = (Int.tmod (w64 (2 * v4)) v3))) H
          · skip
            refine f_draw (Φ := fun _ => True) [0, 0, 0, 0, 0, 0, 0, 0, 0, 0, 0, 0, 0, 0, 0, 0, 0, 0, 0, 0, 0, 0, 0, 0, 0] (Trc.pure rfl rfl rfl (fun _ _ => s_mv (v := .int .i64 v7) rfl) (Trc.pure rfl rfl rfl (fun _ _ => s_mv (v := .int .i64 v3) rfl) (Trc.pure rfl rfl rfl (fun _ _ => s_eql rfl rfl) (Trc.pure rfl rfl rfl (fun _ _ => s_mv (v := .bool (decide (v7 = v3))) rfl) (Trc.know 32 rfl (dec_true h2) (Trc.pure rfl rfl rfl (fun _ _ => s_mv (v := .int .i64 v6) rfl) (Trc.pure rfl rfl rfl (fun _ _ => s_mv (v := .int .i64 v4) rfl) (Trc.pure rfl rfl rfl (fun _ _ => s_eql rfl rfl) (Trc.pure rfl rfl rfl (fun _ _ => s_pickT (v := .bool (decide (v6 = v4))) rfl rfl) (Trc.pure rfl rfl rfl (fun _ _ => s_mv (v := .bool (decide (v6 = v4))) rfl) (Trc.know 37 rfl (dec_false h3) (Trc.pure rfl rfl rfl (fun _ _ => s_mv (v := .int .i64 v7) rfl) (Trc.pure rfl rfl rfl (fun _ _ => s_mv (v := .int .i64 v3) rfl) (Trc.pure rfl rfl rfl (fun _ _ => s_lss rfl rfl) (Trc.pure rfl rfl rfl (fun _ _ => s_mv (v := .bool (decide (v7 < v3))) rfl) (Trc.know 41 rfl (dec_false h4) (Trc.no rfl rfl rfl (Trc.no rfl rfl rfl (Trc.no rfl rfl rfl (Trc.no rfl rfl rfl (Trc.no rfl rfl rfl (Trc.no rfl rfl rfl (Trc.no rfl rfl rfl (Trc.no rfl rfl rfl (Trc.no rfl rfl rfl (Trc.no rfl rfl rfl (Trc.pure rfl rfl rfl (fun _ _ => s_pickF (v := .bool false) rfl rfl) (Trc.pure rfl rfl rfl (fun _ _ => s_pickF (v := .bool false) rfl rfl) (Trc.nil (trivial)))))))))))))))))))))))))))))) rfl (by decide +kernel) mixed ?_
            refine f_keep [0, 3, 4, 5, 6, 7, 8, 12, 13, 17, 18, 53] ?_
            exact s70_j3 _ (fun v1_ v2_ v3_ v4_ v5_ v6_ v7_ v8_ v9_ v10_ v11_ H_ => ih v1_ v2_ v3_ v4_ v5_ v6_ v7_ v8_ v9_ v10_ v11_ H_) v1 v2 v3 v4 v5 v6 v7 v8 v9 v10 v11 false H
      · skip
        refine f_if (fun h7 => ?_) (fun h7 => ?_)
        · skip
          refine f_ck fun g8 => ?_
          refine f_ck fun g9 => ?_
          refine f_draw (Φ := fun _ => True) [0, 0, 0, 0, 0, 0, 0, 0, 0, 0, 0, 0, 0, 0, 0, 0, 0, 0, 0, 0, 0, 0, 0, 0, 0] (Trc.pure rfl rfl rfl (fun _ _ => s_mv (v := .int .i64 v7) rfl) (Trc.pure rfl rfl rfl (fun _ _ => s_mv (v := .int .i64 v3) rfl) (Trc.pure rfl rfl rfl (fun _ _ => s_eql rfl rfl) (Trc.pure rfl rfl rfl (fun _ _ => s_mv (v := .bool (decide (v7 = v3))) rfl) (Trc.know 32 rfl (dec_false h2) (Trc.no rfl rfl rfl (Trc.no rfl rfl rfl (Trc.no rfl rfl rfl (Trc.pure rfl rfl rfl (fun _ _ => s_pickF (v := .bool false) rfl rfl) (Trc.pure rfl rfl rfl (fun _ _ => s_mv (v := .bool false) rfl) (Trc.pure rfl rfl rfl (fun _ _ => s_mv (v := .int .i64 v7) rfl) (Trc.pure rfl rfl rfl (fun _ _ => s_mv (v := .int .i64 v3) rfl) (Trc.pure rfl rfl rfl (fun _ _ => s_lss rfl rfl) (Trc.pure rfl rfl rfl (fun _ _ => s_mv (v := .bool (decide (v7 < v3))) rfl) (Trc.know 41 rfl (dec_true h7) (Trc.pure rfl rfl rfl (fun _ _ => s_mv (v := .int .i64 v6) rfl) (Trc.pure rfl rfl rfl (fun _ _ => s_mv (v := .int .i64 v7) rfl) (Trc.pure rfl rfl rfl (fun _ _ => s_add rfl rfl) (Trc.pure rfl rfl rfl (fun _ _ => s_mv (v := .int .i64 v3) rfl) (Trc.pure rfl rfl rfl (fun _ _ => s_rem rfl rfl g8) (Trc.pure rfl rfl rfl (fun _ _ => s_mv (v := .int .i64 v4) rfl) (Trc.pure rfl rfl rfl (fun _ _ => s_mul rfl rfl) (Trc.pure rfl rfl rfl (fun _ _ => s_mv (v := .int .i64 v3) rfl) (Trc.pure rfl rfl rfl (fun _ _ => s_rem rfl rfl g9) (Trc.pure rfl rfl rfl (fun _ _ => s_eql rfl rfl) (Trc.pure rfl rfl rfl (fun _ _ => s_pickT (v := .bool (decide ((Int.tmod (w64 (v6 + v7)) v3) = (Int.tmod (w64 (2 * v4)) v3)))) rfl rfl) (Trc.pure rfl rfl rfl (fun _ _ => s_pickF (v := .bool (decide ((Int.tmod (w64 (v6 + v7)) v3) = (Int.tmod (w64 (2 * v4)) v3)))) rfl rfl) (Trc.nil (trivial))))))))))))))))))))))))))))) rfl (by decide +kernel) mixed ?_
          refine f_keep [0, 3, 4, 5, 6, 7, 8, 12, 13, 17, 18, 53] ?_
          exact s70_j3 _ (fun v1_ v2_ v3_ v4_ v5_ v6_ v7_ v8_ v9_ v10_ v11_ H_ => ih v1_ v2_ v3_ v4_ v5_ v6_ v7_ v8_ v9_ v10_ v11_ H_) v1 v2 v3 v4 v5 v6 v7 v8 v9 v10 v11 (decide ((Int.tmod (w64 (v6 + v7)) v3) = (Int.tmod (w64 (2 * v4)) v3))) H
        · skip
          refine f_draw (Φ := fun _ => True) [0, 0, 0, 0, 0, 0, 0, 0, 0, 0, 0, 0, 0, 0, 0, 0, 0, 0, 0, 0, 0, 0, 0, 0, 0] (Trc.pure rfl rfl rfl (fun _ _ => s_mv (v := .int .i64 v7) rfl) (Trc.pure rfl rfl rfl (fun _ _ => s_mv (v := .int .i64 v3) rfl) (Trc.pure rfl rfl rfl (fun _ _ => s_eql rfl rfl) (Trc.pure rfl rfl rfl (fun _ _ => s_mv (v := .bool (decide (v7 = v3))) rfl) (Trc.know 32 rfl (dec_false h2) (Trc.no rfl rfl rfl (Trc.no rfl rfl rfl (Trc.no rfl rfl rfl (Trc.pure rfl rfl rfl (fun _ _ => s_pickF (v := .bool false) rfl rfl) (Trc.pure rfl rfl rfl (fun _ _ => s_mv (v := .bool false) rfl) (Trc.pure rfl rfl rfl (fun _ _ => s_mv (v := .int .i64 v7) rfl) (Trc.pure rfl rfl rfl (fun _ _ => s_mv (v := .int .i64 v3) rfl) (Trc.pure rfl rfl rfl (fun _ _ => s_lss rfl rfl) (Trc.pure rfl rfl rfl (fun _ _ => s_mv (v := .bool (decide (v7 < v3))) rfl) (Trc.know 41 rfl (dec_false h7) (Trc.no rfl rfl rfl (Trc.no rfl rfl rfl (Trc.no rfl rfl rfl (Trc.no rfl rfl rfl (Trc.no rfl rfl rfl (Trc.no rfl rfl rfl (Trc.no rfl rfl rfl (Trc.no rfl rfl rfl (Trc.no rfl rfl rfl (Trc.no rfl rfl rfl (Trc.pure rfl rfl rfl (fun _ _ => s_pickF (v := .bool false) rfl rfl) (Trc.pure rfl rfl rfl (fun _ _ => s_pickF (v := .bool false) rfl rfl) (Trc.nil (trivial))))))))))))))))))))))))))))) rfl (by decide +kernel) mixed ?_
          refine f_keep [0, 3, 4, 5, 6, 7, 8, 12, 13, 17, 18, 53] ?_
          exact s70_j3 _ (fun v1_ v2_ v3_ v4_ v5_ v6_ v7_ v8_ v9_ v10_ v11_ H_ => ih v1_ v2_ v3_ v4_ v5_ v6_ v7_ v8_ v9_ v10_ v11_ H_) v1 v2 v3 v4 v5 v6 v7 v8 v9 v10 v11 false H
    · skip
      refine f_know 26 rfl (dec_false h1) ?_
      refine f_condF rfl ?_
      refine f_exit rfl ?_
      refine f_inBlock ?_
      refine f_region ?_
      refine f_op rfl rfl (s_add rfl rfl) ?_
      refine f_op rfl rfl (s_mv (v := .int .i64 (w64 (v11 + 1))) rfl) ?_
      refine f_nil ?_
      refine f_inLoop ?_
      refine f_keep [0, 3, 4, 5, 6, 12, 13, 17, 18] ?_
      exact hkt1 v1 v2 v3 v4 v5 v8 v9 v10 (w64 (v11 + 1)) H

theorem s70_l1 (kt0 : Int → Sl → Int → Int → Int → Hp → Option (Sl × Hp)) (hkt0 : ∀ (v1 : Int) (v2 : Sl) (v3 : Int) (v4 : Int) (v5 : Int) (H : Hp), Fin Try.prog Try.f70 ret70 67 (todoAt (bodyOf Try.f70) [1, 1, 1, 0, 1, 0, 0] []) [(0, .int .i64 v1), (3, .sl v2), (4, .int .i64 v3), (12, .int .i64 v4), (13, .int .i64 v5)] H (kt0 v1 v2 v3 v4 v5 H)) : ∀ (k_ : Nat) (v1 : Int) (v2 : Sl) (v3 : Int) (v4 : Int) (v5 : Sl) (v6 : Int) (v7 : Int) (v8 : Int) (v9 : Int) (H : Hp), Fin Try.prog Try.f70 ret70 67 (todoAt (bodyOf Try.f70) [1, 1, 1, 0, 1, 0, 0, 1, 1, 0, 0, 1, 1, 0, 1, 0, 0] []) [(0, .int .i64 v1), (3, .sl v2), (4, .int .i64 v3), (5, .int .i64 v4), (6, .sl v5), (12, .int .i64 v6), (13, .int .i64 v7), (17, .int .i64 v8), (18, .int .i64 v9)] H (r70_l1 kt0 k_ v1 v2 v3 v4 v5 v6 v7 v8 v9 H) := by
  intro k_
  induction k_ with
  | zero => intro _ _ _ _ _ _ _ _ _ _; exact f_none
  | succ k_ ih =>
    intro v1 v2 v3 v4 v5 v6 v7 v8 v9 H
    rw [r70_l1]
    refine f_seq ?_
    refine f_region ?_
    refine f_op rfl rfl (s_lss rfl rfl) ?_
    refine f_nil ?_
    refine f_seq ?_
    refine f_if (fun h1 => ?_) (fun h1 => ?_)
    · skip
      refine f_know 19 rfl (dec_true h1) ?_
      refine f_condT rfl ?_
      refine f_skip ?_
      refine f_seq ?_
      refine f_block ?_
      refine f_seq ?_
      refine f_region ?_
      refine f_op rfl rfl (s_mv (v := .int .i64 v9) rfl) ?_
      refine f_op rfl rfl (s_as (v := .int .i64 v9) rfl) ?_
      refine f_nil ?_
      refine f_seq ?_
      refine f_region ?_
      refine f_op rfl rfl (s_mv (v := .int .i64 v9) rfl) ?_
      refine f_op rfl rfl (s_add rfl rfl) ?_
      refine f_op rfl rfl (s_as (v := .int .i64 (w64 (v9 + 1))) rfl) ?_
      refine f_nil ?_
      refine f_block ?_
      refine f_loop ?_
      refine f_keep [0, 3, 4, 5, 6, 7, 8, 12, 13, 17, 18] ?_
      exact s70_l2 _ (fun v1_ v2_ v3_ v4_ v5_ v6_ v7_ v8_ v9_ H_ => ih v1_ v2_ v3_ v4_ v5_ v6_ v7_ v8_ v9_ H_) FUEL v1 v2 v3 v4 v5 v9 (w64 (v9 + 1)) v6 v7 v8 v9 H
    · skip
      refine f_know 19 rfl (dec_false h1) ?_
      refine f_condF rfl ?_
      refine f_exit rfl ?_
      refine f_region ?_
      refine f_op rfl rfl (s_mv (v := .sl v2) rfl) ?_
      refine f_op rfl rfl (s_mv (v := .sl v5) rfl) ?_
      refine f_op rfl rfl (s_buildSlice (cs := [.sl v5]) Try.underlying72 ty40 (by decide) (by decide) rfl (by decide) rfl) ?_
      refine o_bind ?_; intro x2 hx2
      refine f_op rfl rfl (s_ap rfl rfl Try.underlying72 Try.underlying72 ty40 rfl rfl rfl rfl rfl rfl rfl hx2) ?_
      refine f_op rfl rfl (s_as (v := .sl x2.1) rfl) ?_
      refine f_nil ?_
      refine f_inBlock ?_
      refine f_region ?_
      refine f_op rfl rfl (s_add rfl rfl) ?_
      refine f_op rfl rfl (s_mv (v := .int .i64 (w64 (v7 + 1))) rfl) ?_
      refine f_nil ?_
      refine f_inLoop ?_
      refine f_keep [0, 3, 4, 12, 13] ?_
      exact hkt0 v1 x2.1 v3 v6 (w64 (v7 + 1)) x2.2

theorem s70_l0 : ∀ (k_ : Nat) (v1 : Int) (v2 : Sl) (v3 : Int) (v4 : Int) (v5 : Int) (H : Hp), Fin Try.prog Try.f70 ret70 67 (todoAt (bodyOf Try.f70) [1, 1, 1, 0, 1, 0, 0] []) [(0, .int .i64 v1), (3, .sl v2), (4, .int .i64 v3), (12, .int .i64 v4), (13, .int .i64 v5)] H (r70_l0 k_ v1 v2 v3 v4 v5 H) := by
  intro k_
  induction k_ with
  | zero => intro _ _ _ _ _ _; exact f_none
  | succ k_ ih =>
    intro v1 v2 v3 v4 v5 H
    rw [r70_l0]
    refine f_seq ?_
    refine f_region ?_
    refine f_op rfl rfl (s_lss rfl rfl) ?_
    refine f_nil ?_
    refine f_seq ?_
    refine f_if (fun h1 => ?_) (fun h1 => ?_)
    · skip
      refine f_know 14 rfl (dec_true h1) ?_
      refine f_condT rfl ?_
      refine f_skip ?_
      refine f_seq ?_
      refine f_block ?_
      refine f_seq ?_
      refine f_region ?_
      refine f_op rfl rfl (s_mv (v := .int .i64 v5) rfl) ?_
      refine f_op rfl rfl (s_as (v := .int .i64 v5) rfl) ?_
      refine f_nil ?_
      refine f_seq ?_
      refine f_region ?_
      refine f_op rfl rfl (s_as (v := .sl ⟨true, 0, 0, 0, 0, 0⟩) rfl) ?_
      refine f_nil ?_
      refine f_seq ?_
      refine f_seq ?_
      refine f_region ?_
      refine f_op rfl rfl (s_mv (v := .int .i64 v1) rfl) ?_
      refine f_op rfl rfl (s_mul rfl rfl) ?_
      refine f_op rfl rfl (s_mv (v := .int .i64 0) rfl) ?_
      refine f_nil ?_
      refine f_block ?_
      refine f_loop ?_
      refine f_keep [0, 3, 4, 5, 6, 12, 13, 17, 18] ?_
      exact s70_l1 _ (fun v1_ v2_ v3_ v4_ v5_ H_ => ih v1_ v2_ v3_ v4_ v5_ H_) FUEL v1 v2 v3 v5 ⟨true, 0, 0, 0, 0, 0⟩ v4 v5 (w64 (2 * v1)) 0 H
    · skip
      refine f_know 14 rfl (dec_false h1) ?_
      refine f_condF rfl ?_
      refine f_exit rfl ?_
      refine f_seq ?_
      refine f_region ?_
      refine f_op rfl rfl (s_mv (v := .sl v2) rfl) ?_
      refine f_op rfl rfl (s_as (v := .sl v2) rfl) ?_
      refine f_nil ?_
      exact f_ret (.tmp rfl (.nil)) rfl

theorem sim70 {a0 : Int} {H : Hp} {p : Sl × Hp} (h : r70 a0 H = some p) : CallSim Try.prog 70 [.int .i64 a0] H (.sl p.1) p.2 := by
  refine callSim (fn := Try.f70) (ret := ret70) Try.func70 rfl Try.ntmps70 rfl ?_ h
  unfold r70
  refine f_seq ?_
  refine f_region ?_
  refine f_op rfl rfl (s_as (v := .sl ⟨true, 0, 0, 0, 0, 0⟩) rfl) ?_
  refine f_nil ?_
  refine f_seq ?_
  refine f_region ?_
  refine f_op rfl rfl (s_as (v := .sl ⟨true, 0, 0, 0, 0, 0⟩) rfl) ?_
  refine f_nil ?_
  refine f_seq ?_
  refine f_region ?_
  refine f_op rfl rfl (s_mv (v := .int .i64 a0) rfl) ?_
  refine f_op rfl rfl (s_mul rfl rfl) ?_
  refine f_op rfl rfl (s_sub rfl rfl) ?_
  refine f_op rfl rfl (s_as (v := .int .i64 (w64 ((w64 (2 * a0)) - 1))) rfl) ?_
  refine f_nil ?_
  refine f_seq ?_
  refine f_seq ?_
  refine f_region ?_
  refine f_op rfl rfl (s_mv (v := .int .i64 (w64 ((w64 (2 * a0)) - 1))) rfl) ?_
  refine f_op rfl rfl (s_mv (v := .int .i64 0) rfl) ?_
  refine f_nil ?_
  refine f_block ?_
  refine f_loop ?_
  refine f_keep [0, 3, 4, 12, 13] ?_
  exact s70_l0 FUEL a0 ⟨true, 0, 0, 0, 0, 0⟩ (w64 ((w64 (2 * a0)) - 1)) (w64 ((w64 (2 * a0)) - 1)) 0 H

/- 42 slices.Equal[[][2]int,[2]int] -/
theorem ok42 : FnOk Try.prog 42 := ⟨⟨Try.f42, Try.func42, by kernel_rfl, rfl⟩⟩
theorem s42_l0 : ∀ (k_ : Nat) (v1 : Sl) (v2 : Sl) (v3 : Int) (v4 : Int) (H : Hp), Fin Try.prog Try.f42 ret42 26 (todoAt (bodyOf Try.f42) [1, 1, 0, 1, 0, 0] []) [(0, .sl v1), (1, .sl v2), (12, .int .i64 v3), (13, .int .i64 v4)] H (r42_l0 k_ v1 v2 v3 v4 H) := by
  intro k_
  induction k_ with
  | zero => intro _ _ _ _ _; exact f_none
  | succ k_ ih =>
    intro v1 v2 v3 v4 H
    rw [r42_l0]
    refine f_seq ?_
    refine f_region ?_
    refine f_op rfl rfl (s_lss rfl rfl) ?_
    refine f_nil ?_
    refine f_seq ?_
    refine f_if (fun h1 => ?_) (fun h1 => ?_)
    · skip
      refine f_know 14 rfl (dec_true h1) ?_
      refine f_condT rfl ?_
      refine f_skip ?_
      refine f_seq ?_
      refine f_block ?_
      refine f_seq ?_
      refine f_region ?_
      refine f_op rfl rfl (s_mv (v := .int .i64 v4) rfl) ?_
      refine f_op rfl rfl (s_as (v := .int .i64 v4) rfl) ?_
      refine f_nil ?_
      refine f_seq ?_
      refine f_ck fun g2 => ?_
      refine f_bind ?_; intro x3 hx3
      refine f_bind ?_; intro x4 hx4
      refine f_ck fun g5 => ?_
      refine f_bind ?_; intro x6 hx6
      refine f_bind ?_; intro x7 hx7
      refine f_draw (Φ := fun _ => True) [0, 0, 0, 1, 0, 0, 0, 1, 0] (Trc.pure rfl rfl rfl (fun _ _ => s_mv (v := .sl v1) rfl) (Trc.pure rfl rfl rfl (fun _ _ => s_mv (v := .int .i64 v4) rfl) (Trc.pure rfl rfl rfl (fun _ _ => s_idx Try.underlying40 ty43 rfl rfl g2) (Trc.read rfl rfl rfl (s_loads Try.underlying43 rfl ty43 rfl (lds_cons (ldI_eq hx3) (lds_cons (ldI_eq hx4) (lds_nil)))) (Trc.pure rfl rfl rfl (fun _ _ => s_mv (v := .sl v2) rfl) (Trc.pure rfl rfl rfl (fun _ _ => s_mv (v := .int .i64 v4) rfl) (Trc.pure rfl rfl rfl (fun _ _ => s_idx Try.underlying40 ty43 rfl rfl g5) (Trc.read rfl rfl rfl (s_loads Try.underlying43 rfl ty43 rfl (lds_cons (ldI_eq hx6) (lds_cons (ldI_eq hx7) (lds_nil)))) (Trc.pure rfl rfl rfl (fun _ _ => s_neArr eg43 Try.underlying43 Try.underlying3 ty3 rfl rfl rfl rfl rfl rfl) (Trc.nil (trivial))))))))))) rfl (by decide +kernel) mixed ?_
      refine f_if (fun h8 => ?_) (fun h8 => ?_)
      · skip
        refine f_know 24 rfl (bool_notT h8) ?_
        refine f_condF rfl ?_
        refine f_skip ?_
        refine f_inBlock ?_
        refine f_region ?_
        refine f_op rfl rfl (s_add rfl rfl) ?_
        refine f_op rfl rfl (s_mv (v := .int .i64 (w64 (v4 + 1))) rfl) ?_
        refine f_nil ?_
        refine f_inLoop ?_
        refine f_keep [0, 1, 12, 13] ?_
        exact ih v1 v2 v3 (w64 (v4 + 1)) H
      · skip
        refine f_know 24 rfl (bool_notF h8) ?_
        refine f_condT rfl ?_
        refine f_seq ?_
        refine f_region ?_
        refine f_op rfl rfl (s_as (v := .bool false) rfl) ?_
        refine f_nil ?_
        exact f_ret (.tmp rfl (.nil)) rfl
    · skip
      refine f_know 14 rfl (dec_false h1) ?_
      refine f_condF rfl ?_
      refine f_exit rfl ?_
      refine f_seq ?_
      refine f_region ?_
      refine f_op rfl rfl (s_as (v := .bool true) rfl) ?_
      refine f_nil ?_
      exact f_ret (.tmp rfl (.nil)) rfl

theorem sim42 {a0 : Sl} {a1 : Sl} {H : Hp} {p : Bool × Hp} (h : r42 a0 a1 H = some p) : CallSim Try.prog 42 [.sl a0, .sl a1] H (.bool p.1) p.2 := by
  refine callSim (fn := Try.f42) (ret := ret42) Try.func42 rfl Try.ntmps42 rfl ?_ h
  unfold r42
  refine f_seq ?_
  refine f_region ?_
  refine f_op rfl rfl (s_as (v := .bool false) rfl) ?_
  refine f_nil ?_
  refine f_seq ?_
  refine f_seq ?_
  refine f_region ?_
  refine f_op rfl rfl (s_mv (v := .sl a0) rfl) ?_
  refine f_op rfl rfl (s_lenS rfl Try.underlying40 rfl) ?_
  refine f_op rfl rfl (s_mv (v := .sl a1) rfl) ?_
  refine f_op rfl rfl (s_lenS rfl Try.underlying40 rfl) ?_
  refine f_op rfl rfl (s_neq rfl rfl) ?_
  refine f_nil ?_
  refine f_if (fun h1 => ?_) (fun h1 => ?_)
  · skip
    refine f_know 10 rfl (dec_true h1) ?_
    refine f_condT rfl ?_
    refine f_seq ?_
    refine f_region ?_
    refine f_op rfl rfl (s_as (v := .bool false) rfl) ?_
    refine f_nil ?_
    exact f_ret (.tmp rfl (.nil)) rfl
  · skip
    refine f_know 10 rfl (dec_false h1) ?_
    refine f_condF rfl ?_
    refine f_skip ?_
    refine f_seq ?_
    refine f_seq ?_
    refine f_region ?_
    refine f_op rfl rfl (s_mv (v := .sl a0) rfl) ?_
    refine f_op rfl rfl (s_lenS rfl Try.underlying40 rfl) ?_
    refine f_op rfl rfl (s_mv (v := .int .i64 0) rfl) ?_
    refine f_nil ?_
    refine f_block ?_
    refine f_loop ?_
    refine f_keep [0, 1, 12, 13] ?_
    exact s42_l0 FUEL a0 a1 (a0.len : Int) 0 H

/- 71 congou/congoulaw08.PairsRounds$1 -/
theorem ok71 : FnOk Try.prog 71 := ⟨⟨Try.f71, Try.func71, by kernel_rfl, rfl⟩⟩
theorem sim71 {a0 : Sl} {a1 : Sl} {H : Hp} {p : Bool × Hp} (h : r71 a0 a1 H = some p) : CallSim Try.prog 71 [.sl a0, .sl a1] H (.bool p.1) p.2 := by
  refine callSim (fn := Try.f71) (ret := ret71) Try.func71 rfl Try.ntmps71 rfl ?_ h
  unfold r71
  refine f_seq ?_
  refine f_region ?_
  refine f_op rfl rfl (s_as (v := .bool false) rfl) ?_
  refine f_nil ?_
  refine f_seq ?_
  refine f_region ?_
  refine f_op rfl rfl (s_mv (v := .sl a0) rfl) ?_
  refine f_op rfl rfl (s_mv (v := .sl a1) rfl) ?_
  refine o_bind ?_; intro p1 hp1
  refine f_op rfl rfl (s_callF rfl ok42 (sim42 hp1)) ?_
  refine f_op rfl rfl (s_as (v := .bool p1.1) rfl) ?_
  refine f_nil ?_
  exact f_ret (.tmp rfl (.nil)) rfl

/- 19 congou/congoulaw08.PairsRounds -/
theorem ok19 : FnOk Try.prog 19 := ⟨⟨Try.f19, Try.func19, by kernel_rfl, rfl⟩⟩
theorem s19_j0 {app : App} (happ : AppSim Try.prog app) (v1 : Int) (v2 : Sl) (v3 : Sl) (v4 : Int) (v5 : Bool) (v6 : Int) (v7 : Bool) (H : Hp) : Fin Try.prog Try.f19 ret19 67 (todoAt (bodyOf Try.f19) [1, 1, 1, 0, 1] []) [(0, .int .i64 v1), (1, .sl v2), (5, .sl v3), (6, .int .i64 v4), (7, .bool v5), (8, .int .i64 v6), (26, .bool v7)] H (r19_j0 app v1 v2 v3 v4 v5 v6 v7 H) := by
  unfold r19_j0
  refine f_if (fun h1 => ?_) (fun h1 => ?_)
  · skip
    refine f_know 26 rfl (bool_T h1) ?_
    refine f_condT rfl ?_
    refine f_seq ?_
    refine f_region ?_
    refine f_op rfl rfl (s_mv (v := .sl v3) rfl) ?_
    refine f_op rfl rfl (s_lenS rfl Try.underlying72 rfl) ?_
    refine f_op rfl rfl (s_eql rfl rfl) ?_
    refine f_op rfl rfl (s_mv (v := .bool (decide ((v3.len : Int) = 0))) rfl) ?_
    refine o_if (fun h2 => ?_) (fun h2 => ?_)
    · skip
      refine o_know 30 rfl (dec_true h2) ?_
      refine f_op rfl rfl (s_mv (v := .bool v5) rfl) ?_
      refine f_op rfl rfl (s_not rfl) ?_
      refine f_op rfl rfl (s_pickT (v := .bool (!v5)) rfl rfl) ?_
      refine f_op rfl rfl (s_mv (v := .bool (!v5)) rfl) ?_
      refine o_if (fun h3 => ?_) (fun h3 => ?_)
      · skip
        refine o_know 34 rfl (bool_notT h3) ?_
        refine f_no rfl rfl ?_
        refine f_no rfl rfl ?_
        refine f_op rfl rfl (s_pickF (v := .bool false) rfl rfl) ?_
        refine f_op rfl rfl (s_mv (v := .bool false) rfl) ?_
        refine f_no rfl rfl ?_
        refine f_no rfl rfl ?_
        refine f_op rfl rfl (s_pickF (v := .bool false) rfl rfl) ?_
        refine f_op rfl rfl (s_mv (v := .bool false) rfl) ?_
        refine f_no rfl rfl ?_
        refine f_op rfl rfl (s_pickF (v := .bool false) rfl rfl) ?_
        refine f_op rfl rfl (s_as (v := .bool false) rfl) ?_
        refine f_nil ?_
        exact f_ret (.tmp rfl (.nil)) rfl
      · skip
        refine o_know 34 rfl (bool_notF h3) ?_
        refine f_op rfl rfl (s_mv (v := .int .i64 v4) rfl) ?_
        refine f_op rfl rfl (s_eql rfl rfl) ?_
        refine f_op rfl rfl (s_pickT (v := .bool (decide (v4 = 2))) rfl rfl) ?_
        refine f_op rfl rfl (s_mv (v := .bool (decide (v4 = 2))) rfl) ?_
        refine o_if (fun h4 => ?_) (fun h4 => ?_)
        · skip
          refine o_know 38 rfl (dec_true h4) ?_
          refine f_op rfl rfl (s_mv (v := .int .i64 v6) rfl) ?_
          refine f_op rfl rfl (s_eql rfl rfl) ?_
          refine f_op rfl rfl (s_pickT (v := .bool (decide (v6 = 2))) rfl rfl) ?_
          refine f_op rfl rfl (s_mv (v := .bool (decide (v6 = 2))) rfl) ?_
          refine o_if (fun h5 => ?_) (fun h5 => ?_)
          · skip
            refine o_know 42 rfl (dec_true h5) ?_
            refine o_bind ?_; intro p6 hp6
            refine f_op rfl rfl (s_callF rfl ok23 (sim23 happ hp6)) ?_
            refine f_op rfl rfl (s_pickT (v := .bool p6.1) rfl rfl) ?_
            refine f_op rfl rfl (s_as (v := .bool p6.1) rfl) ?_
            refine f_nil ?_
            exact f_ret (.tmp rfl (.nil)) rfl
          · skip
            refine o_know 42 rfl (dec_false h5) ?_
            refine f_no rfl rfl ?_
            refine f_op rfl rfl (s_pickF (v := .bool false) rfl rfl) ?_
            refine f_op rfl rfl (s_as (v := .bool false) rfl) ?_
            refine f_nil ?_
            exact f_ret (.tmp rfl (.nil)) rfl
        · skip
          refine o_know 38 rfl (dec_false h4) ?_
          refine f_no rfl rfl ?_
          refine f_no rfl rfl ?_
          refine f_op rfl rfl (s_pickF (v := .bool false) rfl rfl) ?_
          refine f_op rfl rfl (s_mv (v := .bool false) rfl) ?_
          refine f_no rfl rfl ?_
          refine f_op rfl rfl (s_pickF (v := .bool false) rfl rfl) ?_
          refine f_op rfl rfl (s_as (v := .bool false) rfl) ?_
          refine f_nil ?_
          exact f_ret (.tmp rfl (.nil)) rfl
    · skip
      refine o_know 30 rfl (dec_false h2) ?_
      refine f_no rfl rfl ?_
      refine f_no rfl rfl ?_
      refine f_op rfl rfl (s_pickF (v := .bool false) rfl rfl) ?_
      refine f_op rfl rfl (s_mv (v := .bool false) rfl) ?_
      refine f_no rfl rfl ?_
      refine f_no rfl rfl ?_
      refine f_op rfl rfl (s_pickF (v := .bool false) rfl rfl) ?_
      refine f_op rfl rfl (s_mv (v := .bool false) rfl) ?_
      refine f_no rfl rfl ?_
      refine f_no rfl rfl ?_
      refine f_op rfl rfl (s_pickF (v := .bool false) rfl rfl) ?_
      refine f_op rfl rfl (s_mv (v := .bool false) rfl) ?_
      refine f_no rfl rfl ?_
      refine f_op rfl rfl (s_pickF (v := .bool false) rfl rfl) ?_
      refine f_op rfl rfl (s_as (v := .bool false) rfl) ?_
      refine f_nil ?_
      exact f_ret (.tmp rfl (.nil)) rfl
  · skip
    refine f_know 26 rfl (bool_F h1) ?_
    refine f_condF rfl ?_
    refine f_skip ?_
    refine f_seq ?_
    refine f_region ?_
    refine f_op rfl rfl (s_mv (v := .sl v3) rfl) ?_
    refine f_op rfl rfl (s_mv (v := .int .i64 v1) rfl) ?_
    refine o_bind ?_; intro p7 hp7
    refine f_op rfl rfl (s_callF rfl ok70 (sim70 hp7)) ?_
    refine o_bind ?_; intro p8 hp8
    refine f_op rfl rfl (s_callF rfl ok69 (sim69 happ hp8)) ?_
    refine f_op rfl rfl (s_mv (v := .bool p8.1) rfl) ?_
    refine o_if (fun h9 => ?_) (fun h9 => ?_)
    · skip
      refine o_know 49 rfl (bool_T h9) ?_
      refine f_op rfl rfl (s_mv (v := .int .i64 v4) rfl) ?_
      refine f_op rfl rfl (s_eql rfl rfl) ?_
      refine f_op rfl rfl (s_pickT (v := .bool (decide (v4 = 0))) rfl rfl) ?_
      refine f_op rfl rfl (s_mv (v := .bool (decide (v4 = 0))) rfl) ?_
      refine o_if (fun h10 => ?_) (fun h10 => ?_)
      · skip
        refine o_know 53 rfl (dec_true h10) ?_
        refine f_op rfl rfl (s_mv (v := .bool v5) rfl) ?_
        refine f_op rfl rfl (s_mv (v := .int .i64 v1) rfl) ?_
        refine f_op rfl rfl (s_mv (v := .sl v2) rfl) ?_
        refine o_bind ?_; intro p11 hp11
        refine f_op rfl rfl (s_callF rfl ok64 (sim64 hp11)) ?_
        refine f_op rfl rfl (s_eqB Try.underlying4 rfl rfl) ?_
        refine f_op rfl rfl (s_pickT (v := .bool (v5 == p11.1)) rfl rfl) ?_
        refine f_op rfl rfl (s_mv (v := .bool (v5 == p11.1)) rfl) ?_
        refine o_if (fun h12 => ?_) (fun h12 => ?_)
        · skip
          refine o_know 60 rfl (bool_T h12) ?_
          refine f_op rfl rfl (s_mv (v := .int .i64 v6) rfl) ?_
          refine f_op rfl rfl (s_eql rfl rfl) ?_
          refine f_op rfl rfl (s_pickT (v := .bool (decide (v6 = 0))) rfl rfl) ?_
          refine f_op rfl rfl (s_mv (v := .bool (decide (v6 = 0))) rfl) ?_
          refine o_if (fun h13 => ?_) (fun h13 => ?_)
          · skip
            refine o_know 64 rfl (dec_true h13) ?_
            refine o_bind ?_; intro p14 hp14
            refine f_op rfl rfl (s_callF rfl ok23 (sim23 happ hp14)) ?_
            refine f_op rfl rfl (s_pickT (v := .bool p14.1) rfl rfl) ?_
            refine f_op rfl rfl (s_as (v := .bool p14.1) rfl) ?_
            refine f_nil ?_
            exact f_ret (.tmp rfl (.nil)) rfl
          · skip
            refine o_know 64 rfl (dec_false h13) ?_
            refine f_no rfl rfl ?_
            refine f_op rfl rfl (s_pickF (v := .bool false) rfl rfl) ?_
            refine f_op rfl rfl (s_as (v := .bool false) rfl) ?_
            refine f_nil ?_
            exact f_ret (.tmp rfl (.nil)) rfl
        · skip
          refine o_know 60 rfl (bool_F h12) ?_
          refine f_no rfl rfl ?_
          refine f_no rfl rfl ?_
          refine f_op rfl rfl (s_pickF (v := .bool false) rfl rfl) ?_
          refine f_op rfl rfl (s_mv (v := .bool false) rfl) ?_
          refine f_no rfl rfl ?_
          refine f_op rfl rfl (s_pickF (v := .bool false) rfl rfl) ?_
          refine f_op rfl rfl (s_as (v := .bool false) rfl) ?_
          refine f_nil ?_
          exact f_ret (.tmp rfl (.nil)) rfl
      · skip
        refine o_know 53 rfl (dec_false h10) ?_
        refine f_no rfl rfl ?_
        refine f_no rfl rfl ?_
        refine f_no rfl rfl ?_
        refine f_no rfl rfl ?_
        refine f_no rfl rfl ?_
        refine f_op rfl rfl (s_pickF (v := .bool false) rfl rfl) ?_
        refine f_op rfl rfl (s_mv (v := .bool false) rfl) ?_
        refine f_no rfl rfl ?_
        refine f_no rfl rfl ?_
        refine f_op rfl rfl (s_pickF (v := .bool false) rfl rfl) ?_
        refine f_op rfl rfl (s_mv (v := .bool false) rfl) ?_
        refine f_no rfl rfl ?_
        refine f_op rfl rfl (s_pickF (v := .bool false) rfl rfl) ?_
        refine f_op rfl rfl (s_as (v := .bool false) rfl) ?_
        refine f_nil ?_
        exact f_ret (.tmp rfl (.nil)) rfl
    · skip
      refine o_know 49 rfl (bool_F h9) ?_
      refine f_no rfl rfl ?_
      refine f_no rfl rfl ?_
      refine f_op rfl rfl (s_pickF (v := .bool false) rfl rfl) ?_
      refine f_op rfl rfl (s_mv (v := .bool false) rfl) ?_
      refine f_no rfl rfl ?_
      refine f_no rfl rfl ?_
      refine f_no rfl rfl ?_
      refine f_no rfl rfl ?_
      refine f_no rfl rfl ?_
      refine f_op rfl rfl (s_pickF (v := .bool false) rfl rfl) ?_
      refine f_op rfl rfl (s_mv (v := .bool false) rfl) ?_
      refine f_no rfl rfl ?_
      refine f_no rfl rfl ?_
      refine f_op rfl rfl (s_pickF (v := .bool false) rfl rfl) ?_
      refine f_op rfl rfl (s_mv (v := .bool false) rfl) ?_
      refine f_no rfl rfl ?_
      refine f_op rfl rfl (s_pickF (v := .bool false) rfl rfl) ?_
      refine f_op rfl rfl (s_as (v := .bool false) rfl) ?_
      refine f_nil ?_
      exact f_ret (.tmp rfl (.nil)) rfl

theorem sim19 {app : App} (happ : AppSim Try.prog app) {a0 : Int} {a1 : Sl} {H : Hp} {p : Bool × Hp} (h : r19 app a0 a1 H = some p) : CallSim Try.prog 19 [.int .i64 a0, .sl a1] H (.bool p.1) p.2 := by
  refine callSim (fn := Try.f19) (ret := ret19) Try.func19 rfl Try.ntmps19 rfl ?_ h
  unfold r19
  refine f_seq ?_
  refine f_region ?_
  refine f_op rfl rfl (s_as (v := .bool false) rfl) ?_
  refine f_nil ?_
  refine f_seq ?_
  refine f_region ?_
  refine f_op rfl rfl (s_mv (v := .int .i64 a0) rfl) ?_
  refine o_bind ?_; intro p1 hp1
  refine f_op rfl rfl (s_callF rfl ok68 (sim68 happ hp1)) ?_
  refine f_op rfl rfl (s_mv (v := .tup [.sl p1.1.1, .int .i64 p1.1.2]) rfl) ?_
  refine f_op rfl rfl (s_extract (r := .sl p1.1.1) rfl rfl) ?_
  refine f_op rfl rfl (s_extract (r := .int .i64 p1.1.2) rfl rfl) ?_
  refine f_op rfl rfl (s_as (v := .sl p1.1.1) rfl) ?_
  refine f_op rfl rfl (s_as (v := .int .i64 p1.1.2) rfl) ?_
  refine f_nil ?_
  refine f_seq ?_
  refine f_region ?_
  refine f_op rfl rfl (s_mv (v := .int .i64 a0) rfl) ?_
  refine f_op rfl rfl (s_mv (v := .sl a1) rfl) ?_
  refine o_bind ?_; intro p2 hp2
  refine f_op rfl rfl (s_callF rfl ok63 (sim63 hp2)) ?_
  refine o_bind ?_; intro p3 hp3
  refine f_op rfl rfl (s_callF rfl ok62 (sim62 happ hp3)) ?_
  refine f_op rfl rfl (s_mv (v := .tup [.bool p3.1.1, .int .i64 p3.1.2]) rfl) ?_
  refine f_op rfl rfl (s_extract (r := .bool p3.1.1) rfl rfl) ?_
  refine f_op rfl rfl (s_extract (r := .int .i64 p3.1.2) rfl rfl) ?_
  refine f_op rfl rfl (s_as (v := .bool p3.1.1) rfl) ?_
  refine f_op rfl rfl (s_as (v := .int .i64 p3.1.2) rfl) ?_
  refine f_nil ?_
  refine f_seq ?_
  refine f_seq ?_
  refine f_region ?_
  refine f_op rfl rfl (s_mv (v := .int .i64 a0) rfl) ?_
  refine f_op rfl rfl (s_lss rfl rfl) ?_
  refine f_op rfl rfl (s_mv (v := .bool (decide (a0 < 1))) rfl) ?_
  refine o_if (fun h4 => ?_) (fun h4 => ?_)
  · skip
    refine o_know 23 rfl (dec_true h4) ?_
    refine f_no rfl rfl ?_
    refine f_no rfl rfl ?_
    refine f_op rfl rfl (s_pickT (v := .bool true) rfl rfl) ?_
    refine f_nil ?_
    refine f_keep [0, 1, 5, 6, 7, 8, 26] ?_
    exact s19_j0 happ a0 a1 p1.1.1 p1.1.2 p3.1.1 p3.1.2 true p3.2
  · skip
    refine o_know 23 rfl (dec_false h4) ?_
    refine f_op rfl rfl (s_mv (v := .int .i64 a0) rfl) ?_
    refine f_op rfl rfl (s_gtr rfl rfl) ?_
    refine f_op rfl rfl (s_pickF (v := .bool (decide (4 < a0))) rfl rfl) ?_
    refine f_nil ?_
    refine f_keep [0, 1, 5, 6, 7, 8, 26] ?_
    exact s19_j0 happ a0 a1 p1.1.1 p1.1.2 p3.1.1 p3.1.2 (decide (4 < a0)) p3.2

/- 36 slices.Clone[[]int,int] -/
theorem ok36 : FnOk Try.prog 36 := ⟨⟨Try.f36, Try.func36, by kernel_rfl, rfl⟩⟩
theorem sim36 {a0 : Sl} {H : Hp} {p : Sl × Hp} (h : r36 a0 H = some p) : CallSim Try.prog 36 [.sl a0] H (.sl p.1) p.2 := by
  refine callSim (fn := Try.f36) (ret := ret36) Try.func36 rfl Try.ntmps36 rfl ?_ h
  unfold r36
  refine f_seq ?_
  refine f_region ?_
  refine f_op rfl rfl (s_as (v := .sl ⟨true, 0, 0, 0, 0, 0⟩) rfl) ?_
  refine f_nil ?_
  refine f_seq ?_
  refine f_seq ?_
  refine f_region ?_
  refine f_op rfl rfl (s_mv (v := .sl a0) rfl) ?_
  refine f_op rfl rfl (s_eqNil Try.underlying22 rfl rfl) ?_
  refine f_nil ?_
  refine f_if (fun h1 => ?_) (fun h1 => ?_)
  · skip
    refine f_know 4 rfl (bool_T h1) ?_
    refine f_condT rfl ?_
    refine f_seq ?_
    refine f_region ?_
    refine f_op rfl rfl (s_as (v := .sl ⟨true, 0, 0, 0, 0, 0⟩) rfl) ?_
    refine f_nil ?_
    exact f_ret (.tmp rfl (.nil)) rfl
  · skip
    refine f_know 4 rfl (bool_F h1) ?_
    refine f_condF rfl ?_
    refine f_skip ?_
    refine f_seq ?_
    refine f_region ?_
    refine f_op rfl rfl (s_buildSlice0 Try.underlying22 ty3) ?_
    refine f_op rfl rfl (s_mv (v := .sl a0) rfl) ?_
    refine o_bind ?_; intro x2 hx2
    refine o_ck fun g3 => ?_
    refine o_bind ?_; intro x4 hx4
    refine f_op rfl rfl (s_append rfl rfl Try.underlying22 Try.underlying22 ty3 (by decide) rfl (by decide) rfl rfl hx2 g3 hx4) ?_
    refine f_op rfl rfl (s_as (v := .sl x4.1) rfl) ?_
    refine f_nil ?_
    exact f_ret (.tmp rfl (.nil)) rfl

/- 74 congou/pairs.First$1 -/
theorem ok74 : FnOk Try.prog 74 := ⟨⟨Try.f74, Try.func74, by kernel_rfl, rfl⟩⟩
theorem sim74 {a0 : Sl} {c0 : Nat} {H : Hp} {p : Bool × Hp} (h : r74 a0 c0 H = some p) : CallSim Try.prog 74 [.sl a0, .ptr c0 0] H (.bool p.1) p.2 := by
  refine callSim (fn := Try.f74) (ret := ret74) Try.func74 rfl Try.ntmps74 rfl ?_ h
  unfold r74
  refine f_seq ?_
  refine f_region ?_
  refine f_op rfl rfl (s_as (v := .bool false) rfl) ?_
  refine f_nil ?_
  refine f_seq ?_
  refine f_region ?_
  refine f_op rfl rfl (s_mv (v := .sl a0) rfl) ?_
  refine o_bind ?_; intro p1 hp1
  refine f_op rfl rfl (s_callF rfl ok36 (sim36 hp1)) ?_
  refine o_bind ?_; intro H2 hH2
  refine f_op rfl rfl (s_store (s := 1) ty22 rfl rfl rfl hH2) ?_
  refine f_nil ?_
  refine f_seq ?_
  refine f_region ?_
  refine f_op rfl rfl (s_as (v := .bool false) rfl) ?_
  refine f_nil ?_
  exact f_ret (.tmp rfl (.nil)) rfl

end Go.Lt.P8
