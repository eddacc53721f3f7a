/- PRINTED BY A PROGRAM OF OURS: what each function that 'PairsMeet' reaches computes on the abstract heap, and that the translated code does just that. Nothing is asked of the input. -/
import Derived.Test.YthmhdbmpeepmaaaG18P3
set_option linter.unusedVariables false
set_option linter.unusedSimpArgs false
set_option maxRecDepth 100000
set_option maxHeartbeats 4000000
namespace Go.Lt.P8
open Go Go.Lt Go.Proofs
/- 106 congou/pairs.ordered[[2]int] -/
theorem ok106 : FnOk Try.prog 106 := ⟨⟨Try.f106, Try.func106, by kernel_rfl, rfl⟩⟩
theorem sim106 {app : App} (happ : AppSim Try.prog app) {a0 : Sl} {a1 : AV} {H : Hp} {p : Sl × Hp} (h : r106 app a0 a1 H = some p) : CallSim Try.prog 106 [.sl a0, a1] H (.sl p.1) p.2 := by
  refine callSim (fn := Try.f106) (ret := ret106) Try.func106 rfl Try.ntmps106 rfl ?_ h
  unfold r106
  refine f_seq ?_
  refine f_region ?_
  refine f_op rfl rfl (s_as (v := .sl ⟨true, 0, 0, 0, 0, 0⟩) rfl) ?_
  refine f_nil ?_
  refine f_seq ?_
  refine f_region ?_
  refine f_op rfl rfl (s_mv (v := .sl a0) rfl) ?_
  refine f_op rfl rfl (s_mv (v := a1) rfl) ?_
  refine o_bind ?_; intro p1 hp1
  refine f_op rfl rfl (s_callF rfl ok66 (sim66 happ hp1)) ?_
  refine f_nil ?_
  refine f_seq ?_
  refine f_region ?_
  refine f_op rfl rfl (s_mv (v := .sl a0) rfl) ?_
  refine f_op rfl rfl (s_as (v := .sl a0) rfl) ?_
  refine f_nil ?_
  exact f_ret (.tmp rfl (.nil)) rfl

/- 68 congou/pairs.Rounds -/
theorem ok68 : FnOk Try.prog 68 := ⟨⟨Try.f68, Try.func68, by kernel_rfl, rfl⟩⟩
theorem s68_l2 {app : App} (happ : AppSim Try.prog app) (kt1 : Int → Sl → Int → Sl → Int → Int → Int → Int → Hp → Option ((Sl × Int) × Hp)) (hkt1 : ∀ (v1 : Int) (v2 : Sl) (v3 : Int) (v4 : Sl) (v5 : Int) (v6 : Int) (v7 : Int) (v8 : Int) (H : Hp), Fin Try.prog Try.f68 ret68 58 (todoAt (bodyOf Try.f68) [1, 1, 1, 1, 0, 1, 0, 0, 1, 1, 0, 0, 1, 1, 0, 1, 0, 0] []) [(4, .int .i64 v1), (5, .sl v2), (6, .int .i64 v3), (7, .sl v4), (16, .int .i64 v5), (17, .int .i64 v6), (24, .int .i64 v7), (25, .int .i64 v8)] H (kt1 v1 v2 v3 v4 v5 v6 v7 v8 H)) : ∀ (k_ : Nat) (v1 : Int) (v2 : Sl) (v3 : Int) (v4 : Sl) (v5 : Int) (v6 : Int) (v7 : Int) (v8 : Int) (v9 : Int) (v10 : Int) (H : Hp), Fin Try.prog Try.f68 ret68 58 (todoAt (bodyOf Try.f68) [1, 1, 1, 1, 0, 1, 0, 0, 1, 1, 0, 0, 1, 1, 0, 1, 0, 0, 1, 1, 0, 0, 1, 1, 0, 0] []) [(4, .int .i64 v1), (5, .sl v2), (6, .int .i64 v3), (7, .sl v4), (8, .int .i64 v5), (9, .int .i64 v6), (16, .int .i64 v7), (17, .int .i64 v8), (24, .int .i64 v9), (25, .int .i64 v10)] H (r68_l2 app kt1 k_ v1 v2 v3 v4 v5 v6 v7 v8 v9 v10 H) := by
  intro k_
  induction k_ with
  | zero => intro _ _ _ _ _ _ _ _ _ _ _; exact f_none
  | succ k_ ih =>
    intro v1 v2 v3 v4 v5 v6 v7 v8 v9 v10 H
    rw [r68_l2]
    refine f_seq ?_
    refine f_seq ?_
    refine f_region ?_
    refine f_op rfl rfl (s_mv (v := .int .i64 v6) rfl) ?_
    refine f_op rfl rfl (s_mv (v := .int .i64 v1) rfl) ?_
    refine f_op rfl rfl (s_lss rfl rfl) ?_
    refine f_nil ?_
    refine f_if (fun h1 => ?_) (fun h1 => ?_)
    · skip
      refine f_know 32 rfl (dec_true h1) ?_
      refine f_condT rfl ?_
      refine f_skip ?_
      refine f_seq ?_
      refine f_block ?_
      refine f_seq ?_
      refine f_region ?_
      refine f_op rfl rfl (s_mv (v := .int .i64 v5) rfl) ?_
      refine f_op rfl rfl (s_mv (v := .int .i64 v6) rfl) ?_
      refine f_op rfl rfl (s_add rfl rfl) ?_
      refine f_op rfl rfl (s_mv (v := .int .i64 v3) rfl) ?_
      refine f_op rfl rfl (s_mul rfl rfl) ?_
      refine f_op rfl rfl (s_sub rfl rfl) ?_
      refine f_op rfl rfl (s_mv (v := .int .i64 v1) rfl) ?_
      refine o_ck fun g2 => ?_
      refine f_op rfl rfl (s_rem rfl rfl g2) ?_
      refine f_op rfl rfl (s_eql rfl rfl) ?_
      refine f_nil ?_
      refine f_if (fun h3 => ?_) (fun h3 => ?_)
      · skip
        refine f_know 43 rfl (dec_true h3) ?_
        refine f_condT rfl ?_
        refine f_region ?_
        refine f_op rfl rfl (s_mv (v := .sl v4) rfl) ?_
        refine f_op rfl rfl (s_mv (v := .int .i64 v5) rfl) ?_
        refine f_op rfl rfl (s_mv (v := .int .i64 v6) rfl) ?_
        refine f_op rfl rfl (s_buildA (cs := [.int .i64 v5, .int .i64 v6]) Try.underlying43 ty43 ty3 rfl rfl) ?_
        refine f_op rfl rfl (s_buildSlice (cs := [.int .i64 v5, .int .i64 v6]) Try.underlying40 ty43 (by decide) (by decide) rfl (by decide) rfl) ?_
        refine o_bind ?_; intro x4 hx4
        refine f_op rfl rfl (s_ap rfl rfl Try.underlying40 Try.underlying40 ty43 rfl rfl rfl rfl rfl rfl rfl hx4) ?_
        refine f_op rfl rfl (s_as (v := .sl x4.1) rfl) ?_
        refine f_nil ?_
        refine f_inBlock ?_
        refine f_region ?_
        refine f_op rfl rfl (s_mv (v := .int .i64 v6) rfl) ?_
        refine f_op rfl rfl (s_add rfl rfl) ?_
        refine f_op rfl rfl (s_as (v := .int .i64 (w64 (v6 + 1))) rfl) ?_
        refine f_nil ?_
        refine f_inLoop ?_
        refine f_keep [4, 5, 6, 7, 8, 9, 16, 17, 24, 25] ?_
        exact ih v1 v2 v3 x4.1 v5 (w64 (v6 + 1)) v7 v8 v9 v10 x4.2
      · skip
        refine f_know 43 rfl (dec_false h3) ?_
        refine f_condF rfl ?_
        refine f_skip ?_
        refine f_inBlock ?_
        refine f_region ?_
        refine f_op rfl rfl (s_mv (v := .int .i64 v6) rfl) ?_
        refine f_op rfl rfl (s_add rfl rfl) ?_
        refine f_op rfl rfl (s_as (v := .int .i64 (w64 (v6 + 1))) rfl) ?_
        refine f_nil ?_
        refine f_inLoop ?_
        refine f_keep [4, 5, 6, 7, 8, 9, 16, 17, 24, 25] ?_
        exact ih v1 v2 v3 v4 v5 (w64 (v6 + 1)) v7 v8 v9 v10 H
    · skip
      refine f_know 32 rfl (dec_false h1) ?_
      refine f_condF rfl ?_
      refine f_exit rfl ?_
      refine f_inBlock ?_
      refine f_region ?_
      refine f_op rfl rfl (s_add rfl rfl) ?_
      refine f_op rfl rfl (s_mv (v := .int .i64 (w64 (v10 + 1))) rfl) ?_
      refine f_nil ?_
      refine f_inLoop ?_
      refine f_keep [4, 5, 6, 7, 16, 17, 24, 25] ?_
      exact hkt1 v1 v2 v3 v4 v7 v8 v9 (w64 (v10 + 1)) H

theorem s68_l1 {app : App} (happ : AppSim Try.prog app) (kt0 : Int → Sl → Int → Int → Hp → Option ((Sl × Int) × Hp)) (hkt0 : ∀ (v1 : Int) (v2 : Sl) (v3 : Int) (v4 : Int) (H : Hp), Fin Try.prog Try.f68 ret68 58 (todoAt (bodyOf Try.f68) [1, 1, 1, 1, 0, 1, 0, 0] []) [(4, .int .i64 v1), (5, .sl v2), (16, .int .i64 v3), (17, .int .i64 v4)] H (kt0 v1 v2 v3 v4 H)) : ∀ (k_ : Nat) (v1 : Int) (v2 : Sl) (v3 : Int) (v4 : Sl) (v5 : Int) (v6 : Int) (v7 : Int) (v8 : Int) (H : Hp), Fin Try.prog Try.f68 ret68 58 (todoAt (bodyOf Try.f68) [1, 1, 1, 1, 0, 1, 0, 0, 1, 1, 0, 0, 1, 1, 0, 1, 0, 0] []) [(4, .int .i64 v1), (5, .sl v2), (6, .int .i64 v3), (7, .sl v4), (16, .int .i64 v5), (17, .int .i64 v6), (24, .int .i64 v7), (25, .int .i64 v8)] H (r68_l1 app kt0 k_ v1 v2 v3 v4 v5 v6 v7 v8 H) := by
  intro k_
  induction k_ with
  | zero => intro _ _ _ _ _ _ _ _ _; exact f_none
  | succ k_ ih =>
    intro v1 v2 v3 v4 v5 v6 v7 v8 H
    rw [r68_l1]
    refine f_seq ?_
    refine f_region ?_
    refine f_op rfl rfl (s_lss rfl rfl) ?_
    refine f_nil ?_
    refine f_seq ?_
    refine f_if (fun h1 => ?_) (fun h1 => ?_)
    · skip
      refine f_know 26 rfl (dec_true h1) ?_
      refine f_condT rfl ?_
      refine f_skip ?_
      refine f_seq ?_
      refine f_block ?_
      refine f_seq ?_
      refine f_region ?_
      refine f_op rfl rfl (s_mv (v := .int .i64 v8) rfl) ?_
      refine f_op rfl rfl (s_as (v := .int .i64 v8) rfl) ?_
      refine f_nil ?_
      refine f_seq ?_
      refine f_region ?_
      refine f_op rfl rfl (s_mv (v := .int .i64 v8) rfl) ?_
      refine f_op rfl rfl (s_add rfl rfl) ?_
      refine f_op rfl rfl (s_as (v := .int .i64 (w64 (v8 + 1))) rfl) ?_
      refine f_nil ?_
      refine f_block ?_
      refine f_loop ?_
      refine f_keep [4, 5, 6, 7, 8, 9, 16, 17, 24, 25] ?_
      exact s68_l2 happ _ (fun v1_ v2_ v3_ v4_ v5_ v6_ v7_ v8_ H_ => ih v1_ v2_ v3_ v4_ v5_ v6_ v7_ v8_ H_) FUEL v1 v2 v3 v4 v8 (w64 (v8 + 1)) v5 v6 v7 v8 H
    · skip
      refine f_know 26 rfl (dec_false h1) ?_
      refine f_condF rfl ?_
      refine f_exit rfl ?_
      refine f_region ?_
      refine f_op rfl rfl (s_mv (v := .sl v2) rfl) ?_
      refine f_op rfl rfl (s_mv (v := .sl v4) rfl) ?_
      refine o_bind ?_; intro p2 hp2
      refine f_op rfl rfl (s_callF rfl ok106 (sim106 happ hp2)) ?_
      refine f_op rfl rfl (s_buildSlice (cs := [.sl p2.1]) Try.underlying72 ty40 (by decide) (by decide) rfl (by decide) rfl) ?_
      refine o_bind ?_; intro x3 hx3
      refine f_op rfl rfl (s_ap rfl rfl Try.underlying72 Try.underlying72 ty40 rfl rfl rfl rfl rfl rfl rfl hx3) ?_
      refine f_op rfl rfl (s_as (v := .sl x3.1) rfl) ?_
      refine f_nil ?_
      refine f_inBlock ?_
      refine f_region ?_
      refine f_op rfl rfl (s_add rfl rfl) ?_
      refine f_op rfl rfl (s_mv (v := .int .i64 (w64 (v6 + 1))) rfl) ?_
      refine f_nil ?_
      refine f_inLoop ?_
      refine f_keep [4, 5, 16, 17] ?_
      exact hkt0 v1 x3.1 v5 (w64 (v6 + 1)) x3.2

theorem s68_l0 {app : App} (happ : AppSim Try.prog app) : ∀ (k_ : Nat) (v1 : Int) (v2 : Sl) (v3 : Int) (v4 : Int) (H : Hp), Fin Try.prog Try.f68 ret68 58 (todoAt (bodyOf Try.f68) [1, 1, 1, 1, 0, 1, 0, 0] []) [(4, .int .i64 v1), (5, .sl v2), (16, .int .i64 v3), (17, .int .i64 v4)] H (r68_l0 app k_ v1 v2 v3 v4 H) := by
  intro k_
  induction k_ with
  | zero => intro _ _ _ _ _; exact f_none
  | succ k_ ih =>
    intro v1 v2 v3 v4 H
    rw [r68_l0]
    refine f_seq ?_
    refine f_region ?_
    refine f_op rfl rfl (s_lss rfl rfl) ?_
    refine f_nil ?_
    refine f_seq ?_
    refine f_if (fun h1 => ?_) (fun h1 => ?_)
    · skip
      refine f_know 18 rfl (dec_true h1) ?_
      refine f_condT rfl ?_
      refine f_skip ?_
      refine f_seq ?_
      refine f_block ?_
      refine f_seq ?_
      refine f_region ?_
      refine f_op rfl rfl (s_mv (v := .int .i64 v4) rfl) ?_
      refine f_op rfl rfl (s_as (v := .int .i64 v4) rfl) ?_
      refine f_nil ?_
      refine f_seq ?_
      refine f_region ?_
      refine f_op rfl rfl (s_mv (v := .int .i64 v4) rfl) ?_
      refine f_op rfl rfl (s_mv (v := .int .i64 v1) rfl) ?_
      refine f_op rfl rfl (s_buildA (cs := [.int .i64 v4, .int .i64 v1]) Try.underlying43 ty43 ty3 rfl rfl) ?_
      refine f_op rfl rfl (s_buildSlice (cs := [.int .i64 v4, .int .i64 v1]) Try.underlying40 ty43 (by decide) (by decide) rfl (by decide) rfl) ?_
      refine f_op rfl rfl (s_as (v := .sl ⟨false, H.n, 0, 1, 1, 0⟩) rfl) ?_
      refine o_hp ?_; intro H2 hH2
      refine f_nil ?_
      refine f_seq ?_
      refine f_seq ?_
      refine f_region ?_
      refine f_op rfl rfl (s_mv (v := .int .i64 v1) rfl) ?_
      refine f_op rfl rfl (s_mv (v := .int .i64 0) rfl) ?_
      refine f_nil ?_
      refine f_block ?_
      refine f_loop ?_
      refine f_keep [4, 5, 6, 7, 16, 17, 24, 25] ?_
      exact s68_l1 happ _ (fun v1_ v2_ v3_ v4_ H_ => ih v1_ v2_ v3_ v4_ H_) FUEL v1 v2 v4 ⟨false, H.n, 0, 1, 1, 0⟩ v3 v4 v1 0 H2
    · skip
      refine f_know 18 rfl (dec_false h1) ?_
      refine f_condF rfl ?_
      refine f_exit rfl ?_
      refine f_seq ?_
      refine f_region ?_
      refine f_op rfl rfl (s_mv (v := .sl v2) rfl) ?_
      refine f_op rfl rfl (s_as (v := .sl v2) rfl) ?_
      refine f_op rfl rfl (s_as (v := .int .i64 0) rfl) ?_
      refine f_nil ?_
      exact f_ret (.tmp rfl (.tmp rfl (.nil))) rfl

theorem sim68 {app : App} (happ : AppSim Try.prog app) {a0 : Int} {H : Hp} {p : (Sl × Int) × Hp} (h : r68 app a0 H = some p) : CallSim Try.prog 68 [.int .i64 a0] H (.tup [.sl p.1.1, .int .i64 p.1.2]) p.2 := by
  refine callSim (fn := Try.f68) (ret := ret68) Try.func68 rfl Try.ntmps68 rfl ?_ h
  unfold r68
  refine f_seq ?_
  refine f_region ?_
  refine f_op rfl rfl (s_as (v := .sl ⟨true, 0, 0, 0, 0, 0⟩) rfl) ?_
  refine f_op rfl rfl (s_as (v := .int .i64 0) rfl) ?_
  refine f_nil ?_
  refine f_seq ?_
  refine f_seq ?_
  refine f_region ?_
  refine f_op rfl rfl (s_mv (v := .int .i64 a0) rfl) ?_
  refine o_bind ?_; intro p1 hp1
  refine f_op rfl rfl (s_callF rfl ok100 (sim100 hp1)) ?_
  refine f_op rfl rfl (s_not rfl) ?_
  refine f_nil ?_
  refine f_if (fun h2 => ?_) (fun h2 => ?_)
  · skip
    refine f_know 12 rfl (bool_notT h2) ?_
    refine f_condF rfl ?_
    refine f_skip ?_
    refine f_seq ?_
    refine f_region ?_
    refine f_op rfl rfl (s_mv (v := .int .i64 a0) rfl) ?_
    refine f_op rfl rfl (s_mul rfl rfl) ?_
    refine f_op rfl rfl (s_sub rfl rfl) ?_
    refine f_op rfl rfl (s_as (v := .int .i64 (w64 ((w64 (2 * a0)) - 1))) rfl) ?_
    refine f_nil ?_
    refine f_seq ?_
    refine f_region ?_
    refine f_op rfl rfl (s_as (v := .sl ⟨true, 0, 0, 0, 0, 0⟩) rfl) ?_
    refine f_nil ?_
    refine f_seq ?_
    refine f_seq ?_
    refine f_region ?_
    refine f_op rfl rfl (s_mv (v := .int .i64 (w64 ((w64 (2 * a0)) - 1))) rfl) ?_
    refine f_op rfl rfl (s_mv (v := .int .i64 0) rfl) ?_
    refine f_nil ?_
    refine f_block ?_
    refine f_loop ?_
    refine f_keep [4, 5, 16, 17] ?_
    exact s68_l0 happ FUEL (w64 ((w64 (2 * a0)) - 1)) ⟨true, 0, 0, 0, 0, 0⟩ (w64 ((w64 (2 * a0)) - 1)) 0 p1.2
  · skip
    refine f_know 12 rfl (bool_notF h2) ?_
    refine f_condT rfl ?_
    refine f_seq ?_
    refine f_region ?_
    refine f_op rfl rfl (s_as (v := .sl ⟨true, 0, 0, 0, 0, 0⟩) rfl) ?_
    refine f_op rfl rfl (s_as (v := .int .i64 2) rfl) ?_
    refine f_nil ?_
    exact f_ret (.tmp rfl (.tmp rfl (.nil))) rfl

/- 18 congou/congoulaw08.PairsMeet -/
theorem ok18 : FnOk Try.prog 18 := ⟨⟨Try.f18, Try.func18, by kernel_rfl, rfl⟩⟩
theorem s18_j4 {app : App} (happ : AppSim Try.prog app) (kt2 : Int → Int → Int → Sl → Nat → Sl → Int → Int → Sl → Int → Int → Hp → Option (Bool × Hp)) (hkt2 : ∀ (v1 : Int) (v2 : Int) (v3 : Int) (v4 : Sl) (v5 : Nat) (v6 : Sl) (v7 : Int) (v8 : Int) (v9 : Sl) (v10 : Int) (v11 : Int) (H : Hp), Fin Try.prog Try.f18 ret18 182 (todoAt (bodyOf Try.f18) [1, 1, 1, 1, 1, 1, 0, 1, 0, 0, 1, 1, 0, 0, 1, 1, 0, 0] []) [(0, .int .i64 v1), (1, .int .i64 v2), (2, .int .i64 v3), (7, .sl v4), (11, .ptr v5 0), (61, .sl v6), (62, .int .i64 v7), (63, .int .i64 v8), (67, .sl v9), (68, .int .i64 v10), (69, .int .i64 v11)] H (kt2 v1 v2 v3 v4 v5 v6 v7 v8 v9 v10 v11 H)) (v1 : Int) (v2 : Int) (v3 : Int) (v4 : Sl) (v5 : Nat) (v6 : Nat) (v7 : Sl) (v8 : Int) (v9 : Int) (v10 : Sl) (v11 : Int) (v12 : Int) (v13 : Bool) (H : Hp) : Fin Try.prog Try.f18 ret18 182 (todoAt (bodyOf Try.f18) [1, 1, 1, 1, 1, 1, 0, 1, 0, 0, 1, 1, 0, 0, 1, 1, 0, 0, 1, 1, 0, 0, 1, 0, 1] []) [(0, .int .i64 v1), (1, .int .i64 v2), (2, .int .i64 v3), (7, .sl v4), (11, .ptr v5 0), (15, .ptr v6 0), (61, .sl v7), (62, .int .i64 v8), (63, .int .i64 v9), (67, .sl v10), (68, .int .i64 v11), (69, .int .i64 v12), (89, .bool v13)] H (r18_j4 app kt2 v1 v2 v3 v4 v5 v6 v7 v8 v9 v10 v11 v12 v13 H) := by
  unfold r18_j4
  refine f_if (fun h1 => ?_) (fun h1 => ?_)
  · skip
    refine f_know 89 rfl (bool_T h1) ?_
    refine f_condT rfl ?_
    refine f_seq ?_
    refine f_region ?_
    refine f_op rfl rfl (s_as (v := .bool false) rfl) ?_
    refine f_nil ?_
    exact f_ret (.tmp rfl (.nil)) rfl
  · skip
    refine f_know 89 rfl (bool_F h1) ?_
    refine f_condF rfl ?_
    refine f_skip ?_
    refine f_bind ?_; intro x2 hx2
    refine f_bind ?_; intro x3 hx3
    refine f_ck fun g4 => ?_
    refine f_ck fun g5 => ?_
    refine f_bind ?_; intro x6 hx6
    refine f_ck fun g7 => ?_
    refine f_ck fun g8 => ?_
    refine f_bind ?_; intro H9 hH9
    refine f_draw (Φ := fun _ => True) [0, 1, 0, 1, 0, 0, 1, 0, 0, 0, 2] (Trc.pure rfl rfl rfl (fun _ _ => s_idxA Try.underlying43 ty3 rfl rfl (by decide)) (Trc.read rfl rfl rfl (s_load Try.underlying3 rfl rfl (ldI_eq hx2)) (Trc.pure rfl rfl rfl (fun _ _ => s_idxA Try.underlying43 ty3 rfl rfl (by decide)) (Trc.read rfl rfl rfl (s_load Try.underlying3 rfl rfl (ldI_eq hx3)) (Trc.pure rfl rfl rfl (fun _ _ => s_idxA Try.underlying82 ty81 rfl rfl g4) (Trc.pure rfl rfl rfl (fun _ _ => s_idxA Try.underlying81 ty3 rfl rfl g5) (Trc.read rfl rfl rfl (s_load Try.underlying3 rfl rfl (ldI_eq hx6)) (Trc.pure rfl rfl rfl (fun _ _ => s_add rfl rfl) (Trc.pure rfl rfl rfl (fun _ _ => s_idxA Try.underlying82 ty81 rfl rfl g7) (Trc.pure rfl rfl rfl (fun _ _ => s_idxA Try.underlying81 ty3 rfl rfl g8) (Trc.eff rfl rfl rfl (trivial) (s_store (s := 1) ty3 rfl rfl rfl hH9) (Trc.nil (trivial))))))))))))) rfl (by decide +kernel) mixed ?_
    refine f_inBlock ?_
    refine f_region ?_
    refine f_op rfl rfl (s_add rfl rfl) ?_
    refine f_op rfl rfl (s_mv (v := .int .i64 (w64 (v12 + 1))) rfl) ?_
    refine f_nil ?_
    refine f_inLoop ?_
    refine f_keep [0, 1, 2, 7, 11, 61, 62, 63, 67, 68, 69] ?_
    exact hkt2 v1 v2 v3 v4 v5 v7 v8 v9 v10 v11 (w64 (v12 + 1)) H9

theorem s18_l2 {app : App} (happ : AppSim Try.prog app) (kt1 : Int → Int → Int → Sl → Nat → Sl → Int → Int → Hp → Option (Bool × Hp)) (hkt1 : ∀ (v1 : Int) (v2 : Int) (v3 : Int) (v4 : Sl) (v5 : Nat) (v6 : Sl) (v7 : Int) (v8 : Int) (H : Hp), Fin Try.prog Try.f18 ret18 182 (todoAt (bodyOf Try.f18) [1, 1, 1, 1, 1, 1, 0, 1, 0, 0] []) [(0, .int .i64 v1), (1, .int .i64 v2), (2, .int .i64 v3), (7, .sl v4), (11, .ptr v5 0), (61, .sl v6), (62, .int .i64 v7), (63, .int .i64 v8)] H (kt1 v1 v2 v3 v4 v5 v6 v7 v8 H)) : ∀ (k_ : Nat) (v1 : Int) (v2 : Int) (v3 : Int) (v4 : Sl) (v5 : Nat) (v6 : Sl) (v7 : Int) (v8 : Int) (v9 : Sl) (v10 : Int) (v11 : Int) (H : Hp), Fin Try.prog Try.f18 ret18 182 (todoAt (bodyOf Try.f18) [1, 1, 1, 1, 1, 1, 0, 1, 0, 0, 1, 1, 0, 0, 1, 1, 0, 0] []) [(0, .int .i64 v1), (1, .int .i64 v2), (2, .int .i64 v3), (7, .sl v4), (11, .ptr v5 0), (61, .sl v6), (62, .int .i64 v7), (63, .int .i64 v8), (67, .sl v9), (68, .int .i64 v10), (69, .int .i64 v11)] H (r18_l2 app kt1 k_ v1 v2 v3 v4 v5 v6 v7 v8 v9 v10 v11 H) := by
  intro k_
  induction k_ with
  | zero => intro _ _ _ _ _ _ _ _ _ _ _ _; exact f_none
  | succ k_ ih =>
    intro v1 v2 v3 v4 v5 v6 v7 v8 v9 v10 v11 H
    rw [r18_l2]
    refine f_seq ?_
    refine f_region ?_
    refine f_op rfl rfl (s_lss rfl rfl) ?_
    refine f_nil ?_
    refine f_seq ?_
    refine f_if (fun h1 => ?_) (fun h1 => ?_)
    · skip
      refine f_know 70 rfl (dec_true h1) ?_
      refine f_condT rfl ?_
      refine f_skip ?_
      refine f_seq ?_
      refine f_block ?_
      refine f_seq ?_
      refine f_region ?_
      refine o_ck fun g2 => ?_
      refine f_op rfl rfl (s_idx Try.underlying40 ty43 rfl rfl g2) ?_
      refine o_bind ?_; intro x3 hx3
      refine o_bind ?_; intro x4 hx4
      refine f_op rfl rfl (s_loads Try.underlying43 rfl ty43 rfl (lds_cons (ldI_eq hx3) (lds_cons (ldI_eq hx4) (lds_nil)))) ?_
      refine f_op rfl rfl (s_alloc (zs := [.int .i64 0, .int .i64 0]) ty43 rfl rfl) ?_
      refine o_bind ?_; intro H5 hH5
      refine f_op rfl rfl (s_stores ty43 rfl rfl rfl rfl hH5 (Nat.le_of_eq (sts_mono hH5).symm)) ?_
      refine f_nil ?_
      refine f_seq ?_
      refine f_seq ?_
      refine f_region ?_
      refine f_op rfl rfl (s_idxA Try.underlying43 ty3 rfl rfl (by decide)) ?_
      refine o_bind ?_; intro x6 hx6
      refine f_op rfl rfl (s_load Try.underlying3 rfl rfl (ldI_eq hx6)) ?_
      refine f_op rfl rfl (s_lss rfl rfl) ?_
      refine f_op rfl rfl (s_mv (v := .bool (decide (x6 < 0))) rfl) ?_
      refine o_if (fun h7 => ?_) (fun h7 => ?_)
      · skip
        refine o_know 76 rfl (dec_true h7) ?_
        refine f_no rfl rfl ?_
        refine f_no rfl rfl ?_
        refine f_no rfl rfl ?_
        refine f_no rfl rfl ?_
        refine f_no rfl rfl ?_
        refine f_op rfl rfl (s_pickT (v := .bool true) rfl rfl) ?_
        refine f_op rfl rfl (s_mv (v := .bool true) rfl) ?_
        refine f_no rfl rfl ?_
        refine f_no rfl rfl ?_
        refine f_no rfl rfl ?_
        refine f_no rfl rfl ?_
        refine f_no rfl rfl ?_
        refine f_op rfl rfl (s_pickT (v := .bool true) rfl rfl) ?_
        refine f_nil ?_
        refine f_keep [0, 1, 2, 7, 11, 15, 61, 62, 63, 67, 68, 69, 89] ?_
        exact s18_j4 happ _ (fun v1_ v2_ v3_ v4_ v5_ v6_ v7_ v8_ v9_ v10_ v11_ H_ => ih v1_ v2_ v3_ v4_ v5_ v6_ v7_ v8_ v9_ v10_ v11_ H_) v1 v2 v3 v4 v5 H.n v6 v7 v8 v9 v10 v11 true H5
      · skip
        refine o_know 76 rfl (dec_false h7) ?_
        refine f_op rfl rfl (s_idxA Try.underlying43 ty3 rfl rfl (by decide)) ?_
        refine o_bind ?_; intro x8 hx8
        refine f_op rfl rfl (s_load Try.underlying3 rfl rfl (ldI_eq hx8)) ?_
        refine f_op rfl rfl (s_idxA Try.underlying43 ty3 rfl rfl (by decide)) ?_
        refine o_bind ?_; intro x9 hx9
        refine f_op rfl rfl (s_load Try.underlying3 rfl rfl (ldI_eq hx9)) ?_
        refine f_op rfl rfl (s_geq rfl rfl) ?_
        refine f_op rfl rfl (s_pickF (v := .bool (decide (x9 ≤ x8))) rfl rfl) ?_
        refine f_op rfl rfl (s_mv (v := .bool (decide (x9 ≤ x8))) rfl) ?_
        refine o_if (fun h10 => ?_) (fun h10 => ?_)
        · skip
          refine o_know 83 rfl (dec_true h10) ?_
          refine f_no rfl rfl ?_
          refine f_no rfl rfl ?_
          refine f_no rfl rfl ?_
          refine f_no rfl rfl ?_
          refine f_no rfl rfl ?_
          refine f_op rfl rfl (s_pickT (v := .bool true) rfl rfl) ?_
          refine f_nil ?_
          refine f_keep [0, 1, 2, 7, 11, 15, 61, 62, 63, 67, 68, 69, 89] ?_
          exact s18_j4 happ _ (fun v1_ v2_ v3_ v4_ v5_ v6_ v7_ v8_ v9_ v10_ v11_ H_ => ih v1_ v2_ v3_ v4_ v5_ v6_ v7_ v8_ v9_ v10_ v11_ H_) v1 v2 v3 v4 v5 H.n v6 v7 v8 v9 v10 v11 true H5
        · skip
          refine o_know 83 rfl (dec_false h10) ?_
          refine f_op rfl rfl (s_idxA Try.underlying43 ty3 rfl rfl (by decide)) ?_
          refine o_bind ?_; intro x11 hx11
          refine f_op rfl rfl (s_load Try.underlying3 rfl rfl (ldI_eq hx11)) ?_
          refine f_op rfl rfl (s_mv (v := .int .i64 v1) rfl) ?_
          refine f_op rfl rfl (s_mul rfl rfl) ?_
          refine f_op rfl rfl (s_geq rfl rfl) ?_
          refine f_op rfl rfl (s_pickF (v := .bool (decide ((w64 (2 * v1)) ≤ x11))) rfl rfl) ?_
          refine f_nil ?_
          refine f_keep [0, 1, 2, 7, 11, 15, 61, 62, 63, 67, 68, 69, 89] ?_
          exact s18_j4 happ _ (fun v1_ v2_ v3_ v4_ v5_ v6_ v7_ v8_ v9_ v10_ v11_ H_ => ih v1_ v2_ v3_ v4_ v5_ v6_ v7_ v8_ v9_ v10_ v11_ H_) v1 v2 v3 v4 v5 H.n v6 v7 v8 v9 v10 v11 (decide ((w64 (2 * v1)) ≤ x11)) H5
    · skip
      refine f_know 70 rfl (dec_false h1) ?_
      refine f_condF rfl ?_
      refine f_exit rfl ?_
      refine f_inBlock ?_
      refine f_region ?_
      refine f_op rfl rfl (s_add rfl rfl) ?_
      refine f_op rfl rfl (s_mv (v := .int .i64 (w64 (v8 + 1))) rfl) ?_
      refine f_nil ?_
      refine f_inLoop ?_
      refine f_keep [0, 1, 2, 7, 11, 61, 62, 63] ?_
      exact hkt1 v1 v2 v3 v4 v5 v6 v7 (w64 (v8 + 1)) H

theorem s18_l5 {app : App} (happ : AppSim Try.prog app) (kt3 : Int → Int → Int → Sl → Nat → Int → Int → Hp → Option (Bool × Hp)) (hkt3 : ∀ (v1 : Int) (v2 : Int) (v3 : Int) (v4 : Sl) (v5 : Nat) (v6 : Int) (v7 : Int) (H : Hp), Fin Try.prog Try.f18 ret18 182 (todoAt (bodyOf Try.f18) [1, 1, 1, 1, 1, 1, 1, 0, 1, 0, 0] []) [(0, .int .i64 v1), (1, .int .i64 v2), (2, .int .i64 v3), (7, .sl v4), (11, .ptr v5 0), (103, .int .i64 v6), (104, .int .i64 v7)] H (kt3 v1 v2 v3 v4 v5 v6 v7 H)) : ∀ (k_ : Nat) (v1 : Int) (v2 : Int) (v3 : Int) (v4 : Sl) (v5 : Nat) (v6 : Int) (v7 : Int) (v8 : Int) (v9 : Int) (H : Hp), Fin Try.prog Try.f18 ret18 182 (todoAt (bodyOf Try.f18) [1, 1, 1, 1, 1, 1, 1, 0, 1, 0, 0, 1, 1, 0, 0, 1, 1, 0, 0] []) [(0, .int .i64 v1), (1, .int .i64 v2), (2, .int .i64 v3), (7, .sl v4), (11, .ptr v5 0), (16, .int .i64 v6), (17, .int .i64 v7), (103, .int .i64 v8), (104, .int .i64 v9)] H (r18_l5 app kt3 k_ v1 v2 v3 v4 v5 v6 v7 v8 v9 H) := by
  intro k_
  induction k_ with
  | zero => intro _ _ _ _ _ _ _ _ _ _; exact f_none
  | succ k_ ih =>
    intro v1 v2 v3 v4 v5 v6 v7 v8 v9 H
    rw [r18_l5]
    refine f_seq ?_
    refine f_seq ?_
    refine f_region ?_
    refine f_op rfl rfl (s_mv (v := .int .i64 v7) rfl) ?_
    refine f_op rfl rfl (s_mv (v := .int .i64 v1) rfl) ?_
    refine f_op rfl rfl (s_mul rfl rfl) ?_
    refine f_op rfl rfl (s_lss rfl rfl) ?_
    refine f_nil ?_
    refine f_if (fun h1 => ?_) (fun h1 => ?_)
    · skip
      refine f_know 112 rfl (dec_true h1) ?_
      refine f_condT rfl ?_
      refine f_skip ?_
      refine f_seq ?_
      refine f_block ?_
      refine f_seq ?_
      refine f_region ?_
      refine f_op rfl rfl (s_mv (v := .int .i64 v6) rfl) ?_
      refine f_op rfl rfl (s_mv (v := .int .i64 v7) rfl) ?_
      refine o_ck fun g2 => ?_
      refine f_op rfl rfl (s_idxA Try.underlying82 ty81 rfl rfl g2) ?_
      refine o_ck fun g3 => ?_
      refine f_op rfl rfl (s_idxA Try.underlying81 ty3 rfl rfl g3) ?_
      refine o_bind ?_; intro x4 hx4
      refine f_op rfl rfl (s_load Try.underlying3 rfl rfl (ldI_eq hx4)) ?_
      refine f_op rfl rfl (s_neq rfl rfl) ?_
      refine f_nil ?_
      refine f_if (fun h5 => ?_) (fun h5 => ?_)
      · skip
        refine f_know 120 rfl (dec_true h5) ?_
        refine f_condT rfl ?_
        refine f_seq ?_
        refine f_region ?_
        refine f_op rfl rfl (s_as (v := .bool false) rfl) ?_
        refine f_nil ?_
        exact f_ret (.tmp rfl (.nil)) rfl
      · skip
        refine f_know 120 rfl (dec_false h5) ?_
        refine f_condF rfl ?_
        refine f_skip ?_
        refine f_inBlock ?_
        refine f_region ?_
        refine f_op rfl rfl (s_mv (v := .int .i64 v7) rfl) ?_
        refine f_op rfl rfl (s_add rfl rfl) ?_
        refine f_op rfl rfl (s_as (v := .int .i64 (w64 (v7 + 1))) rfl) ?_
        refine f_nil ?_
        refine f_inLoop ?_
        refine f_keep [0, 1, 2, 7, 11, 16, 17, 103, 104] ?_
        exact ih v1 v2 v3 v4 v5 v6 (w64 (v7 + 1)) v8 v9 H
    · skip
      refine f_know 112 rfl (dec_false h1) ?_
      refine f_condF rfl ?_
      refine f_exit rfl ?_
      refine f_inBlock ?_
      refine f_region ?_
      refine f_op rfl rfl (s_add rfl rfl) ?_
      refine f_op rfl rfl (s_mv (v := .int .i64 (w64 (v9 + 1))) rfl) ?_
      refine f_nil ?_
      refine f_inLoop ?_
      refine f_keep [0, 1, 2, 7, 11, 103, 104] ?_
      exact hkt3 v1 v2 v3 v4 v5 v8 (w64 (v9 + 1)) H

theorem s18_l3 {app : App} (happ : AppSim Try.prog app) : ∀ (k_ : Nat) (v1 : Int) (v2 : Int) (v3 : Int) (v4 : Sl) (v5 : Nat) (v6 : Int) (v7 : Int) (H : Hp), Fin Try.prog Try.f18 ret18 182 (todoAt (bodyOf Try.f18) [1, 1, 1, 1, 1, 1, 1, 0, 1, 0, 0] []) [(0, .int .i64 v1), (1, .int .i64 v2), (2, .int .i64 v3), (7, .sl v4), (11, .ptr v5 0), (103, .int .i64 v6), (104, .int .i64 v7)] H (r18_l3 app k_ v1 v2 v3 v4 v5 v6 v7 H) := by
  intro k_
  induction k_ with
  | zero => intro _ _ _ _ _ _ _ _; exact f_none
  | succ k_ ih =>
    intro v1 v2 v3 v4 v5 v6 v7 H
    rw [r18_l3]
    refine f_seq ?_
    refine f_region ?_
    refine f_op rfl rfl (s_lss rfl rfl) ?_
    refine f_nil ?_
    refine f_seq ?_
    refine f_if (fun h1 => ?_) (fun h1 => ?_)
    · skip
      refine f_know 105 rfl (dec_true h1) ?_
      refine f_condT rfl ?_
      refine f_skip ?_
      refine f_seq ?_
      refine f_block ?_
      refine f_seq ?_
      refine f_region ?_
      refine f_op rfl rfl (s_mv (v := .int .i64 v7) rfl) ?_
      refine f_op rfl rfl (s_as (v := .int .i64 v7) rfl) ?_
      refine f_nil ?_
      refine f_seq ?_
      refine f_region ?_
      refine f_op rfl rfl (s_mv (v := .int .i64 v7) rfl) ?_
      refine f_op rfl rfl (s_add rfl rfl) ?_
      refine f_op rfl rfl (s_as (v := .int .i64 (w64 (v7 + 1))) rfl) ?_
      refine f_nil ?_
      refine f_block ?_
      refine f_loop ?_
      refine f_keep [0, 1, 2, 7, 11, 16, 17, 103, 104] ?_
      exact s18_l5 happ _ (fun v1_ v2_ v3_ v4_ v5_ v6_ v7_ H_ => ih v1_ v2_ v3_ v4_ v5_ v6_ v7_ H_) FUEL v1 v2 v3 v4 v5 v7 (w64 (v7 + 1)) v6 v7 H
    · skip
      refine f_know 105 rfl (dec_false h1) ?_
      refine f_condF rfl ?_
      refine f_exit rfl ?_
      refine f_seq ?_
      refine f_region ?_
      refine f_op rfl rfl (s_mv (v := .sl v4) rfl) ?_
      refine o_bind ?_; intro p2 hp2
      refine f_op rfl rfl (s_callF rfl ok63 (sim63 hp2)) ?_
      refine f_op rfl rfl (s_as (v := .sl p2.1) rfl) ?_
      refine f_nil ?_
      refine f_seq ?_
      refine f_ck fun g3 => ?_
      refine f_ck fun g4 => ?_
      refine f_draw (Φ := fun _ => True) [0, 0, 0, 0, 0, 0, 0, 0, 0, 0, 0, 0, 0, 0] (Trc.pure rfl rfl rfl (fun _ _ => s_mv (v := .int .i64 v2) rfl) (Trc.pure rfl rfl rfl (fun _ _ => s_convInt Try.underlying3 Try.underlying39 rfl) (Trc.pure rfl rfl rfl (fun _ _ => s_mv (v := .sl v4) rfl) (Trc.pure rfl rfl rfl (fun _ _ => s_lenS rfl Try.underlying72 rfl) (Trc.pure rfl rfl rfl (fun _ _ => s_convInt Try.underlying3 Try.underlying39 rfl) (Trc.pure rfl rfl rfl (fun _ _ => s_rem rfl rfl g3) (Trc.pure rfl rfl rfl (fun _ _ => s_mv (v := .int .i64 v3) rfl) (Trc.pure rfl rfl rfl (fun _ _ => s_convInt Try.underlying3 Try.underlying39 rfl) (Trc.pure rfl rfl rfl (fun _ _ => s_mv (v := .sl v4) rfl) (Trc.pure rfl rfl rfl (fun _ _ => s_lenS rfl Try.underlying72 rfl) (Trc.pure rfl rfl rfl (fun _ _ => s_convInt Try.underlying3 Try.underlying39 rfl) (Trc.pure rfl rfl rfl (fun _ _ => s_rem rfl rfl g4) (Trc.pure rfl rfl rfl (fun _ _ => s_as (v := .int .u64 (Int.tmod (IntKind.wrap .u64 (v2)) (IntKind.wrap .u64 ((v4.len : Int))))) rfl) (Trc.pure rfl rfl rfl (fun _ _ => s_as (v := .int .u64 (Int.tmod (IntKind.wrap .u64 (v3)) (IntKind.wrap .u64 ((v4.len : Int))))) rfl) (Trc.nil (trivial)))))))))))))))) rfl (by decide +kernel) mixed ?_
      refine f_seq ?_
      refine f_region ?_
      refine f_op rfl rfl (s_mv (v := .sl p2.1) rfl) ?_
      refine f_op rfl rfl (s_mv (v := .int .u64 (Int.tmod (IntKind.wrap .u64 (v2)) (IntKind.wrap .u64 ((v4.len : Int))))) rfl) ?_
      refine o_ck fun g5 => ?_
      refine f_op rfl rfl (s_idx Try.underlying72 ty40 rfl rfl g5) ?_
      refine o_bind ?_; intro x6 hx6
      refine f_op rfl rfl (s_load Try.underlying40 rfl rfl (ldSl_eq hx6)) ?_
      refine f_op rfl rfl (s_as (v := .sl x6) rfl) ?_
      refine f_nil ?_
      refine f_seq ?_
      refine f_region ?_
      refine f_op rfl rfl (s_mv (v := .sl p2.1) rfl) ?_
      refine f_op rfl rfl (s_mv (v := .int .u64 (Int.tmod (IntKind.wrap .u64 (v2)) (IntKind.wrap .u64 ((v4.len : Int))))) rfl) ?_
      refine f_op rfl rfl (s_mv (v := .sl p2.1) rfl) ?_
      refine f_op rfl rfl (s_mv (v := .int .u64 (Int.tmod (IntKind.wrap .u64 (v3)) (IntKind.wrap .u64 ((v4.len : Int))))) rfl) ?_
      refine o_ck fun g7 => ?_
      refine f_op rfl rfl (s_idx Try.underlying72 ty40 rfl rfl g7) ?_
      refine o_bind ?_; intro x8 hx8
      refine f_op rfl rfl (s_load Try.underlying40 rfl rfl (ldSl_eq hx8)) ?_
      refine o_ck fun g9 => ?_
      refine f_op rfl rfl (s_idx Try.underlying72 ty40 rfl rfl g9) ?_
      refine o_bind ?_; intro H10 hH10
      refine f_op rfl rfl (s_store (s := 1) ty40 rfl rfl rfl hH10) ?_
      refine f_nil ?_
      refine f_seq ?_
      refine f_region ?_
      refine f_op rfl rfl (s_mv (v := .sl p2.1) rfl) ?_
      refine f_op rfl rfl (s_mv (v := .int .u64 (Int.tmod (IntKind.wrap .u64 (v3)) (IntKind.wrap .u64 ((v4.len : Int))))) rfl) ?_
      refine f_op rfl rfl (s_mv (v := .sl x6) rfl) ?_
      refine o_ck fun g11 => ?_
      refine f_op rfl rfl (s_idx Try.underlying72 ty40 rfl rfl g11) ?_
      refine o_bind ?_; intro H12 hH12
      refine f_op rfl rfl (s_store (s := 1) ty40 rfl rfl rfl hH12) ?_
      refine f_nil ?_
      refine f_seq ?_
      refine f_region ?_
      refine f_op rfl rfl (s_mv (v := .int .i64 v1) rfl) ?_
      refine f_op rfl rfl (s_mv (v := .sl p2.1) rfl) ?_
      refine o_bind ?_; intro p13 hp13
      refine f_op rfl rfl (s_callF rfl ok63 (sim63 hp13)) ?_
      refine o_bind ?_; intro p14 hp14
      refine f_op rfl rfl (s_callF rfl ok62 (sim62 happ hp14)) ?_
      refine f_op rfl rfl (s_mv (v := .tup [.bool p14.1.1, .int .i64 p14.1.2]) rfl) ?_
      refine f_op rfl rfl (s_extract (r := .bool p14.1.1) rfl rfl) ?_
      refine f_op rfl rfl (s_extract (r := .int .i64 p14.1.2) rfl rfl) ?_
      refine f_op rfl rfl (s_as (v := .bool p14.1.1) rfl) ?_
      refine f_op rfl rfl (s_as (v := .int .i64 p14.1.2) rfl) ?_
      refine f_nil ?_
      refine f_seq ?_
      refine f_region ?_
      refine f_op rfl rfl (s_mv (v := .int .i64 v1) rfl) ?_
      refine f_op rfl rfl (s_mv (v := .sl p2.1) rfl) ?_
      refine o_ck fun g15 => ?_
      refine f_op rfl rfl (s_slice Try.underlying72 ty40 rfl rfl rfl g15.1 g15.2) ?_
      refine o_bind ?_; intro p16 hp16
      refine f_op rfl rfl (s_callF rfl ok63 (sim63 hp16)) ?_
      refine o_bind ?_; intro p17 hp17
      refine f_op rfl rfl (s_callF rfl ok62 (sim62 happ hp17)) ?_
      refine f_op rfl rfl (s_mv (v := .tup [.bool p17.1.1, .int .i64 p17.1.2]) rfl) ?_
      refine f_op rfl rfl (s_extract (r := .bool p17.1.1) rfl rfl) ?_
      refine f_op rfl rfl (s_extract (r := .int .i64 p17.1.2) rfl rfl) ?_
      refine f_op rfl rfl (s_as (v := .bool p17.1.1) rfl) ?_
      refine f_op rfl rfl (s_as (v := .int .i64 p17.1.2) rfl) ?_
      refine f_nil ?_
      refine f_seq ?_
      refine f_region ?_
      refine f_op rfl rfl (s_mv (v := .bool p14.1.1) rfl) ?_
      refine f_op rfl rfl (s_mv (v := .bool p14.1.1) rfl) ?_
      refine o_if (fun h18 => ?_) (fun h18 => ?_)
      · skip
        refine o_know 167 rfl (bool_T h18) ?_
        refine f_op rfl rfl (s_mv (v := .bool p17.1.1) rfl) ?_
        refine f_op rfl rfl (s_not rfl) ?_
        refine f_op rfl rfl (s_pickT (v := .bool (!p17.1.1)) rfl rfl) ?_
        refine f_op rfl rfl (s_mv (v := .bool (!p17.1.1)) rfl) ?_
        refine o_if (fun h19 => ?_) (fun h19 => ?_)
        · skip
          refine o_know 171 rfl (bool_notT h19) ?_
          refine f_no rfl rfl ?_
          refine f_no rfl rfl ?_
          refine f_op rfl rfl (s_pickF (v := .bool false) rfl rfl) ?_
          refine f_op rfl rfl (s_mv (v := .bool false) rfl) ?_
          refine f_no rfl rfl ?_
          refine f_no rfl rfl ?_
          refine f_op rfl rfl (s_pickF (v := .bool false) rfl rfl) ?_
          refine f_op rfl rfl (s_mv (v := .bool false) rfl) ?_
          refine f_no rfl rfl ?_
          refine f_op rfl rfl (s_pickF (v := .bool false) rfl rfl) ?_
          refine f_op rfl rfl (s_as (v := .bool false) rfl) ?_
          refine f_nil ?_
          exact f_ret (.tmp rfl (.nil)) rfl
        · skip
          refine o_know 171 rfl (bool_notF h19) ?_
          refine f_op rfl rfl (s_mv (v := .int .i64 p14.1.2) rfl) ?_
          refine f_op rfl rfl (s_eql rfl rfl) ?_
          refine f_op rfl rfl (s_pickT (v := .bool (decide (p14.1.2 = 0))) rfl rfl) ?_
          refine f_op rfl rfl (s_mv (v := .bool (decide (p14.1.2 = 0))) rfl) ?_
          refine o_if (fun h20 => ?_) (fun h20 => ?_)
          · skip
            refine o_know 175 rfl (dec_true h20) ?_
            refine f_op rfl rfl (s_mv (v := .int .i64 p17.1.2) rfl) ?_
            refine f_op rfl rfl (s_eql rfl rfl) ?_
            refine f_op rfl rfl (s_pickT (v := .bool (decide (p17.1.2 = 0))) rfl rfl) ?_
            refine f_op rfl rfl (s_mv (v := .bool (decide (p17.1.2 = 0))) rfl) ?_
            refine o_if (fun h21 => ?_) (fun h21 => ?_)
            · skip
              refine o_know 179 rfl (dec_true h21) ?_
              refine o_bind ?_; intro p22 hp22
              refine f_op rfl rfl (s_callF rfl ok23 (sim23 happ hp22)) ?_
              refine f_op rfl rfl (s_pickT (v := .bool p22.1) rfl rfl) ?_
              refine f_op rfl rfl (s_as (v := .bool p22.1) rfl) ?_
              refine f_nil ?_
              exact f_ret (.tmp rfl (.nil)) rfl
            · skip
              refine o_know 179 rfl (dec_false h21) ?_
              refine f_no rfl rfl ?_
              refine f_op rfl rfl (s_pickF (v := .bool false) rfl rfl) ?_
              refine f_op rfl rfl (s_as (v := .bool false) rfl) ?_
              refine f_nil ?_
              exact f_ret (.tmp rfl (.nil)) rfl
          · skip
            refine o_know 175 rfl (dec_false h20) ?_
            refine f_no rfl rfl ?_
            refine f_no rfl rfl ?_
            refine f_op rfl rfl (s_pickF (v := .bool false) rfl rfl) ?_
            refine f_op rfl rfl (s_mv (v := .bool false) rfl) ?_
            refine f_no rfl rfl ?_
            refine f_op rfl rfl (s_pickF (v := .bool false) rfl rfl) ?_
            refine f_op rfl rfl (s_as (v := .bool false) rfl) ?_
            refine f_nil ?_
            exact f_ret (.tmp rfl (.nil)) rfl
      · skip
        refine o_know 167 rfl (bool_F h18) ?_
        refine f_no rfl rfl ?_
        refine f_no rfl rfl ?_
        refine f_op rfl rfl (s_pickF (v := .bool false) rfl rfl) ?_
        refine f_op rfl rfl (s_mv (v := .bool false) rfl) ?_
        refine f_no rfl rfl ?_
        refine f_no rfl rfl ?_
        refine f_op rfl rfl (s_pickF (v := .bool false) rfl rfl) ?_
        refine f_op rfl rfl (s_mv (v := .bool false) rfl) ?_
        refine f_no rfl rfl ?_
        refine f_no rfl rfl ?_
        refine f_op rfl rfl (s_pickF (v := .bool false) rfl rfl) ?_
        refine f_op rfl rfl (s_mv (v := .bool false) rfl) ?_
        refine f_no rfl rfl ?_
        refine f_op rfl rfl (s_pickF (v := .bool false) rfl rfl) ?_
        refine f_op rfl rfl (s_as (v := .bool false) rfl) ?_
        refine f_nil ?_
        exact f_ret (.tmp rfl (.nil)) rfl

theorem s18_l1 {app : App} (happ : AppSim Try.prog app) : ∀ (k_ : Nat) (v1 : Int) (v2 : Int) (v3 : Int) (v4 : Sl) (v5 : Nat) (v6 : Sl) (v7 : Int) (v8 : Int) (H : Hp), Fin Try.prog Try.f18 ret18 182 (todoAt (bodyOf Try.f18) [1, 1, 1, 1, 1, 1, 0, 1, 0, 0] []) [(0, .int .i64 v1), (1, .int .i64 v2), (2, .int .i64 v3), (7, .sl v4), (11, .ptr v5 0), (61, .sl v6), (62, .int .i64 v7), (63, .int .i64 v8)] H (r18_l1 app k_ v1 v2 v3 v4 v5 v6 v7 v8 H) := by
  intro k_
  induction k_ with
  | zero => intro _ _ _ _ _ _ _ _ _; exact f_none
  | succ k_ ih =>
    intro v1 v2 v3 v4 v5 v6 v7 v8 H
    rw [r18_l1]
    refine f_seq ?_
    refine f_region ?_
    refine f_op rfl rfl (s_lss rfl rfl) ?_
    refine f_nil ?_
    refine f_seq ?_
    refine f_if (fun h1 => ?_) (fun h1 => ?_)
    · skip
      refine f_know 64 rfl (dec_true h1) ?_
      refine f_condT rfl ?_
      refine f_skip ?_
      refine f_seq ?_
      refine f_block ?_
      refine f_seq ?_
      refine f_region ?_
      refine o_ck fun g2 => ?_
      refine f_op rfl rfl (s_idx Try.underlying72 ty40 rfl rfl g2) ?_
      refine o_bind ?_; intro x3 hx3
      refine f_op rfl rfl (s_load Try.underlying40 rfl rfl (ldSl_eq hx3)) ?_
      refine f_op rfl rfl (s_as (v := .sl x3) rfl) ?_
      refine f_nil ?_
      refine f_seq ?_
      refine f_region ?_
      refine f_op rfl rfl (s_mv (v := .sl x3) rfl) ?_
      refine f_op rfl rfl (s_lenS rfl Try.underlying40 rfl) ?_
      refine f_op rfl rfl (s_mv (v := .int .i64 0) rfl) ?_
      refine f_nil ?_
      refine f_block ?_
      refine f_loop ?_
      refine f_keep [0, 1, 2, 7, 11, 61, 62, 63, 67, 68, 69] ?_
      exact s18_l2 happ _ (fun v1_ v2_ v3_ v4_ v5_ v6_ v7_ v8_ H_ => ih v1_ v2_ v3_ v4_ v5_ v6_ v7_ v8_ H_) FUEL v1 v2 v3 v4 v5 v6 v7 v8 x3 (x3.len : Int) 0 H
    · skip
      refine f_know 64 rfl (dec_false h1) ?_
      refine f_condF rfl ?_
      refine f_exit rfl ?_
      refine f_seq ?_
      refine f_seq ?_
      refine f_region ?_
      refine f_op rfl rfl (s_mv (v := .int .i64 v1) rfl) ?_
      refine f_op rfl rfl (s_mul rfl rfl) ?_
      refine f_op rfl rfl (s_mv (v := .int .i64 0) rfl) ?_
      refine f_nil ?_
      refine f_block ?_
      refine f_loop ?_
      refine f_keep [0, 1, 2, 7, 11, 103, 104] ?_
      exact s18_l3 happ FUEL v1 v2 v3 v4 v5 (w64 (2 * v1)) 0 H

theorem s18_j0 {app : App} (happ : AppSim Try.prog app) (v1 : Int) (v2 : Int) (v3 : Int) (v4 : Sl) (v5 : Bool) (H : Hp) : Fin Try.prog Try.f18 ret18 182 (todoAt (bodyOf Try.f18) [1, 1, 1, 1, 0, 1] []) [(0, .int .i64 v1), (1, .int .i64 v2), (2, .int .i64 v3), (7, .sl v4), (60, .bool v5)] H (r18_j0 app v1 v2 v3 v4 v5 H) := by
  unfold r18_j0
  refine f_if (fun h1 => ?_) (fun h1 => ?_)
  · skip
    refine f_know 60 rfl (bool_T h1) ?_
    refine f_condT rfl ?_
    refine f_seq ?_
    refine f_region ?_
    refine f_op rfl rfl (s_as (v := .bool false) rfl) ?_
    refine f_nil ?_
    exact f_ret (.tmp rfl (.nil)) rfl
  · skip
    refine f_know 60 rfl (bool_F h1) ?_
    refine f_condF rfl ?_
    refine f_skip ?_
    refine f_seq ?_
    refine f_region ?_
    refine f_op rfl rfl (s_alloc (zs := [.int .i64 0, .int .i64 0, .int .i64 0, .int .i64 0, .int .i64 0, .int .i64 0, .int .i64 0, .int .i64 0, .int .i64 0, .int .i64 0, .int .i64 0, .int .i64 0, .int .i64 0, .int .i64 0, .int .i64 0, .int .i64 0, .int .i64 0, .int .i64 0, .int .i64 0, .int .i64 0, .int .i64 0, .int .i64 0, .int .i64 0, .int .i64 0, .int .i64 0, .int .i64 0, .int .i64 0, .int .i64 0, .int .i64 0, .int .i64 0, .int .i64 0, .int .i64 0, .int .i64 0, .int .i64 0, .int .i64 0, .int .i64 0, .int .i64 0, .int .i64 0, .int .i64 0, .int .i64 0, .int .i64 0, .int .i64 0, .int .i64 0, .int .i64 0, .int .i64 0, .int .i64 0, .int .i64 0, .int .i64 0, .int .i64 0, .int .i64 0, .int .i64 0, .int .i64 0, .int .i64 0, .int .i64 0, .int .i64 0, .int .i64 0, .int .i64 0, .int .i64 0, .int .i64 0, .int .i64 0, .int .i64 0, .int .i64 0, .int .i64 0, .int .i64 0]) ty82 rfl rfl) ?_
    refine o_hp ?_; intro H2 hH2
    refine f_nil ?_
    refine f_seq ?_
    refine f_seq ?_
    refine f_region ?_
    refine f_op rfl rfl (s_mv (v := .sl v4) rfl) ?_
    refine f_op rfl rfl (s_lenS rfl Try.underlying72 rfl) ?_
    refine f_op rfl rfl (s_mv (v := .int .i64 0) rfl) ?_
    refine f_nil ?_
    refine f_block ?_
    refine f_loop ?_
    refine f_keep [0, 1, 2, 7, 11, 61, 62, 63] ?_
    exact s18_l1 happ FUEL v1 v2 v3 v4 H.n v4 (v4.len : Int) 0 H2

theorem sim18 {app : App} (happ : AppSim Try.prog app) {a0 : Int} {a1 : Int} {a2 : Int} {H : Hp} {p : Bool × Hp} (h : r18 app a0 a1 a2 H = some p) : CallSim Try.prog 18 [.int .i64 a0, .int .i64 a1, .int .i64 a2] H (.bool p.1) p.2 := by
  refine callSim (fn := Try.f18) (ret := ret18) Try.func18 rfl Try.ntmps18 rfl ?_ h
  unfold r18
  refine f_seq ?_
  refine f_region ?_
  refine f_op rfl rfl (s_as (v := .bool false) rfl) ?_
  refine f_nil ?_
  refine f_seq ?_
  refine f_region ?_
  refine f_op rfl rfl (s_mv (v := .int .i64 a0) rfl) ?_
  refine f_op rfl rfl (s_convInt Try.underlying3 Try.underlying39 rfl) ?_
  refine f_op rfl rfl (s_rem rfl rfl (by decide)) ?_
  refine f_op rfl rfl (s_convInt Try.underlying39 Try.underlying3 rfl) ?_
  refine f_op rfl rfl (s_add rfl rfl) ?_
  refine f_op rfl rfl (s_as (v := .int .i64 (w64 (1 + (w64 (Int.tmod (IntKind.wrap .u64 (a0)) 4))))) rfl) ?_
  refine f_nil ?_
  refine f_seq ?_
  refine f_region ?_
  refine f_op rfl rfl (s_mv (v := .int .i64 (w64 (1 + (w64 (Int.tmod (IntKind.wrap .u64 (a0)) 4))))) rfl) ?_
  refine o_bind ?_; intro p1 hp1
  refine f_op rfl rfl (s_callF rfl ok68 (sim68 happ hp1)) ?_
  refine f_op rfl rfl (s_mv (v := .tup [.sl p1.1.1, .int .i64 p1.1.2]) rfl) ?_
  refine f_op rfl rfl (s_extract (r := .sl p1.1.1) rfl rfl) ?_
  refine f_op rfl rfl (s_extract (r := .int .i64 p1.1.2) rfl rfl) ?_
  refine f_op rfl rfl (s_as (v := .sl p1.1.1) rfl) ?_
  refine f_op rfl rfl (s_as (v := .int .i64 p1.1.2) rfl) ?_
  refine f_nil ?_
  refine f_seq ?_
  refine f_region ?_
  refine f_op rfl rfl (s_mv (v := .int .i64 (w64 (1 + (w64 (Int.tmod (IntKind.wrap .u64 (a0)) 4))))) rfl) ?_
  refine f_op rfl rfl (s_mv (v := .sl p1.1.1) rfl) ?_
  refine o_bind ?_; intro p2 hp2
  refine f_op rfl rfl (s_callF rfl ok63 (sim63 hp2)) ?_
  refine o_bind ?_; intro p3 hp3
  refine f_op rfl rfl (s_callF rfl ok62 (sim62 happ hp3)) ?_
  refine f_op rfl rfl (s_mv (v := .tup [.bool p3.1.1, .int .i64 p3.1.2]) rfl) ?_
  refine f_op rfl rfl (s_extract (r := .bool p3.1.1) rfl rfl) ?_
  refine f_op rfl rfl (s_extract (r := .int .i64 p3.1.2) rfl rfl) ?_
  refine f_op rfl rfl (s_as (v := .bool p3.1.1) rfl) ?_
  refine f_op rfl rfl (s_as (v := .int .i64 p3.1.2) rfl) ?_
  refine f_nil ?_
  refine f_seq ?_
  refine f_seq ?_
  refine f_region ?_
  refine f_op rfl rfl (s_mv (v := .int .i64 p1.1.2) rfl) ?_
  refine f_op rfl rfl (s_neq rfl rfl) ?_
  refine f_op rfl rfl (s_mv (v := .bool (decide (p1.1.2 ≠ 0))) rfl) ?_
  refine o_if (fun h4 => ?_) (fun h4 => ?_)
  · skip
    refine o_know 45 rfl (dec_true h4) ?_
    refine f_no rfl rfl ?_
    refine f_no rfl rfl ?_
    refine f_op rfl rfl (s_pickT (v := .bool true) rfl rfl) ?_
    refine f_op rfl rfl (s_mv (v := .bool true) rfl) ?_
    refine f_no rfl rfl ?_
    refine f_no rfl rfl ?_
    refine f_op rfl rfl (s_pickT (v := .bool true) rfl rfl) ?_
    refine f_op rfl rfl (s_mv (v := .bool true) rfl) ?_
    refine f_no rfl rfl ?_
    refine f_no rfl rfl ?_
    refine f_no rfl rfl ?_
    refine f_no rfl rfl ?_
    refine f_no rfl rfl ?_
    refine f_no rfl rfl ?_
    refine f_op rfl rfl (s_pickT (v := .bool true) rfl rfl) ?_
    refine f_nil ?_
    refine f_keep [0, 1, 2, 7, 60] ?_
    exact s18_j0 happ (w64 (1 + (w64 (Int.tmod (IntKind.wrap .u64 (a0)) 4)))) a1 a2 p1.1.1 true p3.2
  · skip
    refine o_know 45 rfl (dec_false h4) ?_
    refine f_op rfl rfl (s_mv (v := .int .i64 p3.1.2) rfl) ?_
    refine f_op rfl rfl (s_neq rfl rfl) ?_
    refine f_op rfl rfl (s_pickF (v := .bool (decide (p3.1.2 ≠ 0))) rfl rfl) ?_
    refine f_op rfl rfl (s_mv (v := .bool (decide (p3.1.2 ≠ 0))) rfl) ?_
    refine o_if (fun h5 => ?_) (fun h5 => ?_)
    · skip
      refine o_know 49 rfl (dec_true h5) ?_
      refine f_no rfl rfl ?_
      refine f_no rfl rfl ?_
      refine f_op rfl rfl (s_pickT (v := .bool true) rfl rfl) ?_
      refine f_op rfl rfl (s_mv (v := .bool true) rfl) ?_
      refine f_no rfl rfl ?_
      refine f_no rfl rfl ?_
      refine f_no rfl rfl ?_
      refine f_no rfl rfl ?_
      refine f_no rfl rfl ?_
      refine f_no rfl rfl ?_
      refine f_op rfl rfl (s_pickT (v := .bool true) rfl rfl) ?_
      refine f_nil ?_
      refine f_keep [0, 1, 2, 7, 60] ?_
      exact s18_j0 happ (w64 (1 + (w64 (Int.tmod (IntKind.wrap .u64 (a0)) 4)))) a1 a2 p1.1.1 true p3.2
    · skip
      refine o_know 49 rfl (dec_false h5) ?_
      refine f_op rfl rfl (s_mv (v := .bool p3.1.1) rfl) ?_
      refine f_op rfl rfl (s_not rfl) ?_
      refine f_op rfl rfl (s_pickF (v := .bool (!p3.1.1)) rfl rfl) ?_
      refine f_op rfl rfl (s_mv (v := .bool (!p3.1.1)) rfl) ?_
      refine o_if (fun h6 => ?_) (fun h6 => ?_)
      · skip
        refine o_know 53 rfl (bool_notT h6) ?_
        refine f_op rfl rfl (s_mv (v := .sl p1.1.1) rfl) ?_
        refine f_op rfl rfl (s_lenS rfl Try.underlying72 rfl) ?_
        refine f_op rfl rfl (s_mv (v := .int .i64 (w64 (1 + (w64 (Int.tmod (IntKind.wrap .u64 (a0)) 4))))) rfl) ?_
        refine f_op rfl rfl (s_mul rfl rfl) ?_
        refine f_op rfl rfl (s_sub rfl rfl) ?_
        refine f_op rfl rfl (s_neq rfl rfl) ?_
        refine f_op rfl rfl (s_pickF (v := .bool (decide ((p1.1.1.len : Int) ≠ (w64 ((w64 (2 * (w64 (1 + (w64 (Int.tmod (IntKind.wrap .u64 (a0)) 4)))))) - 1))))) rfl rfl) ?_
        refine f_nil ?_
        refine f_keep [0, 1, 2, 7, 60] ?_
        exact s18_j0 happ (w64 (1 + (w64 (Int.tmod (IntKind.wrap .u64 (a0)) 4)))) a1 a2 p1.1.1 (decide ((p1.1.1.len : Int) ≠ (w64 ((w64 (2 * (w64 (1 + (w64 (Int.tmod (IntKind.wrap .u64 (a0)) 4)))))) - 1)))) p3.2
      · skip
        refine o_know 53 rfl (bool_notF h6) ?_
        refine f_no rfl rfl ?_
        refine f_no rfl rfl ?_
        refine f_no rfl rfl ?_
        refine f_no rfl rfl ?_
        refine f_no rfl rfl ?_
        refine f_no rfl rfl ?_
        refine f_op rfl rfl (s_pickT (v := .bool true) rfl rfl) ?_
        refine f_nil ?_
        refine f_keep [0, 1, 2, 7, 60] ?_
        exact s18_j0 happ (w64 (1 + (w64 (Int.tmod (IntKind.wrap .u64 (a0)) 4)))) a1 a2 p1.1.1 true p3.2

/- 36 slices.Clone[[]int,int] -/
theorem ok36 : FnOk Try.prog 36 := ⟨⟨Try.f36, Try.func36, by kernel_rfl, rfl⟩⟩
theorem sim36 {a0 : Sl} {H : Hp} {p : Sl × Hp} (h : r36 a0 H = some p) : CallSim Try.prog 36 [.sl a0] H (.sl p.1) p.2 := by
  refine callSim (fn := Try.f36) (ret := ret36) Try.func36 rfl Try.ntmps36 rfl ?_ h
  unfold r36
  refine f_seq ?_
  refine f_region ?_
  refine f_op rfl rfl (s_as (v := .sl ⟨true, 0, 0, 0, 0, 0⟩) rfl) ?_
  refine f_nil ?_
  refine f_seq ?_
  refine f_seq ?_
  refine f_region ?_
  refine f_op rfl rfl (s_mv (v := .sl a0) rfl) ?_
  refine f_op rfl rfl (s_eqNil Try.underlying22 rfl rfl) ?_
  refine f_nil ?_
  refine f_if (fun h1 => ?_) (fun h1 => ?_)
  · skip
    refine f_know 4 rfl (bool_T h1) ?_
    refine f_condT rfl ?_
    refine f_seq ?_
    refine f_region ?_
    refine f_op rfl rfl (s_as (v := .sl ⟨true, 0, 0, 0, 0, 0⟩) rfl) ?_
    refine f_nil ?_
    exact f_ret (.tmp rfl (.nil)) rfl
  · skip
    refine f_know 4 rfl (bool_F h1) ?_
    refine f_condF rfl ?_
    refine f_skip ?_
    refine f_seq ?_
    refine f_region ?_
    refine f_op rfl rfl (s_buildSlice0 Try.underlying22 ty3) ?_
    refine f_op rfl rfl (s_mv (v := .sl a0) rfl) ?_
    refine o_bind ?_; intro x2 hx2
    refine o_ck fun g3 => ?_
    refine o_bind ?_; intro x4 hx4
    refine f_op rfl rfl (s_append rfl rfl Try.underlying22 Try.underlying22 ty3 (by decide) rfl (by decide) rfl rfl hx2 g3 hx4) ?_
    refine f_op rfl rfl (s_as (v := .sl x4.1) rfl) ?_
    refine f_nil ?_
    exact f_ret (.tmp rfl (.nil)) rfl

/- 74 congou/pairs.First$1 -/
theorem ok74 : FnOk Try.prog 74 := ⟨⟨Try.f74, Try.func74, by kernel_rfl, rfl⟩⟩
theorem sim74 {a0 : Sl} {c0 : Nat} {H : Hp} {p : Bool × Hp} (h : r74 a0 c0 H = some p) : CallSim Try.prog 74 [.sl a0, .ptr c0 0] H (.bool p.1) p.2 := by
  refine callSim (fn := Try.f74) (ret := ret74) Try.func74 rfl Try.ntmps74 rfl ?_ h
  unfold r74
  refine f_seq ?_
  refine f_region ?_
  refine f_op rfl rfl (s_as (v := .bool false) rfl) ?_
  refine f_nil ?_
  refine f_seq ?_
  refine f_region ?_
  refine f_op rfl rfl (s_mv (v := .sl a0) rfl) ?_
  refine o_bind ?_; intro p1 hp1
  refine f_op rfl rfl (s_callF rfl ok36 (sim36 hp1)) ?_
  refine o_bind ?_; intro H2 hH2
  refine f_op rfl rfl (s_store (s := 1) ty22 rfl rfl rfl hH2) ?_
  refine f_nil ?_
  refine f_seq ?_
  refine f_region ?_
  refine f_op rfl rfl (s_as (v := .bool false) rfl) ?_
  refine f_nil ?_
  exact f_ret (.tmp rfl (.nil)) rfl

/- 108 slices.Index[[]int,int] -/
theorem ok108 : FnOk Try.prog 108 := ⟨⟨Try.f108, Try.func108, by kernel_rfl, rfl⟩⟩
theorem s108_l0 : ∀ (k_ : Nat) (v1 : Sl) (v2 : Int) (v3 : Int) (v4 : Int) (H : Hp), Fin Try.prog Try.f108 ret108 19 (todoAt (bodyOf Try.f108) [1, 0, 1, 0, 0] []) [(0, .sl v1), (1, .int .i64 v2), (7, .int .i64 v3), (8, .int .i64 v4)] H (r108_l0 k_ v1 v2 v3 v4 H) := by
  intro k_
  induction k_ with
  | zero => intro _ _ _ _ _; exact f_none
  | succ k_ ih =>
    intro v1 v2 v3 v4 H
    rw [r108_l0]
    refine f_seq ?_
    refine f_region ?_
    refine f_op rfl rfl (s_lss rfl rfl) ?_
    refine f_nil ?_
    refine f_seq ?_
    refine f_if (fun h1 => ?_) (fun h1 => ?_)
    · skip
      refine f_know 9 rfl (dec_true h1) ?_
      refine f_condT rfl ?_
      refine f_skip ?_
      refine f_seq ?_
      refine f_block ?_
      refine f_seq ?_
      refine f_region ?_
      refine f_op rfl rfl (s_mv (v := .int .i64 v4) rfl) ?_
      refine f_op rfl rfl (s_as (v := .int .i64 v4) rfl) ?_
      refine f_nil ?_
      refine f_seq ?_
      refine f_region ?_
      refine f_op rfl rfl (s_mv (v := .int .i64 v2) rfl) ?_
      refine f_op rfl rfl (s_mv (v := .sl v1) rfl) ?_
      refine f_op rfl rfl (s_mv (v := .int .i64 v4) rfl) ?_
      refine o_ck fun g2 => ?_
      refine f_op rfl rfl (s_idx Try.underlying22 ty3 rfl rfl g2) ?_
      refine o_bind ?_; intro x3 hx3
      refine f_op rfl rfl (s_load Try.underlying3 rfl rfl (ldI_eq hx3)) ?_
      refine f_op rfl rfl (s_eql rfl rfl) ?_
      refine f_nil ?_
      refine f_if (fun h4 => ?_) (fun h4 => ?_)
      · skip
        refine f_know 16 rfl (dec_true h4) ?_
        refine f_condT rfl ?_
        refine f_seq ?_
        refine f_region ?_
        refine f_op rfl rfl (s_mv (v := .int .i64 v4) rfl) ?_
        refine f_op rfl rfl (s_as (v := .int .i64 v4) rfl) ?_
        refine f_nil ?_
        exact f_ret (.tmp rfl (.nil)) rfl
      · skip
        refine f_know 16 rfl (dec_false h4) ?_
        refine f_condF rfl ?_
        refine f_skip ?_
        refine f_inBlock ?_
        refine f_region ?_
        refine f_op rfl rfl (s_add rfl rfl) ?_
        refine f_op rfl rfl (s_mv (v := .int .i64 (w64 (v4 + 1))) rfl) ?_
        refine f_nil ?_
        refine f_inLoop ?_
        refine f_keep [0, 1, 7, 8] ?_
        exact ih v1 v2 v3 (w64 (v4 + 1)) H
    · skip
      refine f_know 9 rfl (dec_false h1) ?_
      refine f_condF rfl ?_
      refine f_exit rfl ?_
      refine f_seq ?_
      refine f_region ?_
      refine f_op rfl rfl (s_as (v := .int .i64 (-1)) rfl) ?_
      refine f_nil ?_
      exact f_ret (.tmp rfl (.nil)) rfl

theorem sim108 {a0 : Sl} {a1 : Int} {H : Hp} {p : Int × Hp} (h : r108 a0 a1 H = some p) : CallSim Try.prog 108 [.sl a0, .int .i64 a1] H (.int .i64 p.1) p.2 := by
  refine callSim (fn := Try.f108) (ret := ret108) Try.func108 rfl Try.ntmps108 rfl ?_ h
  unfold r108
  refine f_seq ?_
  refine f_region ?_
  refine f_op rfl rfl (s_as (v := .int .i64 0) rfl) ?_
  refine f_nil ?_
  refine f_seq ?_
  refine f_seq ?_
  refine f_region ?_
  refine f_op rfl rfl (s_mv (v := .sl a0) rfl) ?_
  refine f_op rfl rfl (s_lenS rfl Try.underlying22 rfl) ?_
  refine f_op rfl rfl (s_mv (v := .int .i64 0) rfl) ?_
  refine f_nil ?_
  refine f_block ?_
  refine f_loop ?_
  refine f_keep [0, 1, 7, 8] ?_
  exact s108_l0 FUEL a0 a1 (a0.len : Int) 0 H

end Go.Lt.P8
