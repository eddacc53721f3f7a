/- PRINTED BY A PROGRAM OF OURS: what each function that 'PairsPins' reaches computes on the abstract heap, and that the translated code does just that. Nothing is asked of the input. -/
import Derived.Test.YthmhdbmpeepmaaaG10P0
set_option linter.unusedVariables false
set_option linter.unusedSimpArgs false
set_option maxRecDepth 100000
set_option maxHeartbeats 4000000
namespace Go.Lt.P8
open Go Go.Lt Go.Proofs
/- 83 slices.DeleteFunc[[][]int,[]int] -/
theorem ok83 : FnOk Try.prog 83 := ⟨⟨Try.f83, Try.func83, by kernel_rfl, rfl⟩⟩
theorem s83_l0 {app : App} (happ : AppSim Try.prog app) : ∀ (k_ : Nat) (v1 : Sl) (v2 : AV) (v3 : Int) (v4 : Int) (H : Hp), Fin Try.prog Try.f83 ret83 42 (todoAt (bodyOf Try.f83) [1, 1, 1, 0, 1, 0, 0] []) [(0, .sl v1), (1, v2), (5, .int .i64 v3), (6, .int .i64 v4)] H (r83_l0 app k_ v1 v2 v3 v4 H) := by
  intro k_
  induction k_ with
  | zero => intro _ _ _ _ _; exact f_none
  | succ k_ ih =>
    intro v1 v2 v3 v4 H
    rw [r83_l0]
    refine f_seq ?_
    refine f_seq ?_
    refine f_region ?_
    refine f_op rfl rfl (s_mv (v := .int .i64 v4) rfl) ?_
    refine f_op rfl rfl (s_mv (v := .sl v1) rfl) ?_
    refine f_op rfl rfl (s_lenS rfl Try.underlying51 rfl) ?_
    refine f_op rfl rfl (s_lss rfl rfl) ?_
    refine f_nil ?_
    refine f_if (fun h1 => ?_) (fun h1 => ?_)
    · skip
      refine f_know 19 rfl (dec_true h1) ?_
      refine f_condT rfl ?_
      refine f_skip ?_
      refine f_seq ?_
      refine f_block ?_
      refine f_seq ?_
      refine f_region ?_
      refine f_op rfl rfl (s_mv (v := .sl v1) rfl) ?_
      refine f_op rfl rfl (s_mv (v := .int .i64 v4) rfl) ?_
      refine o_ck fun g2 => ?_
      refine f_op rfl rfl (s_idx Try.underlying51 ty22 rfl rfl g2) ?_
      refine o_bind ?_; intro x3 hx3
      refine f_op rfl rfl (s_load Try.underlying22 rfl rfl (ldSl_eq hx3)) ?_
      refine f_op rfl rfl (s_as (v := .sl x3) rfl) ?_
      refine f_nil ?_
      refine f_seq ?_
      refine f_region ?_
      refine f_op rfl rfl (s_mv (v := v2) rfl) ?_
      refine f_op rfl rfl (s_mv (v := .sl x3) rfl) ?_
      refine o_bind ?_; intro p4 hp4
      refine o_bind ?_; intro x5 hx5
      refine f_op rfl rfl (s_callv happ rfl rfl hp4) ?_
      refine o_know 28 rfl (asB_eq hx5) ?_
      refine f_op rfl rfl (s_not rfl) ?_
      refine f_nil ?_
      refine f_if (fun h6 => ?_) (fun h6 => ?_)
      · skip
        refine f_know 29 rfl (bool_notT h6) ?_
        refine f_condF rfl ?_
        refine f_skip ?_
        refine f_inBlock ?_
        refine f_region ?_
        refine f_op rfl rfl (s_mv (v := .int .i64 v4) rfl) ?_
        refine f_op rfl rfl (s_add rfl rfl) ?_
        refine f_op rfl rfl (s_as (v := .int .i64 (w64 (v4 + 1))) rfl) ?_
        refine f_nil ?_
        refine f_inLoop ?_
        refine f_keep [0, 1, 5, 6] ?_
        exact ih v1 v2 v3 (w64 (v4 + 1)) p4.2
      · skip
        refine f_know 29 rfl (bool_notF h6) ?_
        refine f_condT rfl ?_
        refine f_seq ?_
        refine f_region ?_
        refine f_op rfl rfl (s_mv (v := .sl v1) rfl) ?_
        refine f_op rfl rfl (s_mv (v := .int .i64 v3) rfl) ?_
        refine f_op rfl rfl (s_mv (v := .sl x3) rfl) ?_
        refine o_ck fun g7 => ?_
        refine f_op rfl rfl (s_idx Try.underlying51 ty22 rfl rfl g7) ?_
        refine o_bind ?_; intro H8 hH8
        refine f_op rfl rfl (s_store (s := 1) ty22 rfl rfl rfl hH8) ?_
        refine f_nil ?_
        refine f_region ?_
        refine f_op rfl rfl (s_mv (v := .int .i64 v3) rfl) ?_
        refine f_op rfl rfl (s_add rfl rfl) ?_
        refine f_op rfl rfl (s_as (v := .int .i64 (w64 (v3 + 1))) rfl) ?_
        refine f_nil ?_
        refine f_inBlock ?_
        refine f_region ?_
        refine f_op rfl rfl (s_mv (v := .int .i64 v4) rfl) ?_
        refine f_op rfl rfl (s_add rfl rfl) ?_
        refine f_op rfl rfl (s_as (v := .int .i64 (w64 (v4 + 1))) rfl) ?_
        refine f_nil ?_
        refine f_inLoop ?_
        refine f_keep [0, 1, 5, 6] ?_
        exact ih v1 v2 (w64 (v3 + 1)) (w64 (v4 + 1)) H8
    · skip
      refine f_know 19 rfl (dec_false h1) ?_
      refine f_condF rfl ?_
      refine f_exit rfl ?_
      refine f_seq ?_
      refine f_region ?_
      refine f_op rfl rfl (s_mv (v := .sl v1) rfl) ?_
      refine f_op rfl rfl (s_mv (v := .int .i64 v3) rfl) ?_
      refine o_ck fun g9 => ?_
      refine f_op rfl rfl (s_slice Try.underlying51 ty22 rfl rfl rfl g9.1 g9.2) ?_
      refine o_bind ?_; intro H10 hH10
      refine f_op rfl rfl (s_clear rfl Try.underlying51 ty22 rfl rfl rfl hH10 (by decide) rfl) ?_
      refine f_nil ?_
      refine f_seq ?_
      refine f_region ?_
      refine f_op rfl rfl (s_mv (v := .sl v1) rfl) ?_
      refine f_op rfl rfl (s_mv (v := .int .i64 v3) rfl) ?_
      refine o_ck fun g11 => ?_
      refine f_op rfl rfl (s_slice Try.underlying51 ty22 rfl rfl rfl g11.1 g11.2) ?_
      refine f_op rfl rfl (s_as (v := .sl (v1.cut 1 (0 : Int).toNat (v3 : Int).toNat)) rfl) ?_
      refine f_nil ?_
      exact f_ret (.tmp rfl (.nil)) rfl

theorem sim83 {app : App} (happ : AppSim Try.prog app) {a0 : Sl} {a1 : AV} {H : Hp} {p : Sl × Hp} (h : r83 app a0 a1 H = some p) : CallSim Try.prog 83 [.sl a0, a1] H (.sl p.1) p.2 := by
  refine callSim (fn := Try.f83) (ret := ret83) Try.func83 rfl Try.ntmps83 rfl ?_ h
  unfold r83
  refine f_seq ?_
  refine f_region ?_
  refine f_op rfl rfl (s_as (v := .sl ⟨true, 0, 0, 0, 0, 0⟩) rfl) ?_
  refine f_nil ?_
  refine f_seq ?_
  refine f_region ?_
  refine f_op rfl rfl (s_mv (v := .sl a0) rfl) ?_
  refine f_op rfl rfl (s_mv (v := a1) rfl) ?_
  refine o_bind ?_; intro p1 hp1
  refine f_op rfl rfl (s_callF rfl ok99 (sim99 happ hp1)) ?_
  refine f_op rfl rfl (s_as (v := .int .i64 p1.1) rfl) ?_
  refine f_nil ?_
  refine f_seq ?_
  refine f_seq ?_
  refine f_region ?_
  refine f_op rfl rfl (s_mv (v := .int .i64 p1.1) rfl) ?_
  refine f_op rfl rfl (s_eql rfl rfl) ?_
  refine f_nil ?_
  refine f_if (fun h2 => ?_) (fun h2 => ?_)
  · skip
    refine f_know 12 rfl (dec_true h2) ?_
    refine f_condT rfl ?_
    refine f_seq ?_
    refine f_region ?_
    refine f_op rfl rfl (s_mv (v := .sl a0) rfl) ?_
    refine f_op rfl rfl (s_as (v := .sl a0) rfl) ?_
    refine f_nil ?_
    exact f_ret (.tmp rfl (.nil)) rfl
  · skip
    refine f_know 12 rfl (dec_false h2) ?_
    refine f_condF rfl ?_
    refine f_skip ?_
    refine f_seq ?_
    refine f_seq ?_
    refine f_region ?_
    refine f_op rfl rfl (s_mv (v := .int .i64 p1.1) rfl) ?_
    refine f_op rfl rfl (s_add rfl rfl) ?_
    refine f_op rfl rfl (s_as (v := .int .i64 (w64 (p1.1 + 1))) rfl) ?_
    refine f_nil ?_
    refine f_block ?_
    refine f_loop ?_
    refine f_keep [0, 1, 5, 6] ?_
    exact s83_l0 happ FUEL a0 a1 p1.1 (w64 (p1.1 + 1)) p1.2

/- 84 congou/pairs.Pins$1 -/
theorem ok84 : FnOk Try.prog 84 := ⟨⟨Try.f84, Try.func84, by kernel_rfl, rfl⟩⟩
theorem sim84 {a0 : Sl} {H : Hp} {p : Bool × Hp} (h : r84 a0 H = some p) : CallSim Try.prog 84 [.sl a0] H (.bool p.1) p.2 := by
  refine callSim (fn := Try.f84) (ret := ret84) Try.func84 rfl Try.ntmps84 rfl ?_ h
  unfold r84
  refine f_seq ?_
  refine f_region ?_
  refine f_op rfl rfl (s_as (v := .bool false) rfl) ?_
  refine f_nil ?_
  refine f_seq ?_
  refine f_region ?_
  refine f_op rfl rfl (s_mv (v := .sl a0) rfl) ?_
  refine o_bind ?_; intro p1 hp1
  refine f_op rfl rfl (s_callF rfl ok82 (sim82 hp1)) ?_
  refine f_op rfl rfl (s_not rfl) ?_
  refine f_op rfl rfl (s_as (v := .bool (!p1.1)) rfl) ?_
  refine f_nil ?_
  exact f_ret (.tmp rfl (.nil)) rfl

/- 47 congou/pairs.Pins -/
theorem ok47 : FnOk Try.prog 47 := ⟨⟨Try.f47, Try.func47, by kernel_rfl, rfl⟩⟩
theorem s47_l3 {app : App} (happ : AppSim Try.prog app) (kt2 : Int → Sl → Int → Int → Sl → Int → Int → Hp → Option ((Sl × Int) × Hp)) (hkt2 : ∀ (v1 : Int) (v2 : Sl) (v3 : Int) (v4 : Int) (v5 : Sl) (v6 : Int) (v7 : Int) (H : Hp), Fin Try.prog Try.f47 ret47 51 (todoAt (bodyOf Try.f47) [1, 1, 1, 0, 1, 0, 0, 1, 1, 0, 0, 1, 0, 1, 0, 0] []) [(0, .int .i64 v1), (5, .sl v2), (16, .int .i64 v3), (17, .int .i64 v4), (19, .sl v5), (20, .int .i64 v6), (21, .int .i64 v7)] H (kt2 v1 v2 v3 v4 v5 v6 v7 H)) : ∀ (k_ : Nat) (v1 : Int) (v2 : Sl) (v3 : Sl) (v4 : Int) (v5 : Int) (v6 : Sl) (v7 : Int) (v8 : Int) (v9 : Int) (v10 : Int) (H : Hp), Fin Try.prog Try.f47 ret47 51 (todoAt (bodyOf Try.f47) [1, 1, 1, 0, 1, 0, 0, 1, 1, 0, 0, 1, 0, 1, 0, 0, 1, 1, 0, 0, 1, 1, 0, 0] []) [(0, .int .i64 v1), (5, .sl v2), (7, .sl v3), (16, .int .i64 v4), (17, .int .i64 v5), (19, .sl v6), (20, .int .i64 v7), (21, .int .i64 v8), (25, .int .i64 v9), (26, .int .i64 v10)] H (r47_l3 app kt2 k_ v1 v2 v3 v4 v5 v6 v7 v8 v9 v10 H) := by
  intro k_
  induction k_ with
  | zero => intro _ _ _ _ _ _ _ _ _ _ _; exact f_none
  | succ k_ ih =>
    intro v1 v2 v3 v4 v5 v6 v7 v8 v9 v10 H
    rw [r47_l3]
    refine f_seq ?_
    refine f_region ?_
    refine f_op rfl rfl (s_lss rfl rfl) ?_
    refine f_nil ?_
    refine f_seq ?_
    refine f_if (fun h1 => ?_) (fun h1 => ?_)
    · skip
      refine f_know 27 rfl (dec_true h1) ?_
      refine f_condT rfl ?_
      refine f_skip ?_
      refine f_seq ?_
      refine f_block ?_
      refine f_seq ?_
      refine f_region ?_
      refine f_op rfl rfl (s_mv (v := .int .i64 v10) rfl) ?_
      refine f_op rfl rfl (s_as (v := .int .i64 v10) rfl) ?_
      refine f_nil ?_
      refine f_seq ?_
      refine f_region ?_
      refine f_op rfl rfl (s_mv (v := .sl v3) rfl) ?_
      refine f_op rfl rfl (s_mv (v := .int .i64 v10) rfl) ?_
      refine o_bind ?_; intro p2 hp2
      refine f_op rfl rfl (s_callF rfl ok77 (sim77 hp2)) ?_
      refine f_op rfl rfl (s_not rfl) ?_
      refine f_nil ?_
      refine f_if (fun h3 => ?_) (fun h3 => ?_)
      · skip
        refine f_know 32 rfl (bool_notT h3) ?_
        refine f_condF rfl ?_
        refine f_skip ?_
        refine f_inBlock ?_
        refine f_region ?_
        refine f_op rfl rfl (s_add rfl rfl) ?_
        refine f_op rfl rfl (s_mv (v := .int .i64 (w64 (v10 + 1))) rfl) ?_
        refine f_nil ?_
        refine f_inLoop ?_
        refine f_keep [0, 5, 7, 16, 17, 19, 20, 21, 25, 26] ?_
        exact ih v1 v2 v3 v4 v5 v6 v7 v8 v9 (w64 (v10 + 1)) p2.2
      · skip
        refine f_know 32 rfl (bool_notF h3) ?_
        refine f_condT rfl ?_
        refine f_region ?_
        refine f_op rfl rfl (s_mv (v := .sl v2) rfl) ?_
        refine f_op rfl rfl (s_mv (v := .sl v3) rfl) ?_
        refine f_op rfl rfl (s_mv (v := .sl v3) rfl) ?_
        refine f_op rfl rfl (s_lenS rfl Try.underlying22 rfl) ?_
        refine f_op rfl rfl (s_mv (v := .sl v3) rfl) ?_
        refine f_op rfl rfl (s_lenS rfl Try.underlying22 rfl) ?_
        refine o_ck fun g4 => ?_
        refine f_op rfl rfl (s_slice3 Try.underlying22 ty3 rfl rfl rfl rfl g4) ?_
        refine f_op rfl rfl (s_mv (v := .int .i64 v10) rfl) ?_
        refine f_op rfl rfl (s_buildSlice (cs := [.int .i64 v10]) Try.underlying22 ty3 (by decide) (by decide) rfl (by decide) rfl) ?_
        refine o_bind ?_; intro x5 hx5
        refine f_op rfl rfl (s_ap rfl rfl Try.underlying22 Try.underlying22 ty3 rfl rfl rfl rfl rfl rfl rfl hx5) ?_
        refine f_op rfl rfl (s_buildSlice (cs := [.sl x5.1]) Try.underlying51 ty22 (by decide) (by decide) rfl (by decide) rfl) ?_
        refine o_bind ?_; intro x6 hx6
        refine f_op rfl rfl (s_ap rfl rfl Try.underlying51 Try.underlying51 ty22 rfl rfl rfl rfl rfl rfl rfl hx6) ?_
        refine f_op rfl rfl (s_as (v := .sl x6.1) rfl) ?_
        refine f_nil ?_
        refine f_inBlock ?_
        refine f_region ?_
        refine f_op rfl rfl (s_add rfl rfl) ?_
        refine f_op rfl rfl (s_mv (v := .int .i64 (w64 (v10 + 1))) rfl) ?_
        refine f_nil ?_
        refine f_inLoop ?_
        refine f_keep [0, 5, 7, 16, 17, 19, 20, 21, 25, 26] ?_
        exact ih v1 x6.1 v3 v4 v5 v6 v7 v8 v9 (w64 (v10 + 1)) x6.2
    · skip
      refine f_know 27 rfl (dec_false h1) ?_
      refine f_condF rfl ?_
      refine f_exit rfl ?_
      refine f_inBlock ?_
      refine f_region ?_
      refine f_op rfl rfl (s_add rfl rfl) ?_
      refine f_op rfl rfl (s_mv (v := .int .i64 (w64 (v8 + 1))) rfl) ?_
      refine f_nil ?_
      refine f_inLoop ?_
      refine f_keep [0, 5, 16, 17, 19, 20, 21] ?_
      exact hkt2 v1 v2 v4 v5 v6 v7 (w64 (v8 + 1)) H

theorem s47_l2 {app : App} (happ : AppSim Try.prog app) (kt1 : Int → Sl → Int → Int → Hp → Option ((Sl × Int) × Hp)) (hkt1 : ∀ (v1 : Int) (v2 : Sl) (v3 : Int) (v4 : Int) (H : Hp), Fin Try.prog Try.f47 ret47 51 (todoAt (bodyOf Try.f47) [1, 1, 1, 0, 1, 0, 0] []) [(0, .int .i64 v1), (4, .sl v2), (16, .int .i64 v3), (17, .int .i64 v4)] H (kt1 v1 v2 v3 v4 H)) : ∀ (k_ : Nat) (v1 : Int) (v2 : Sl) (v3 : Int) (v4 : Int) (v5 : Sl) (v6 : Int) (v7 : Int) (H : Hp), Fin Try.prog Try.f47 ret47 51 (todoAt (bodyOf Try.f47) [1, 1, 1, 0, 1, 0, 0, 1, 1, 0, 0, 1, 0, 1, 0, 0] []) [(0, .int .i64 v1), (5, .sl v2), (16, .int .i64 v3), (17, .int .i64 v4), (19, .sl v5), (20, .int .i64 v6), (21, .int .i64 v7)] H (r47_l2 app kt1 k_ v1 v2 v3 v4 v5 v6 v7 H) := by
  intro k_
  induction k_ with
  | zero => intro _ _ _ _ _ _ _ _; exact f_none
  | succ k_ ih =>
    intro v1 v2 v3 v4 v5 v6 v7 H
    rw [r47_l2]
    refine f_seq ?_
    refine f_region ?_
    refine f_op rfl rfl (s_lss rfl rfl) ?_
    refine f_nil ?_
    refine f_seq ?_
    refine f_if (fun h1 => ?_) (fun h1 => ?_)
    · skip
      refine f_know 22 rfl (dec_true h1) ?_
      refine f_condT rfl ?_
      refine f_skip ?_
      refine f_seq ?_
      refine f_block ?_
      refine f_seq ?_
      refine f_region ?_
      refine o_ck fun g2 => ?_
      refine f_op rfl rfl (s_idx Try.underlying51 ty22 rfl rfl g2) ?_
      refine o_bind ?_; intro x3 hx3
      refine f_op rfl rfl (s_load Try.underlying22 rfl rfl (ldSl_eq hx3)) ?_
      refine f_op rfl rfl (s_as (v := .sl x3) rfl) ?_
      refine f_nil ?_
      refine f_seq ?_
      refine f_region ?_
      refine f_op rfl rfl (s_mv (v := .int .i64 v1) rfl) ?_
      refine f_op rfl rfl (s_mv (v := .int .i64 0) rfl) ?_
      refine f_nil ?_
      refine f_block ?_
      refine f_loop ?_
      refine f_keep [0, 5, 7, 16, 17, 19, 20, 21, 25, 26] ?_
      exact s47_l3 happ _ (fun v1_ v2_ v3_ v4_ v5_ v6_ v7_ H_ => ih v1_ v2_ v3_ v4_ v5_ v6_ v7_ H_) FUEL v1 v2 x3 v3 v4 v5 v6 v7 v1 0 H
    · skip
      refine f_know 22 rfl (dec_false h1) ?_
      refine f_condF rfl ?_
      refine f_exit rfl ?_
      refine f_region ?_
      refine f_op rfl rfl (s_mv (v := .sl v2) rfl) ?_
      refine f_op rfl rfl (s_as (v := .sl v2) rfl) ?_
      refine f_nil ?_
      refine f_inBlock ?_
      refine f_region ?_
      refine f_op rfl rfl (s_add rfl rfl) ?_
      refine f_op rfl rfl (s_mv (v := .int .i64 (w64 (v4 + 1))) rfl) ?_
      refine f_nil ?_
      refine f_inLoop ?_
      refine f_keep [0, 4, 16, 17] ?_
      exact hkt1 v1 v2 v3 (w64 (v4 + 1)) H

theorem s47_l1 {app : App} (happ : AppSim Try.prog app) : ∀ (k_ : Nat) (v1 : Int) (v2 : Sl) (v3 : Int) (v4 : Int) (H : Hp), Fin Try.prog Try.f47 ret47 51 (todoAt (bodyOf Try.f47) [1, 1, 1, 0, 1, 0, 0] []) [(0, .int .i64 v1), (4, .sl v2), (16, .int .i64 v3), (17, .int .i64 v4)] H (r47_l1 app k_ v1 v2 v3 v4 H) := by
  intro k_
  induction k_ with
  | zero => intro _ _ _ _ _; exact f_none
  | succ k_ ih =>
    intro v1 v2 v3 v4 H
    rw [r47_l1]
    refine f_seq ?_
    refine f_region ?_
    refine f_op rfl rfl (s_lss rfl rfl) ?_
    refine f_nil ?_
    refine f_seq ?_
    refine f_if (fun h1 => ?_) (fun h1 => ?_)
    · skip
      refine f_know 18 rfl (dec_true h1) ?_
      refine f_condT rfl ?_
      refine f_skip ?_
      refine f_seq ?_
      refine f_block ?_
      refine f_seq ?_
      refine f_region ?_
      refine f_op rfl rfl (s_as (v := .sl ⟨true, 0, 0, 0, 0, 0⟩) rfl) ?_
      refine f_nil ?_
      refine f_seq ?_
      refine f_seq ?_
      refine f_region ?_
      refine f_op rfl rfl (s_mv (v := .sl v2) rfl) ?_
      refine f_op rfl rfl (s_lenS rfl Try.underlying51 rfl) ?_
      refine f_op rfl rfl (s_mv (v := .int .i64 0) rfl) ?_
      refine f_nil ?_
      refine f_block ?_
      refine f_loop ?_
      refine f_keep [0, 5, 16, 17, 19, 20, 21] ?_
      exact s47_l2 happ _ (fun v1_ v2_ v3_ v4_ H_ => ih v1_ v2_ v3_ v4_ H_) FUEL v1 ⟨true, 0, 0, 0, 0, 0⟩ v3 v4 v2 (v2.len : Int) 0 H
    · skip
      refine f_know 18 rfl (dec_false h1) ?_
      refine f_condF rfl ?_
      refine f_exit rfl ?_
      refine f_seq ?_
      refine f_region ?_
      refine f_op rfl rfl (s_mv (v := .sl v2) rfl) ?_
      refine o_bind ?_; intro p2 hp2
      refine f_op rfl rfl (s_callF rfl ok83 (sim83 happ hp2)) ?_
      refine f_op rfl rfl (s_as (v := .sl p2.1) rfl) ?_
      refine f_op rfl rfl (s_as (v := .int .i64 0) rfl) ?_
      refine f_nil ?_
      exact f_ret (.tmp rfl (.tmp rfl (.nil))) rfl

theorem s47_j0 {app : App} (happ : AppSim Try.prog app) (v1 : Int) (v2 : Bool) (H : Hp) : Fin Try.prog Try.f47 ret47 51 (todoAt (bodyOf Try.f47) [1, 0, 1] []) [(0, .int .i64 v1), (14, .bool v2)] H (r47_j0 app v1 v2 H) := by
  unfold r47_j0
  refine f_if (fun h1 => ?_) (fun h1 => ?_)
  · skip
    refine f_know 14 rfl (bool_T h1) ?_
    refine f_condT rfl ?_
    refine f_seq ?_
    refine f_region ?_
    refine f_op rfl rfl (s_as (v := .sl ⟨true, 0, 0, 0, 0, 0⟩) rfl) ?_
    refine f_op rfl rfl (s_as (v := .int .i64 2) rfl) ?_
    refine f_nil ?_
    exact f_ret (.tmp rfl (.tmp rfl (.nil))) rfl
  · skip
    refine f_know 14 rfl (bool_F h1) ?_
    refine f_condF rfl ?_
    refine f_skip ?_
    refine f_seq ?_
    refine f_region ?_
    refine f_op rfl rfl (s_buildSlice (cs := [.sl ⟨true, 0, 0, 0, 0, 0⟩]) Try.underlying51 ty22 (by decide) (by decide) rfl (by decide) rfl) ?_
    refine f_op rfl rfl (s_as (v := .sl ⟨false, H.n, 0, 1, 1, 0⟩) rfl) ?_
    refine o_hp ?_; intro H2 hH2
    refine f_nil ?_
    refine f_seq ?_
    refine f_seq ?_
    refine f_region ?_
    refine f_op rfl rfl (s_mv (v := .int .i64 v1) rfl) ?_
    refine f_op rfl rfl (s_mv (v := .int .i64 0) rfl) ?_
    refine f_nil ?_
    refine f_block ?_
    refine f_loop ?_
    refine f_keep [0, 4, 16, 17] ?_
    exact s47_l1 happ FUEL v1 ⟨false, H.n, 0, 1, 1, 0⟩ v1 0 H2

theorem sim47 {app : App} (happ : AppSim Try.prog app) {a0 : Int} {H : Hp} {p : (Sl × Int) × Hp} (h : r47 app a0 H = some p) : CallSim Try.prog 47 [.int .i64 a0] H (.tup [.sl p.1.1, .int .i64 p.1.2]) p.2 := by
  refine callSim (fn := Try.f47) (ret := ret47) Try.func47 rfl Try.ntmps47 rfl ?_ h
  unfold r47
  refine f_seq ?_
  refine f_region ?_
  refine f_op rfl rfl (s_as (v := .sl ⟨true, 0, 0, 0, 0, 0⟩) rfl) ?_
  refine f_op rfl rfl (s_as (v := .int .i64 0) rfl) ?_
  refine f_nil ?_
  refine f_seq ?_
  refine f_seq ?_
  refine f_region ?_
  refine f_op rfl rfl (s_mv (v := .int .i64 a0) rfl) ?_
  refine f_op rfl rfl (s_lss rfl rfl) ?_
  refine f_op rfl rfl (s_mv (v := .bool (decide (a0 < 1))) rfl) ?_
  refine o_if (fun h1 => ?_) (fun h1 => ?_)
  · skip
    refine o_know 11 rfl (dec_true h1) ?_
    refine f_no rfl rfl ?_
    refine f_no rfl rfl ?_
    refine f_op rfl rfl (s_pickT (v := .bool true) rfl rfl) ?_
    refine f_nil ?_
    refine f_keep [0, 14] ?_
    exact s47_j0 happ a0 true H
  · skip
    refine o_know 11 rfl (dec_false h1) ?_
    refine f_op rfl rfl (s_mv (v := .int .i64 a0) rfl) ?_
    refine f_op rfl rfl (s_gtr rfl rfl) ?_
    refine f_op rfl rfl (s_pickF (v := .bool (decide (6 < a0))) rfl rfl) ?_
    refine f_nil ?_
    refine f_keep [0, 14] ?_
    exact s47_j0 happ a0 (decide (6 < a0)) H

/- 85 slices.EqualFunc[[][]int,[][]int,[]int,[]int] -/
theorem ok85 : FnOk Try.prog 85 := ⟨⟨Try.f85, Try.func85, by kernel_rfl, rfl⟩⟩
theorem s85_l0 {app : App} (happ : AppSim Try.prog app) : ∀ (k_ : Nat) (v1 : Sl) (v2 : AV) (v3 : Sl) (v4 : Int) (v5 : Int) (H : Hp), Fin Try.prog Try.f85 ret85 32 (todoAt (bodyOf Try.f85) [1, 1, 0, 1, 0, 0] []) [(1, .sl v1), (2, v2), (15, .sl v3), (16, .int .i64 v4), (17, .int .i64 v5)] H (r85_l0 app k_ v1 v2 v3 v4 v5 H) := by
  intro k_
  induction k_ with
  | zero => intro _ _ _ _ _ _; exact f_none
  | succ k_ ih =>
    intro v1 v2 v3 v4 v5 H
    rw [r85_l0]
    refine f_seq ?_
    refine f_region ?_
    refine f_op rfl rfl (s_lss rfl rfl) ?_
    refine f_nil ?_
    refine f_seq ?_
    refine f_if (fun h1 => ?_) (fun h1 => ?_)
    · skip
      refine f_know 18 rfl (dec_true h1) ?_
      refine f_condT rfl ?_
      refine f_skip ?_
      refine f_seq ?_
      refine f_block ?_
      refine f_seq ?_
      refine f_region ?_
      refine f_op rfl rfl (s_mv (v := .int .i64 v5) rfl) ?_
      refine o_ck fun g2 => ?_
      refine f_op rfl rfl (s_idx Try.underlying51 ty22 rfl rfl g2) ?_
      refine o_bind ?_; intro x3 hx3
      refine f_op rfl rfl (s_load Try.underlying22 rfl rfl (ldSl_eq hx3)) ?_
      refine f_op rfl rfl (s_as (v := .int .i64 v5) rfl) ?_
      refine f_op rfl rfl (s_as (v := .sl x3) rfl) ?_
      refine f_nil ?_
      refine f_seq ?_
      refine f_region ?_
      refine f_op rfl rfl (s_mv (v := .sl v1) rfl) ?_
      refine f_op rfl rfl (s_mv (v := .int .i64 v5) rfl) ?_
      refine o_ck fun g4 => ?_
      refine f_op rfl rfl (s_idx Try.underlying51 ty22 rfl rfl g4) ?_
      refine o_bind ?_; intro x5 hx5
      refine f_op rfl rfl (s_load Try.underlying22 rfl rfl (ldSl_eq hx5)) ?_
      refine f_op rfl rfl (s_as (v := .sl x5) rfl) ?_
      refine f_nil ?_
      refine f_seq ?_
      refine f_region ?_
      refine f_op rfl rfl (s_mv (v := v2) rfl) ?_
      refine f_op rfl rfl (s_mv (v := .sl x3) rfl) ?_
      refine f_op rfl rfl (s_mv (v := .sl x5) rfl) ?_
      refine o_bind ?_; intro p6 hp6
      refine o_bind ?_; intro x7 hx7
      refine f_op rfl rfl (s_callv happ rfl rfl hp6) ?_
      refine o_know 29 rfl (asB_eq hx7) ?_
      refine f_op rfl rfl (s_not rfl) ?_
      refine f_nil ?_
      refine f_if (fun h8 => ?_) (fun h8 => ?_)
      · skip
        refine f_know 30 rfl (bool_notT h8) ?_
        refine f_condF rfl ?_
        refine f_skip ?_
        refine f_inBlock ?_
        refine f_region ?_
        refine f_op rfl rfl (s_add rfl rfl) ?_
        refine f_op rfl rfl (s_mv (v := .int .i64 (w64 (v5 + 1))) rfl) ?_
        refine f_nil ?_
        refine f_inLoop ?_
        refine f_keep [1, 2, 15, 16, 17] ?_
        exact ih v1 v2 v3 v4 (w64 (v5 + 1)) p6.2
      · skip
        refine f_know 30 rfl (bool_notF h8) ?_
        refine f_condT rfl ?_
        refine f_seq ?_
        refine f_region ?_
        refine f_op rfl rfl (s_as (v := .bool false) rfl) ?_
        refine f_nil ?_
        exact f_ret (.tmp rfl (.nil)) rfl
    · skip
      refine f_know 18 rfl (dec_false h1) ?_
      refine f_condF rfl ?_
      refine f_exit rfl ?_
      refine f_seq ?_
      refine f_region ?_
      refine f_op rfl rfl (s_as (v := .bool true) rfl) ?_
      refine f_nil ?_
      exact f_ret (.tmp rfl (.nil)) rfl

theorem sim85 {app : App} (happ : AppSim Try.prog app) {a0 : Sl} {a1 : Sl} {a2 : AV} {H : Hp} {p : Bool × Hp} (h : r85 app a0 a1 a2 H = some p) : CallSim Try.prog 85 [.sl a0, .sl a1, a2] H (.bool p.1) p.2 := by
  refine callSim (fn := Try.f85) (ret := ret85) Try.func85 rfl Try.ntmps85 rfl ?_ h
  unfold r85
  refine f_seq ?_
  refine f_region ?_
  refine f_op rfl rfl (s_as (v := .bool false) rfl) ?_
  refine f_nil ?_
  refine f_seq ?_
  refine f_seq ?_
  refine f_region ?_
  refine f_op rfl rfl (s_mv (v := .sl a0) rfl) ?_
  refine f_op rfl rfl (s_lenS rfl Try.underlying51 rfl) ?_
  refine f_op rfl rfl (s_mv (v := .sl a1) rfl) ?_
  refine f_op rfl rfl (s_lenS rfl Try.underlying51 rfl) ?_
  refine f_op rfl rfl (s_neq rfl rfl) ?_
  refine f_nil ?_
  refine f_if (fun h1 => ?_) (fun h1 => ?_)
  · skip
    refine f_know 14 rfl (dec_true h1) ?_
    refine f_condT rfl ?_
    refine f_seq ?_
    refine f_region ?_
    refine f_op rfl rfl (s_as (v := .bool false) rfl) ?_
    refine f_nil ?_
    exact f_ret (.tmp rfl (.nil)) rfl
  · skip
    refine f_know 14 rfl (dec_false h1) ?_
    refine f_condF rfl ?_
    refine f_skip ?_
    refine f_seq ?_
    refine f_seq ?_
    refine f_region ?_
    refine f_op rfl rfl (s_mv (v := .sl a0) rfl) ?_
    refine f_op rfl rfl (s_lenS rfl Try.underlying51 rfl) ?_
    refine f_op rfl rfl (s_mv (v := .int .i64 0) rfl) ?_
    refine f_nil ?_
    refine f_block ?_
    refine f_loop ?_
    refine f_keep [1, 2, 15, 16, 17] ?_
    exact s85_l0 happ FUEL a1 a2 a0 (a0.len : Int) 0 H

/- 48 congou/congoulaw08.equal -/
theorem ok48 : FnOk Try.prog 48 := ⟨⟨Try.f48, Try.func48, by kernel_rfl, rfl⟩⟩
theorem sim48 {app : App} (happ : AppSim Try.prog app) {a0 : Sl} {a1 : Sl} {H : Hp} {p : Bool × Hp} (h : r48 app a0 a1 H = some p) : CallSim Try.prog 48 [.sl a0, .sl a1] H (.bool p.1) p.2 := by
  refine callSim (fn := Try.f48) (ret := ret48) Try.func48 rfl Try.ntmps48 rfl ?_ h
  unfold r48
  refine f_seq ?_
  refine f_region ?_
  refine f_op rfl rfl (s_as (v := .bool false) rfl) ?_
  refine f_nil ?_
  refine f_seq ?_
  refine f_region ?_
  refine f_op rfl rfl (s_mv (v := .sl a0) rfl) ?_
  refine f_op rfl rfl (s_mv (v := .sl a1) rfl) ?_
  refine o_bind ?_; intro p1 hp1
  refine f_op rfl rfl (s_callF rfl ok85 (sim85 happ hp1)) ?_
  refine f_op rfl rfl (s_as (v := .bool p1.1) rfl) ?_
  refine f_nil ?_
  exact f_ret (.tmp rfl (.nil)) rfl

/- 86 congou/congouref08.orders -/
theorem ok86 : FnOk Try.prog 86 := ⟨⟨Try.f86, Try.func86, by kernel_rfl, rfl⟩⟩
theorem s86_l0 {app : App} (happ : AppSim Try.prog app) : ∀ (k_ : Nat) (v1 : Int) (v2 : Sl) (v3 : Sl) (v4 : Int) (v5 : Int) (H : Hp), Fin Try.prog Try.f86 ret86 37 (todoAt (bodyOf Try.f86) [1, 1, 1, 0, 1, 0, 0] []) [(0, .int .i64 v1), (1, .sl v2), (5, .sl v3), (13, .int .i64 v4), (14, .int .i64 v5)] H (r86_l0 app k_ v1 v2 v3 v4 v5 H) := by
  intro k_
  induction k_ with
  | zero => intro _ _ _ _ _ _; exact f_none
  | succ k_ ih =>
    intro v1 v2 v3 v4 v5 H
    rw [r86_l0]
    refine f_seq ?_
    refine f_region ?_
    refine f_op rfl rfl (s_lss rfl rfl) ?_
    refine f_nil ?_
    refine f_seq ?_
    refine f_if (fun h1 => ?_) (fun h1 => ?_)
    · skip
      refine f_know 15 rfl (dec_true h1) ?_
      refine f_condT rfl ?_
      refine f_skip ?_
      refine f_seq ?_
      refine f_block ?_
      refine f_seq ?_
      refine f_region ?_
      refine f_op rfl rfl (s_mv (v := .int .i64 v5) rfl) ?_
      refine f_op rfl rfl (s_as (v := .int .i64 v5) rfl) ?_
      refine f_nil ?_
      refine f_seq ?_
      refine f_region ?_
      refine f_op rfl rfl (s_mv (v := .sl v2) rfl) ?_
      refine f_op rfl rfl (s_mv (v := .int .i64 v5) rfl) ?_
      refine o_bind ?_; intro p2 hp2
      refine f_op rfl rfl (s_callF rfl ok78 (sim78 hp2)) ?_
      refine f_op rfl rfl (s_lenS rfl Try.underlying22 rfl) ?_
      refine f_op rfl rfl (s_eql rfl rfl) ?_
      refine f_nil ?_
      refine f_if (fun h3 => ?_) (fun h3 => ?_)
      · skip
        refine f_know 21 rfl (dec_true h3) ?_
        refine f_condT rfl ?_
        refine f_region ?_
        refine f_op rfl rfl (s_mv (v := .sl v3) rfl) ?_
        refine f_op rfl rfl (s_mv (v := .int .i64 v1) rfl) ?_
        refine f_op rfl rfl (s_mv (v := .sl v2) rfl) ?_
        refine f_op rfl rfl (s_mv (v := .sl v2) rfl) ?_
        refine f_op rfl rfl (s_lenS rfl Try.underlying22 rfl) ?_
        refine f_op rfl rfl (s_mv (v := .sl v2) rfl) ?_
        refine f_op rfl rfl (s_lenS rfl Try.underlying22 rfl) ?_
        refine o_ck fun g4 => ?_
        refine f_op rfl rfl (s_slice3 Try.underlying22 ty3 rfl rfl rfl rfl g4) ?_
        refine f_op rfl rfl (s_mv (v := .int .i64 v5) rfl) ?_
        refine f_op rfl rfl (s_buildSlice (cs := [.int .i64 v5]) Try.underlying22 ty3 (by decide) (by decide) rfl (by decide) rfl) ?_
        refine o_bind ?_; intro x5 hx5
        refine f_op rfl rfl (s_ap rfl rfl Try.underlying22 Try.underlying22 ty3 rfl rfl rfl rfl rfl rfl rfl hx5) ?_
        refine o_bind ?_; intro p6 hp6
        refine o_bind ?_; intro x7 hx7
        refine f_op rfl rfl (s_callA happ rfl hp6) ?_
        refine o_know 33 rfl (asSl_eq hx7) ?_
        refine o_bind ?_; intro x8 hx8
        refine o_ck fun g9 => ?_
        refine o_bind ?_; intro x10 hx10
        refine f_op rfl rfl (s_append rfl rfl Try.underlying51 Try.underlying51 ty22 (by decide) rfl (by decide) rfl rfl hx8 g9 hx10) ?_
        refine f_op rfl rfl (s_as (v := .sl x10.1) rfl) ?_
        refine f_nil ?_
        refine f_inBlock ?_
        refine f_region ?_
        refine f_op rfl rfl (s_add rfl rfl) ?_
        refine f_op rfl rfl (s_mv (v := .int .i64 (w64 (v5 + 1))) rfl) ?_
        refine f_nil ?_
        refine f_inLoop ?_
        refine f_keep [0, 1, 5, 13, 14] ?_
        exact ih v1 v2 x10.1 v4 (w64 (v5 + 1)) x10.2
      · skip
        refine f_know 21 rfl (dec_false h3) ?_
        refine f_condF rfl ?_
        refine f_skip ?_
        refine f_inBlock ?_
        refine f_region ?_
        refine f_op rfl rfl (s_add rfl rfl) ?_
        refine f_op rfl rfl (s_mv (v := .int .i64 (w64 (v5 + 1))) rfl) ?_
        refine f_nil ?_
        refine f_inLoop ?_
        refine f_keep [0, 1, 5, 13, 14] ?_
        exact ih v1 v2 v3 v4 (w64 (v5 + 1)) p2.2
    · skip
      refine f_know 15 rfl (dec_false h1) ?_
      refine f_condF rfl ?_
      refine f_exit rfl ?_
      refine f_seq ?_
      refine f_region ?_
      refine f_op rfl rfl (s_mv (v := .sl v3) rfl) ?_
      refine f_op rfl rfl (s_as (v := .sl v3) rfl) ?_
      refine f_nil ?_
      exact f_ret (.tmp rfl (.nil)) rfl

theorem sim86 {app : App} (happ : AppSim Try.prog app) {a0 : Int} {a1 : Sl} {H : Hp} {p : Sl × Hp} (h : r86 app a0 a1 H = some p) : CallSim Try.prog 86 [.int .i64 a0, .sl a1] H (.sl p.1) p.2 := by
  refine callSim (fn := Try.f86) (ret := ret86) Try.func86 rfl Try.ntmps86 rfl ?_ h
  unfold r86
  refine f_seq ?_
  refine f_region ?_
  refine f_op rfl rfl (s_as (v := .sl ⟨true, 0, 0, 0, 0, 0⟩) rfl) ?_
  refine f_nil ?_
  refine f_seq ?_
  refine f_seq ?_
  refine f_region ?_
  refine f_op rfl rfl (s_mv (v := .sl a1) rfl) ?_
  refine f_op rfl rfl (s_lenS rfl Try.underlying22 rfl) ?_
  refine f_op rfl rfl (s_mv (v := .int .i64 a0) rfl) ?_
  refine f_op rfl rfl (s_eql rfl rfl) ?_
  refine f_nil ?_
  refine f_if (fun h1 => ?_) (fun h1 => ?_)
  · skip
    refine f_know 10 rfl (dec_true h1) ?_
    refine f_condT rfl ?_
    refine f_seq ?_
    refine f_region ?_
    refine f_op rfl rfl (s_mv (v := .sl a1) rfl) ?_
    refine f_op rfl rfl (s_buildSlice (cs := [.sl a1]) Try.underlying51 ty22 (by decide) (by decide) rfl (by decide) rfl) ?_
    refine f_op rfl rfl (s_as (v := .sl ⟨false, H.n, 0, 1, 1, 0⟩) rfl) ?_
    refine o_hp ?_; intro H2 hH2
    refine f_nil ?_
    exact f_ret (.tmp rfl (.nil)) rfl
  · skip
    refine f_know 10 rfl (dec_false h1) ?_
    refine f_condF rfl ?_
    refine f_skip ?_
    refine f_seq ?_
    refine f_region ?_
    refine f_op rfl rfl (s_as (v := .sl ⟨true, 0, 0, 0, 0, 0⟩) rfl) ?_
    refine f_nil ?_
    refine f_seq ?_
    refine f_seq ?_
    refine f_region ?_
    refine f_op rfl rfl (s_mv (v := .int .i64 a0) rfl) ?_
    refine f_op rfl rfl (s_mv (v := .int .i64 0) rfl) ?_
    refine f_nil ?_
    refine f_block ?_
    refine f_loop ?_
    refine f_keep [0, 1, 5, 13, 14] ?_
    exact s86_l0 happ FUEL a0 a1 ⟨true, 0, 0, 0, 0, 0⟩ a0 0 H

/- 49 congou/congouref08.Pins -/
theorem ok49 : FnOk Try.prog 49 := ⟨⟨Try.f49, Try.func49, by kernel_rfl, rfl⟩⟩
theorem s49_l0 {app : App} (happ : AppSim Try.prog app) : ∀ (k_ : Nat) (v1 : Sl) (v2 : Sl) (v3 : Int) (v4 : Int) (H : Hp), Fin Try.prog Try.f49 ret49 21 (todoAt (bodyOf Try.f49) [1, 1, 0, 1, 0, 0] []) [(3, .sl v1), (7, .sl v2), (8, .int .i64 v3), (9, .int .i64 v4)] H (r49_l0 app k_ v1 v2 v3 v4 H) := by
  intro k_
  induction k_ with
  | zero => intro _ _ _ _ _; exact f_none
  | succ k_ ih =>
    intro v1 v2 v3 v4 H
    rw [r49_l0]
    refine f_seq ?_
    refine f_region ?_
    refine f_op rfl rfl (s_lss rfl rfl) ?_
    refine f_nil ?_
    refine f_seq ?_
    refine f_if (fun h1 => ?_) (fun h1 => ?_)
    · skip
      refine f_know 10 rfl (dec_true h1) ?_
      refine f_condT rfl ?_
      refine f_skip ?_
      refine f_seq ?_
      refine f_block ?_
      refine f_seq ?_
      refine f_region ?_
      refine o_ck fun g2 => ?_
      refine f_op rfl rfl (s_idx Try.underlying51 ty22 rfl rfl g2) ?_
      refine o_bind ?_; intro x3 hx3
      refine f_op rfl rfl (s_load Try.underlying22 rfl rfl (ldSl_eq hx3)) ?_
      refine f_op rfl rfl (s_as (v := .sl x3) rfl) ?_
      refine f_nil ?_
      refine f_seq ?_
      refine f_region ?_
      refine f_op rfl rfl (s_mv (v := .sl x3) rfl) ?_
      refine o_bind ?_; intro p4 hp4
      refine f_op rfl rfl (s_callF rfl ok45 (sim45 hp4)) ?_
      refine f_nil ?_
      refine f_if (fun h5 => ?_) (fun h5 => ?_)
      · skip
        refine f_know 14 rfl (bool_T h5) ?_
        refine f_condT rfl ?_
        refine f_region ?_
        refine f_op rfl rfl (s_mv (v := .sl v1) rfl) ?_
        refine f_op rfl rfl (s_mv (v := .sl x3) rfl) ?_
        refine f_op rfl rfl (s_buildSlice (cs := [.sl x3]) Try.underlying51 ty22 (by decide) (by decide) rfl (by decide) rfl) ?_
        refine o_bind ?_; intro x6 hx6
        refine f_op rfl rfl (s_ap rfl rfl Try.underlying51 Try.underlying51 ty22 rfl rfl rfl rfl rfl rfl rfl hx6) ?_
        refine f_op rfl rfl (s_as (v := .sl x6.1) rfl) ?_
        refine f_nil ?_
        refine f_inBlock ?_
        refine f_region ?_
        refine f_op rfl rfl (s_add rfl rfl) ?_
        refine f_op rfl rfl (s_mv (v := .int .i64 (w64 (v4 + 1))) rfl) ?_
        refine f_nil ?_
        refine f_inLoop ?_
        refine f_keep [3, 7, 8, 9] ?_
        exact ih x6.1 v2 v3 (w64 (v4 + 1)) x6.2
      · skip
        refine f_know 14 rfl (bool_F h5) ?_
        refine f_condF rfl ?_
        refine f_skip ?_
        refine f_inBlock ?_
        refine f_region ?_
        refine f_op rfl rfl (s_add rfl rfl) ?_
        refine f_op rfl rfl (s_mv (v := .int .i64 (w64 (v4 + 1))) rfl) ?_
        refine f_nil ?_
        refine f_inLoop ?_
        refine f_keep [3, 7, 8, 9] ?_
        exact ih v1 v2 v3 (w64 (v4 + 1)) p4.2
    · skip
      refine f_know 10 rfl (dec_false h1) ?_
      refine f_condF rfl ?_
      refine f_exit rfl ?_
      refine f_seq ?_
      refine f_region ?_
      refine f_op rfl rfl (s_mv (v := .sl v1) rfl) ?_
      refine f_op rfl rfl (s_as (v := .sl v1) rfl) ?_
      refine f_nil ?_
      exact f_ret (.tmp rfl (.nil)) rfl

theorem sim49 {app : App} (happ : AppSim Try.prog app) {a0 : Int} {H : Hp} {p : Sl × Hp} (h : r49 app a0 H = some p) : CallSim Try.prog 49 [.int .i64 a0] H (.sl p.1) p.2 := by
  refine callSim (fn := Try.f49) (ret := ret49) Try.func49 rfl Try.ntmps49 rfl ?_ h
  unfold r49
  refine f_seq ?_
  refine f_region ?_
  refine f_op rfl rfl (s_as (v := .sl ⟨true, 0, 0, 0, 0, 0⟩) rfl) ?_
  refine f_nil ?_
  refine f_seq ?_
  refine f_region ?_
  refine f_op rfl rfl (s_as (v := .sl ⟨true, 0, 0, 0, 0, 0⟩) rfl) ?_
  refine f_nil ?_
  refine f_seq ?_
  refine f_seq ?_
  refine f_region ?_
  refine f_op rfl rfl (s_mv (v := .int .i64 a0) rfl) ?_
  refine o_bind ?_; intro p1 hp1
  refine f_op rfl rfl (s_callF rfl ok86 (sim86 happ hp1)) ?_
  refine f_op rfl rfl (s_lenS rfl Try.underlying51 rfl) ?_
  refine f_op rfl rfl (s_mv (v := .int .i64 0) rfl) ?_
  refine f_nil ?_
  refine f_block ?_
  refine f_loop ?_
  refine f_keep [3, 7, 8, 9] ?_
  exact s49_l0 happ FUEL ⟨true, 0, 0, 0, 0, 0⟩ p1.1 (p1.1.len : Int) 0 p1.2

/- 10 congou/congoulaw08.PairsPins -/
theorem ok10 : FnOk Try.prog 10 := ⟨⟨Try.f10, Try.func10, by kernel_rfl, rfl⟩⟩
theorem s10_j2 {app : App} (happ : AppSim Try.prog app) (v1 : Int) (v2 : Sl) (v3 : Int) (v4 : Bool) (H : Hp) : Fin Try.prog Try.f10 ret10 68 (todoAt (bodyOf Try.f10) [1, 1, 1, 1, 0, 1] []) [(1, .int .i64 v1), (7, .sl v2), (8, .int .i64 v3), (46, .bool v4)] H (r10_j2 app v1 v2 v3 v4 H) := by
  unfold r10_j2
  refine f_if (fun h1 => ?_) (fun h1 => ?_)
  · skip
    refine f_know 46 rfl (bool_T h1) ?_
    refine f_condT rfl ?_
    refine f_seq ?_
    refine f_region ?_
    refine f_op rfl rfl (s_mv (v := .sl v2) rfl) ?_
    refine f_op rfl rfl (s_lenS rfl Try.underlying51 rfl) ?_
    refine f_op rfl rfl (s_eql rfl rfl) ?_
    refine f_op rfl rfl (s_mv (v := .bool (decide ((v2.len : Int) = 0))) rfl) ?_
    refine o_if (fun h2 => ?_) (fun h2 => ?_)
    · skip
      refine o_know 50 rfl (dec_true h2) ?_
      refine f_op rfl rfl (s_mv (v := .int .i64 v3) rfl) ?_
      refine f_op rfl rfl (s_eql rfl rfl) ?_
      refine f_op rfl rfl (s_pickT (v := .bool (decide (v3 = 2))) rfl rfl) ?_
      refine f_op rfl rfl (s_mv (v := .bool (decide (v3 = 2))) rfl) ?_
      refine o_if (fun h3 => ?_) (fun h3 => ?_)
      · skip
        refine o_know 54 rfl (dec_true h3) ?_
        refine o_bind ?_; intro p4 hp4
        refine f_op rfl rfl (s_callF rfl ok23 (sim23 happ hp4)) ?_
        refine f_op rfl rfl (s_pickT (v := .bool p4.1) rfl rfl) ?_
        refine f_op rfl rfl (s_as (v := .bool p4.1) rfl) ?_
        refine f_nil ?_
        exact f_ret (.tmp rfl (.nil)) rfl
      · skip
        refine o_know 54 rfl (dec_false h3) ?_
        refine f_no rfl rfl ?_
        refine f_op rfl rfl (s_pickF (v := .bool false) rfl rfl) ?_
        refine f_op rfl rfl (s_as (v := .bool false) rfl) ?_
        refine f_nil ?_
        exact f_ret (.tmp rfl (.nil)) rfl
    · skip
      refine o_know 50 rfl (dec_false h2) ?_
      refine f_no rfl rfl ?_
      refine f_no rfl rfl ?_
      refine f_op rfl rfl (s_pickF (v := .bool false) rfl rfl) ?_
      refine f_op rfl rfl (s_mv (v := .bool false) rfl) ?_
      refine f_no rfl rfl ?_
      refine f_op rfl rfl (s_pickF (v := .bool false) rfl rfl) ?_
      refine f_op rfl rfl (s_as (v := .bool false) rfl) ?_
      refine f_nil ?_
      exact f_ret (.tmp rfl (.nil)) rfl
  · skip
    refine f_know 46 rfl (bool_F h1) ?_
    refine f_condF rfl ?_
    refine f_skip ?_
    refine f_seq ?_
    refine f_region ?_
    refine f_op rfl rfl (s_mv (v := .sl v2) rfl) ?_
    refine f_op rfl rfl (s_mv (v := .int .i64 v1) rfl) ?_
    refine o_bind ?_; intro p5 hp5
    refine f_op rfl rfl (s_callF rfl ok49 (sim49 happ hp5)) ?_
    refine o_bind ?_; intro p6 hp6
    refine f_op rfl rfl (s_callF rfl ok48 (sim48 happ hp6)) ?_
    refine f_op rfl rfl (s_mv (v := .bool p6.1) rfl) ?_
    refine o_if (fun h7 => ?_) (fun h7 => ?_)
    · skip
      refine o_know 61 rfl (bool_T h7) ?_
      refine f_op rfl rfl (s_mv (v := .int .i64 v3) rfl) ?_
      refine f_op rfl rfl (s_eql rfl rfl) ?_
      refine f_op rfl rfl (s_pickT (v := .bool (decide (v3 = 0))) rfl rfl) ?_
      refine f_op rfl rfl (s_mv (v := .bool (decide (v3 = 0))) rfl) ?_
      refine o_if (fun h8 => ?_) (fun h8 => ?_)
      · skip
        refine o_know 65 rfl (dec_true h8) ?_
        refine o_bind ?_; intro p9 hp9
        refine f_op rfl rfl (s_callF rfl ok23 (sim23 happ hp9)) ?_
        refine f_op rfl rfl (s_pickT (v := .bool p9.1) rfl rfl) ?_
        refine f_op rfl rfl (s_as (v := .bool p9.1) rfl) ?_
        refine f_nil ?_
        exact f_ret (.tmp rfl (.nil)) rfl
      · skip
        refine o_know 65 rfl (dec_false h8) ?_
        refine f_no rfl rfl ?_
        refine f_op rfl rfl (s_pickF (v := .bool false) rfl rfl) ?_
        refine f_op rfl rfl (s_as (v := .bool false) rfl) ?_
        refine f_nil ?_
        exact f_ret (.tmp rfl (.nil)) rfl
    · skip
      refine o_know 61 rfl (bool_F h7) ?_
      refine f_no rfl rfl ?_
      refine f_no rfl rfl ?_
      refine f_op rfl rfl (s_pickF (v := .bool false) rfl rfl) ?_
      refine f_op rfl rfl (s_mv (v := .bool false) rfl) ?_
      refine f_no rfl rfl ?_
      refine f_op rfl rfl (s_pickF (v := .bool false) rfl rfl) ?_
      refine f_op rfl rfl (s_as (v := .bool false) rfl) ?_
      refine f_nil ?_
      exact f_ret (.tmp rfl (.nil)) rfl

theorem s10_j4 {app : App} (happ : AppSim Try.prog app) (v1 : Int) (v2 : Sl) (v3 : Int) (H : Hp) : Fin Try.prog Try.f10 ret10 68 (todoAt (bodyOf Try.f10) [1, 1, 1, 1] []) [(1, .int .i64 v1), (7, .sl v2), (8, .int .i64 v3)] H (r10_j4 app v1 v2 v3 H) := by
  unfold r10_j4
  refine f_seq ?_
  refine f_seq ?_
  refine f_region ?_
  refine f_op rfl rfl (s_mv (v := .int .i64 v1) rfl) ?_
  refine f_op rfl rfl (s_lss rfl rfl) ?_
  refine f_op rfl rfl (s_mv (v := .bool (decide (v1 < 1))) rfl) ?_
  refine o_if (fun h1 => ?_) (fun h1 => ?_)
  · skip
    refine o_know 43 rfl (dec_true h1) ?_
    refine f_no rfl rfl ?_
    refine f_no rfl rfl ?_
    refine f_op rfl rfl (s_pickT (v := .bool true) rfl rfl) ?_
    refine f_nil ?_
    refine f_keep [1, 7, 8, 46] ?_
    exact s10_j2 happ v1 v2 v3 true H
  · skip
    refine o_know 43 rfl (dec_false h1) ?_
    refine f_op rfl rfl (s_mv (v := .int .i64 v1) rfl) ?_
    refine f_op rfl rfl (s_gtr rfl rfl) ?_
    refine f_op rfl rfl (s_pickF (v := .bool (decide (6 < v1))) rfl rfl) ?_
    refine f_nil ?_
    refine f_keep [1, 7, 8, 46] ?_
    exact s10_j2 happ v1 v2 v3 (decide (6 < v1)) H

theorem s10_j0 {app : App} (happ : AppSim Try.prog app) (v1 : Int) (v2 : Sl) (v3 : Int) (v4 : Bool) (H : Hp) : Fin Try.prog Try.f10 ret10 68 (todoAt (bodyOf Try.f10) [1, 1, 1, 0, 1, 0, 1] []) [(1, .int .i64 v1), (7, .sl v2), (8, .int .i64 v3), (32, .bool v4)] H (r10_j0 app v1 v2 v3 v4 H) := by
  unfold r10_j0
  refine f_if (fun h1 => ?_) (fun h1 => ?_)
  · skip
    refine f_know 32 rfl (bool_T h1) ?_
    refine f_condT rfl ?_
    refine f_seq ?_
    refine f_region ?_
    refine f_op rfl rfl (s_as (v := .bool false) rfl) ?_
    refine f_nil ?_
    exact f_ret (.tmp rfl (.nil)) rfl
  · skip
    refine f_know 32 rfl (bool_F h1) ?_
    refine f_condF rfl ?_
    refine f_skip ?_
    refine f_keep [1, 7, 8] ?_
    exact s10_j4 happ v1 v2 v3 H

theorem s10_j3 {app : App} (happ : AppSim Try.prog app) (v1 : Int) (v2 : Sl) (v3 : Int) (v4 : Bool) (H : Hp) : Fin Try.prog Try.f10 ret10 68 (todoAt (bodyOf Try.f10) [1, 1, 1, 0, 1, 1, 1] []) [(1, .int .i64 v1), (7, .sl v2), (8, .int .i64 v3), (40, .bool v4)] H (r10_j3 app v1 v2 v3 v4 H) := by
  unfold r10_j3
  refine f_if (fun h1 => ?_) (fun h1 => ?_)
  · skip
    refine f_know 40 rfl (bool_T h1) ?_
    refine f_condT rfl ?_
    refine f_seq ?_
    refine f_region ?_
    refine f_op rfl rfl (s_as (v := .bool false) rfl) ?_
    refine f_nil ?_
    exact f_ret (.tmp rfl (.nil)) rfl
  · skip
    refine f_know 40 rfl (bool_F h1) ?_
    refine f_condF rfl ?_
    refine f_skip ?_
    refine f_keep [1, 7, 8] ?_
    exact s10_j4 happ v1 v2 v3 H

theorem s10_j1 {app : App} (happ : AppSim Try.prog app) (v1 : Sl) (v2 : Int) (v3 : Bool) (v4 : Int) (v5 : Sl) (v6 : Int) (v7 : Bool) (H : Hp) : Fin Try.prog Try.f10 ret10 68 (todoAt (bodyOf Try.f10) [1, 1, 1, 0, 1] []) [(0, .sl v1), (1, .int .i64 v2), (5, .bool v3), (6, .int .i64 v4), (7, .sl v5), (8, .int .i64 v6), (27, .bool v7)] H (r10_j1 app v1 v2 v3 v4 v5 v6 v7 H) := by
  unfold r10_j1
  refine f_if (fun h1 => ?_) (fun h1 => ?_)
  · skip
    refine f_know 27 rfl (bool_T h1) ?_
    refine f_condT rfl ?_
    refine f_seq ?_
    refine f_region ?_
    refine f_op rfl rfl (s_mv (v := .bool v3) rfl) ?_
    refine f_op rfl rfl (s_mv (v := .bool v3) rfl) ?_
    refine o_if (fun h2 => ?_) (fun h2 => ?_)
    · skip
      refine o_know 29 rfl (bool_T h2) ?_
      refine f_no rfl rfl ?_
      refine f_no rfl rfl ?_
      refine f_op rfl rfl (s_pickT (v := .bool true) rfl rfl) ?_
      refine f_nil ?_
      refine f_keep [1, 7, 8, 32] ?_
      exact s10_j0 happ v2 v5 v6 true H
    · skip
      refine o_know 29 rfl (bool_F h2) ?_
      refine f_op rfl rfl (s_mv (v := .int .i64 v4) rfl) ?_
      refine f_op rfl rfl (s_neq rfl rfl) ?_
      refine f_op rfl rfl (s_pickF (v := .bool (decide (v4 ≠ 2))) rfl rfl) ?_
      refine f_nil ?_
      refine f_keep [1, 7, 8, 32] ?_
      exact s10_j0 happ v2 v5 v6 (decide (v4 ≠ 2)) H
  · skip
    refine f_know 27 rfl (bool_F h1) ?_
    refine f_condF rfl ?_
    refine f_seq ?_
    refine f_region ?_
    refine f_op rfl rfl (s_mv (v := .bool v3) rfl) ?_
    refine f_op rfl rfl (s_mv (v := .sl v1) rfl) ?_
    refine o_bind ?_; intro p3 hp3
    refine f_op rfl rfl (s_callF rfl ok45 (sim45 hp3)) ?_
    refine f_op rfl rfl (s_neB Try.underlying4 rfl rfl) ?_
    refine f_op rfl rfl (s_mv (v := .bool (!(v3 == p3.1))) rfl) ?_
    refine o_if (fun h4 => ?_) (fun h4 => ?_)
    · skip
      refine o_know 37 rfl (bool_notT h4) ?_
      refine f_op rfl rfl (s_mv (v := .int .i64 v4) rfl) ?_
      refine f_op rfl rfl (s_neq rfl rfl) ?_
      refine f_op rfl rfl (s_pickF (v := .bool (decide (v4 ≠ 0))) rfl rfl) ?_
      refine f_nil ?_
      refine f_keep [1, 7, 8, 40] ?_
      exact s10_j3 happ v2 v5 v6 (decide (v4 ≠ 0)) p3.2
    · skip
      refine o_know 37 rfl (bool_notF h4) ?_
      refine f_no rfl rfl ?_
      refine f_no rfl rfl ?_
      refine f_op rfl rfl (s_pickT (v := .bool true) rfl rfl) ?_
      refine f_nil ?_
      refine f_keep [1, 7, 8, 40] ?_
      exact s10_j3 happ v2 v5 v6 true p3.2

theorem sim10 {app : App} (happ : AppSim Try.prog app) {a0 : Sl} {a1 : Int} {H : Hp} {p : Bool × Hp} (h : r10 app a0 a1 H = some p) : CallSim Try.prog 10 [.sl a0, .int .i64 a1] H (.bool p.1) p.2 := by
  refine callSim (fn := Try.f10) (ret := ret10) Try.func10 rfl Try.ntmps10 rfl ?_ h
  unfold r10
  refine f_seq ?_
  refine f_region ?_
  refine f_op rfl rfl (s_as (v := .bool false) rfl) ?_
  refine f_nil ?_
  refine f_seq ?_
  refine f_region ?_
  refine f_op rfl rfl (s_mv (v := .sl a0) rfl) ?_
  refine o_bind ?_; intro p1 hp1
  refine f_op rfl rfl (s_callF rfl ok31 (sim31 hp1)) ?_
  refine o_bind ?_; intro p2 hp2
  refine f_op rfl rfl (s_callF rfl ok38 (sim38 hp2)) ?_
  refine f_op rfl rfl (s_mv (v := .tup [.bool p2.1.1, .int .i64 p2.1.2]) rfl) ?_
  refine f_op rfl rfl (s_extract (r := .bool p2.1.1) rfl rfl) ?_
  refine f_op rfl rfl (s_extract (r := .int .i64 p2.1.2) rfl rfl) ?_
  refine f_op rfl rfl (s_as (v := .bool p2.1.1) rfl) ?_
  refine f_op rfl rfl (s_as (v := .int .i64 p2.1.2) rfl) ?_
  refine f_nil ?_
  refine f_seq ?_
  refine f_region ?_
  refine f_op rfl rfl (s_mv (v := .int .i64 a1) rfl) ?_
  refine o_bind ?_; intro p3 hp3
  refine f_op rfl rfl (s_callF rfl ok47 (sim47 happ hp3)) ?_
  refine f_op rfl rfl (s_mv (v := .tup [.sl p3.1.1, .int .i64 p3.1.2]) rfl) ?_
  refine f_op rfl rfl (s_extract (r := .sl p3.1.1) rfl rfl) ?_
  refine f_op rfl rfl (s_extract (r := .int .i64 p3.1.2) rfl rfl) ?_
  refine f_op rfl rfl (s_as (v := .sl p3.1.1) rfl) ?_
  refine f_op rfl rfl (s_as (v := .int .i64 p3.1.2) rfl) ?_
  refine f_nil ?_
  refine f_seq ?_
  refine f_seq ?_
  refine f_region ?_
  refine f_op rfl rfl (s_mv (v := .sl a0) rfl) ?_
  refine f_op rfl rfl (s_lenS rfl Try.underlying22 rfl) ?_
  refine f_op rfl rfl (s_lss rfl rfl) ?_
  refine f_op rfl rfl (s_mv (v := .bool (decide ((a0.len : Int) < 1))) rfl) ?_
  refine o_if (fun h4 => ?_) (fun h4 => ?_)
  · skip
    refine o_know 23 rfl (dec_true h4) ?_
    refine f_no rfl rfl ?_
    refine f_no rfl rfl ?_
    refine f_no rfl rfl ?_
    refine f_op rfl rfl (s_pickT (v := .bool true) rfl rfl) ?_
    refine f_nil ?_
    refine f_keep [0, 1, 5, 6, 7, 8, 27] ?_
    exact s10_j1 happ a0 a1 p2.1.1 p2.1.2 p3.1.1 p3.1.2 true p3.2
  · skip
    refine o_know 23 rfl (dec_false h4) ?_
    refine f_op rfl rfl (s_mv (v := .sl a0) rfl) ?_
    refine f_op rfl rfl (s_lenS rfl Try.underlying22 rfl) ?_
    refine f_op rfl rfl (s_gtr rfl rfl) ?_
    refine f_op rfl rfl (s_pickF (v := .bool (decide (6 < (a0.len : Int)))) rfl rfl) ?_
    refine f_nil ?_
    refine f_keep [0, 1, 5, 6, 7, 8, 27] ?_
    exact s10_j1 happ a0 a1 p2.1.1 p2.1.2 p3.1.1 p3.1.2 (decide (6 < (a0.len : Int))) p3.2

/- 74 congou/pairs.First$1 -/
theorem ok74 : FnOk Try.prog 74 := ⟨⟨Try.f74, Try.func74, by kernel_rfl, rfl⟩⟩
theorem sim74 {a0 : Sl} {c0 : Nat} {H : Hp} {p : Bool × Hp} (h : r74 a0 c0 H = some p) : CallSim Try.prog 74 [.sl a0, .ptr c0 0] H (.bool p.1) p.2 := by
  refine callSim (fn := Try.f74) (ret := ret74) Try.func74 rfl Try.ntmps74 rfl ?_ h
  unfold r74
  refine f_seq ?_
  refine f_region ?_
  refine f_op rfl rfl (s_as (v := .bool false) rfl) ?_
  refine f_nil ?_
  refine f_seq ?_
  refine f_region ?_
  refine f_op rfl rfl (s_mv (v := .sl a0) rfl) ?_
  refine o_bind ?_; intro p1 hp1
  refine f_op rfl rfl (s_callF rfl ok36 (sim36 hp1)) ?_
  refine o_bind ?_; intro H2 hH2
  refine f_op rfl rfl (s_store (s := 1) ty22 rfl rfl rfl hH2) ?_
  refine f_nil ?_
  refine f_seq ?_
  refine f_region ?_
  refine f_op rfl rfl (s_as (v := .bool false) rfl) ?_
  refine f_nil ?_
  exact f_ret (.tmp rfl (.nil)) rfl

end Go.Lt.P8
