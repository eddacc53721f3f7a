/- PRINTED BY A PROGRAM OF OURS: what each function that 'CutsLess' reaches computes on the abstract heap, and that the translated code does just that. Nothing is asked of the input. -/
import Derived.Test.YteefkljbmjjncaaG15P1
set_option linter.unusedVariables false
set_option linter.unusedSimpArgs false
set_option maxRecDepth 100000
set_option maxHeartbeats 4000000
namespace Go.Lt.P2
open Go Go.Lt Go.Proofs
/- 21 congou/congoulaw02.awake -/
theorem ok21 : FnOk Try.prog 21 := ⟨⟨Try.f21, Try.func21, by kernel_rfl, rfl⟩⟩
theorem sim21 {app : App} (happ : AppSim Try.prog app) {H : Hp} {p : Bool × Hp} (h : r21 app H = some p) : CallSim Try.prog 21 [] H (.bool p.1) p.2 := by
  refine callSim (fn := Try.f21) (ret := ret21) Try.func21 rfl Try.ntmps21 rfl ?_ h
  unfold r21
  refine f_seq ?_
  refine f_region ?_
  refine f_op rfl rfl (s_as (v := .bool false) rfl) ?_
  refine f_nil ?_
  refine f_seq ?_
  refine f_region ?_
  refine f_op rfl rfl (s_build (cs := [.int .i64 1, .int .i64 0, .int .i64 1]) Try.underlying47 ty47 rfl pl47 rfl) ?_
  refine f_op rfl rfl (s_build (cs := [.int .i64 (-1), .int .i64 0, .int .i64 (-1)]) Try.underlying47 ty47 rfl pl47 rfl) ?_
  refine f_op rfl rfl (s_build (cs := [.int .i64 0, .int .i64 1, .int .i64 2]) Try.underlying47 ty47 rfl pl47 rfl) ?_
  refine f_op rfl rfl (s_build (cs := [.int .i64 0, .int .i64 (-1), .int .i64 (-2)]) Try.underlying47 ty47 rfl pl47 rfl) ?_
  refine f_op rfl rfl (s_buildSlice (cs := [.int .i64 1, .int .i64 0, .int .i64 1, .int .i64 (-1), .int .i64 0, .int .i64 (-1), .int .i64 0, .int .i64 1, .int .i64 2, .int .i64 0, .int .i64 (-1), .int .i64 (-2)]) Try.underlying30 ty47 (by decide) (by decide) rfl (by decide) rfl) ?_
  refine o_bind ?_; intro p1 hp1
  refine f_op rfl rfl (s_callF rfl ok40 (sim40 happ hp1)) ?_
  refine f_op rfl rfl (s_mv (v := .tup [.sl p1.1.1, .int .i64 p1.1.2]) rfl) ?_
  refine f_op rfl rfl (s_extract (r := .sl p1.1.1) rfl rfl) ?_
  refine f_op rfl rfl (s_extract (r := .int .i64 p1.1.2) rfl rfl) ?_
  refine f_op rfl rfl (s_as (v := .sl p1.1.1) rfl) ?_
  refine f_op rfl rfl (s_as (v := .int .i64 p1.1.2) rfl) ?_
  refine f_nil ?_
  refine f_seq ?_
  refine f_region ?_
  refine f_op rfl rfl (s_mv (v := .int .i64 p1.1.2) rfl) ?_
  refine f_op rfl rfl (s_eql rfl rfl) ?_
  refine f_op rfl rfl (s_mv (v := .bool (decide (p1.1.2 = 0))) rfl) ?_
  refine o_if (fun h2 => ?_) (fun h2 => ?_)
  · skip
    refine o_know 14 rfl (dec_true h2) ?_
    refine f_op rfl rfl (s_mv (v := .sl p1.1.1) rfl) ?_
    refine f_op rfl rfl (s_lenS rfl Try.underlying37 rfl) ?_
    refine f_op rfl rfl (s_eql rfl rfl) ?_
    refine f_op rfl rfl (s_pickT (v := .bool (decide ((p1.1.1.len : Int) = 1))) rfl rfl) ?_
    refine f_op rfl rfl (s_mv (v := .bool (decide ((p1.1.1.len : Int) = 1))) rfl) ?_
    refine o_if (fun h3 => ?_) (fun h3 => ?_)
    · skip
      refine o_know 19 rfl (dec_true h3) ?_
      refine f_op rfl rfl (s_mv (v := .sl p1.1.1) rfl) ?_
      refine o_ck fun g4 => ?_
      refine f_op rfl rfl (s_idx Try.underlying37 ty43 rfl rfl g4) ?_
      refine o_bind ?_; intro x5 hx5
      refine o_bind ?_; intro x6 hx6
      refine f_op rfl rfl (s_loads Try.underlying43 rfl ty43 rfl (lds_cons (ldI_eq hx5) (lds_cons (ldI_eq hx6) (lds_nil)))) ?_
      refine f_op rfl rfl (s_buildA (cs := [.int .i64 1, .int .i64 2]) Try.underlying43 ty43 ty3 rfl rfl) ?_
      refine f_op rfl rfl (s_eqArr eg43 Try.underlying43 Try.underlying3 ty3 rfl rfl rfl rfl rfl rfl) ?_
      refine f_op rfl rfl (s_pickT (v := .bool (AV.keqs [.int .i64 x5, .int .i64 x6] [.int .i64 1, .int .i64 2])) rfl rfl) ?_
      refine f_op rfl rfl (s_as (v := .bool (AV.keqs [.int .i64 x5, .int .i64 x6] [.int .i64 1, .int .i64 2])) rfl) ?_
      refine f_nil ?_
      exact f_ret (.tmp rfl (.nil)) rfl
    · skip
      refine o_know 19 rfl (dec_false h3) ?_
      refine f_no rfl rfl ?_
      refine f_no rfl rfl ?_
      refine f_no rfl rfl ?_
      refine f_no rfl rfl ?_
      refine f_no rfl rfl ?_
      refine f_op rfl rfl (s_pickF (v := .bool false) rfl rfl) ?_
      refine f_op rfl rfl (s_as (v := .bool false) rfl) ?_
      refine f_nil ?_
      exact f_ret (.tmp rfl (.nil)) rfl
  · skip
    refine o_know 14 rfl (dec_false h2) ?_
    refine f_no rfl rfl ?_
    refine f_no rfl rfl ?_
    refine f_no rfl rfl ?_
    refine f_op rfl rfl (s_pickF (v := .bool false) rfl rfl) ?_
    refine f_op rfl rfl (s_mv (v := .bool false) rfl) ?_
    refine f_no rfl rfl ?_
    refine f_no rfl rfl ?_
    refine f_no rfl rfl ?_
    refine f_no rfl rfl ?_
    refine f_no rfl rfl ?_
    refine f_op rfl rfl (s_pickF (v := .bool false) rfl rfl) ?_
    refine f_op rfl rfl (s_as (v := .bool false) rfl) ?_
    refine f_nil ?_
    exact f_ret (.tmp rfl (.nil)) rfl

/- 82 slices.MaxFunc[[][2]int,[2]int] -/
theorem ok82 : FnOk Try.prog 82 := ⟨⟨Try.f82, Try.func82, by kernel_rfl, rfl⟩⟩
theorem s82_l0 {app : App} (happ : AppSim Try.prog app) : ∀ (k_ : Nat) (v1 : Sl) (v2 : AV) (v3 : Nat) (v4 : Nat) (v5 : Int) (H : Hp), Fin Try.prog Try.f82 ret82 33 (todoAt (bodyOf Try.f82) [1, 1, 1, 0, 1, 0, 0] []) [(0, .sl v1), (1, v2), (4, .ptr v3 0), (5, .ptr v4 0), (6, .int .i64 v5)] H (r82_l0 app k_ v1 v2 v3 v4 v5 H) := by
  intro k_
  induction k_ with
  | zero => intro _ _ _ _ _ _; exact f_none
  | succ k_ ih =>
    intro v1 v2 v3 v4 v5 H
    rw [r82_l0]
    refine f_seq ?_
    refine f_seq ?_
    refine f_region ?_
    refine f_op rfl rfl (s_mv (v := .int .i64 v5) rfl) ?_
    refine f_op rfl rfl (s_mv (v := .sl v1) rfl) ?_
    refine f_op rfl rfl (s_lenS rfl Try.underlying37 rfl) ?_
    refine f_op rfl rfl (s_lss rfl rfl) ?_
    refine f_nil ?_
    refine f_if (fun h1 => ?_) (fun h1 => ?_)
    · skip
      refine f_know 17 rfl (dec_true h1) ?_
      refine f_condT rfl ?_
      refine f_skip ?_
      refine f_seq ?_
      refine f_block ?_
      refine f_seq ?_
      refine f_ck fun g2 => ?_
      refine f_bind ?_; intro x3 hx3
      refine f_bind ?_; intro x4 hx4
      refine f_bind ?_; intro x5 hx5
      refine f_bind ?_; intro x6 hx6
      refine f_bind ?_; intro p7 hp7
      refine f_bind ?_; intro x8 hx8
      refine f_draw (Φ := fun _ => True) (lim := 1000000) [0, 0, 0, 0, 1, 1, 2, 0] (Trc.pure rfl rfl rfl (.inl fun _ => s_mv (v := v2) rfl) (Trc.pure rfl rfl rfl (.inl fun _ => s_mv (v := .sl v1) rfl) (Trc.pure rfl rfl rfl (.inl fun _ => s_mv (v := .int .i64 v5) rfl) (Trc.pure rfl rfl rfl (.inl fun _ => s_idx Try.underlying37 ty43 rfl rfl g2) (Trc.read rfl rfl rfl (s_loads Try.underlying43 rfl ty43 rfl (lds_cons (ldI_eq hx3) (lds_cons (ldI_eq hx4) (lds_nil)))) (Trc.read rfl rfl rfl (s_loads Try.underlying43 rfl ty43 rfl (lds_cons (ldI_eq hx5) (lds_cons (ldI_eq hx6) (lds_nil)))) (Trc.eff rfl rfl rfl (fun _ => trivial) (s_callv happ rfl rfl hp7) (Trc.know 26 rfl (asI_eq hx8) (Trc.pure rfl rfl rfl (.inl fun _ => s_gtr rfl rfl) (Trc.nil (fun _ => trivial))))))))))) rfl (by decide +kernel) mixed ?_
      refine f_if (fun h9 => ?_) (fun h9 => ?_)
      · skip
        refine f_know 27 rfl (dec_true h9) ?_
        refine f_condT rfl ?_
        refine f_region ?_
        refine f_op rfl rfl (s_mv (v := .sl v1) rfl) ?_
        refine f_op rfl rfl (s_mv (v := .int .i64 v5) rfl) ?_
        refine o_ck fun g10 => ?_
        refine f_op rfl rfl (s_idx Try.underlying37 ty43 rfl rfl g10) ?_
        refine o_bind ?_; intro x11 hx11
        refine o_bind ?_; intro x12 hx12
        refine f_op rfl rfl (s_loads Try.underlying43 rfl ty43 rfl (lds_cons (ldI_eq hx11) (lds_cons (ldI_eq hx12) (lds_nil)))) ?_
        refine o_bind ?_; intro H13 hH13
        refine f_op rfl rfl (s_stores ty43 rfl rfl rfl rfl hH13 (Nat.le_of_eq (sts_mono hH13).symm)) ?_
        refine f_nil ?_
        refine f_inBlock ?_
        refine f_region ?_
        refine f_op rfl rfl (s_mv (v := .int .i64 v5) rfl) ?_
        refine f_op rfl rfl (s_add rfl rfl) ?_
        refine f_op rfl rfl (s_as (v := .int .i64 (w64 (v5 + 1))) rfl) ?_
        refine f_nil ?_
        refine f_inLoop ?_
        refine f_keep [0, 1, 4, 5, 6] ?_
        exact ih v1 v2 v3 v4 (w64 (v5 + 1)) H13
      · skip
        refine f_know 27 rfl (dec_false h9) ?_
        refine f_condF rfl ?_
        refine f_skip ?_
        refine f_inBlock ?_
        refine f_region ?_
        refine f_op rfl rfl (s_mv (v := .int .i64 v5) rfl) ?_
        refine f_op rfl rfl (s_add rfl rfl) ?_
        refine f_op rfl rfl (s_as (v := .int .i64 (w64 (v5 + 1))) rfl) ?_
        refine f_nil ?_
        refine f_inLoop ?_
        refine f_keep [0, 1, 4, 5, 6] ?_
        exact ih v1 v2 v3 v4 (w64 (v5 + 1)) p7.2
    · skip
      refine f_know 17 rfl (dec_false h1) ?_
      refine f_condF rfl ?_
      refine f_exit rfl ?_
      refine f_seq ?_
      refine f_region ?_
      refine o_bind ?_; intro x14 hx14
      refine o_bind ?_; intro x15 hx15
      refine f_op rfl rfl (s_loads Try.underlying43 rfl ty43 rfl (lds_cons (ldI_eq hx14) (lds_cons (ldI_eq hx15) (lds_nil)))) ?_
      refine o_bind ?_; intro H16 hH16
      refine f_op rfl rfl (s_stores ty43 rfl rfl rfl rfl hH16 (Nat.le_of_eq (sts_mono hH16).symm)) ?_
      refine f_nil ?_
      refine f_bind ?_; intro x17 hx17
      refine f_bind ?_; intro x18 hx18
      exact f_ret (.cells Try.underlying43 rfl sz43 rfl (lds_cons (ldI_eq hx17) (lds_cons (ldI_eq hx18) (lds_nil))) (.nil)) rfl

theorem sim82 {app : App} (happ : AppSim Try.prog app) {a0 : Sl} {a1 : AV} {H : Hp} {p : (Int × Int) × Hp} (h : r82 app a0 a1 H = some p) : CallSim Try.prog 82 [.sl a0, a1] H (.agg [.int .i64 p.1.1, .int .i64 p.1.2]) p.2 := by
  refine callSim (fn := Try.f82) (ret := ret82) Try.func82 rfl Try.ntmps82 rfl ?_ h
  unfold r82
  refine f_seq ?_
  refine f_region ?_
  refine f_op rfl rfl (s_alloc (zs := [.int .i64 0, .int .i64 0]) ty43 rfl rfl) ?_
  refine o_hp ?_; intro H1 hH1
  refine f_nil ?_
  refine f_seq ?_
  refine f_seq ?_
  refine f_region ?_
  refine f_op rfl rfl (s_mv (v := .sl a0) rfl) ?_
  refine f_op rfl rfl (s_lenS rfl Try.underlying37 rfl) ?_
  refine f_op rfl rfl (s_lss rfl rfl) ?_
  refine f_nil ?_
  refine f_if (fun h2 => ?_) (fun h2 => ?_)
  · skip
    refine f_know 9 rfl (dec_true h2) ?_
    refine f_condT rfl ?_
    refine f_region ?_
    exact o_none
  · skip
    refine f_know 9 rfl (dec_false h2) ?_
    refine f_condF rfl ?_
    refine f_skip ?_
    refine f_seq ?_
    refine f_region ?_
    refine f_op rfl rfl (s_mv (v := .sl a0) rfl) ?_
    refine o_ck fun g3 => ?_
    refine f_op rfl rfl (s_idx Try.underlying37 ty43 rfl rfl g3) ?_
    refine o_bind ?_; intro x4 hx4
    refine o_bind ?_; intro x5 hx5
    refine f_op rfl rfl (s_loads Try.underlying43 rfl ty43 rfl (lds_cons (ldI_eq hx4) (lds_cons (ldI_eq hx5) (lds_nil)))) ?_
    refine f_op rfl rfl (s_alloc (zs := [.int .i64 0, .int .i64 0]) ty43 rfl rfl) ?_
    refine o_bind ?_; intro H6 hH6
    refine f_op rfl rfl (s_stores ty43 rfl rfl rfl rfl hH6 (Nat.le_of_eq (sts_mono hH6).symm)) ?_
    refine f_nil ?_
    refine f_seq ?_
    refine f_seq ?_
    refine f_region ?_
    refine f_op rfl rfl (s_as (v := .int .i64 1) rfl) ?_
    refine f_nil ?_
    refine f_block ?_
    refine f_loop ?_
    refine f_keep [0, 1, 4, 5, 6] ?_
    exact s82_l0 happ FUEL a0 a1 H.n H1.n 1 H6

/- 42 congou/cuts.Best -/
theorem ok42 : FnOk Try.prog 42 := ⟨⟨Try.f42, Try.func42, by kernel_rfl, rfl⟩⟩
theorem s42_j0 {app : App} (happ : AppSim Try.prog app) (v1 : Sl) (v2 : Nat) (v3 : Nat) (v4 : Bool) (H : Hp) : Fin Try.prog Try.f42 ret42 31 (todoAt (bodyOf Try.f42) [1, 0, 1] []) [(0, .sl v1), (4, .ptr v2 0), (5, .ptr v3 0), (19, .bool v4)] H (r42_j0 app v1 v2 v3 v4 H) := by
  unfold r42_j0
  refine f_if (fun h1 => ?_) (fun h1 => ?_)
  · skip
    refine f_know 19 rfl (bool_T h1) ?_
    refine f_condT rfl ?_
    refine f_seq ?_
    refine f_region ?_
    refine f_op rfl rfl (s_as (v := .int .i64 0) rfl) ?_
    refine f_op rfl rfl (s_as (v := .int .i64 2) rfl) ?_
    refine f_nil ?_
    exact f_ret (.tmp rfl (.tmp rfl (.nil))) rfl
  · skip
    refine f_know 19 rfl (bool_F h1) ?_
    refine f_condF rfl ?_
    refine f_skip ?_
    refine f_seq ?_
    refine f_region ?_
    refine f_op rfl rfl (s_mv (v := .sl v1) rfl) ?_
    refine o_bind ?_; intro p2 hp2
    refine f_op rfl rfl (s_callF rfl ok71 (sim71 happ hp2)) ?_
    refine f_op rfl rfl (s_as (v := .sl p2.1) rfl) ?_
    refine f_nil ?_
    refine f_seq ?_
    refine f_seq ?_
    refine f_region ?_
    refine f_op rfl rfl (s_mv (v := .sl p2.1) rfl) ?_
    refine f_op rfl rfl (s_lenS rfl Try.underlying37 rfl) ?_
    refine f_op rfl rfl (s_eql rfl rfl) ?_
    refine f_nil ?_
    refine f_if (fun h3 => ?_) (fun h3 => ?_)
    · skip
      refine f_know 24 rfl (dec_true h3) ?_
      refine f_condT rfl ?_
      refine f_seq ?_
      refine f_region ?_
      refine f_op rfl rfl (s_as (v := .int .i64 0) rfl) ?_
      refine f_op rfl rfl (s_as (v := .int .i64 4) rfl) ?_
      refine f_nil ?_
      exact f_ret (.tmp rfl (.tmp rfl (.nil))) rfl
    · skip
      refine f_know 24 rfl (dec_false h3) ?_
      refine f_condF rfl ?_
      refine f_skip ?_
      refine f_seq ?_
      refine f_region ?_
      refine f_op rfl rfl (s_makeFunc rfl rfl) ?_
      refine f_op rfl rfl (s_alloc (zs := [.nilfn]) ty117 rfl rfl) ?_
      refine o_bind ?_; intro H4 hH4
      refine f_op rfl rfl (s_store (s := 1) ty117 rfl rfl rfl hH4) ?_
      refine f_nil ?_
      refine f_seq ?_
      refine f_bind ?_; intro x5 hx5
      refine f_bind ?_; intro p6 hp6
      refine f_bind ?_; intro p7 hp7
      refine f_bind ?_; intro x8 hx8
      refine f_ck fun g9 => ?_
      refine f_draw (Φ := fun H_ => H_.ld p2.2.n 0 = some (x5)) (lim := 4) [0, 0, 0, 2, 2, 0, 0] (Trc.pure rfl rfl rfl (.inr ⟨by decide +kernel, fun _ hp_ => s_load Try.underlying117 rfl rfl hp_⟩) (Trc.pure rfl rfl rfl (.inl fun _ => s_mv (v := .sl p2.1) rfl) (Trc.pure rfl rfl rfl (.inl fun _ => s_makeFunc rfl rfl) (Trc.eff rfl rfl rfl (fun _ => ldV_eq hx5) (s_callF rfl ok82 (sim82 happ hp6)) (Trc.eff rfl rfl rfl (fun _ => isV_eq g9) (s_callv happ rfl rfl hp7) (Trc.know 30 rfl (asI_eq hx8) (Trc.pure rfl rfl rfl (.inl fun _ => s_as (v := .int .i64 x8) rfl) (Trc.pure rfl rfl rfl (.inl fun _ => s_as (v := .int .i64 0) rfl) (Trc.nil (fun h_ => absurd h_ (by decide +kernel))))))))))) rfl (by decide +kernel) mixed ?_
      exact f_ret (.tmp rfl (.tmp rfl (.nil))) rfl

theorem sim42 {app : App} (happ : AppSim Try.prog app) {a0 : Sl} {a1 : Int} {a2 : Int} {H : Hp} {p : (Int × Int) × Hp} (h : r42 app a0 a1 a2 H = some p) : CallSim Try.prog 42 [.sl a0, .int .i64 a1, .int .i64 a2] H (.tup [.int .i64 p.1.1, .int .i64 p.1.2]) p.2 := by
  refine callSim (fn := Try.f42) (ret := ret42) Try.func42 rfl Try.ntmps42 rfl ?_ h
  unfold r42
  refine f_seq ?_
  refine f_region ?_
  refine f_op rfl rfl (s_box1 (v := .int .i64 a1) rfl rfl) ?_
  refine f_op rfl rfl (s_box1 (v := .int .i64 a2) rfl rfl) ?_
  refine f_op rfl rfl (s_as (v := .int .i64 0) rfl) ?_
  refine f_op rfl rfl (s_as (v := .int .i64 0) rfl) ?_
  refine o_hp ?_; intro H1 hH1
  refine f_nil ?_
  refine f_seq ?_
  refine f_seq ?_
  refine f_region ?_
  refine f_op rfl rfl (s_mv (v := .sl a0) rfl) ?_
  refine o_bind ?_; intro p2 hp2
  refine f_op rfl rfl (s_callF rfl ok63 (sim63 happ hp2)) ?_
  refine f_op rfl rfl (s_not rfl) ?_
  refine f_op rfl rfl (s_mv (v := .bool (!p2.1)) rfl) ?_
  refine o_if (fun h3 => ?_) (fun h3 => ?_)
  · skip
    refine o_know 13 rfl (bool_notT h3) ?_
    refine o_bind ?_; intro x4 hx4
    refine f_op rfl rfl (s_load Try.underlying3 rfl rfl (ldI_eq hx4)) ?_
    refine o_bind ?_; intro x5 hx5
    refine f_op rfl rfl (s_load Try.underlying3 rfl rfl (ldI_eq hx5)) ?_
    refine f_op rfl rfl (s_buildSlice (cs := [.int .i64 x4, .int .i64 x5]) Try.underlying76 ty3 (by decide) (by decide) rfl (by decide) rfl) ?_
    refine o_bind ?_; intro p6 hp6
    refine f_op rfl rfl (s_callF rfl ok79 (sim79 happ hp6)) ?_
    refine f_op rfl rfl (s_not rfl) ?_
    refine f_op rfl rfl (s_pickF (v := .bool (!p6.1)) rfl rfl) ?_
    refine f_nil ?_
    refine f_keep [0, 4, 5, 19] ?_
    exact s42_j0 happ a0 H.n ((H.push (.cells [.int .i64 a1] false)).n) (!p6.1) p6.2
  · skip
    refine o_know 13 rfl (bool_notF h3) ?_
    refine f_no rfl rfl ?_
    refine f_no rfl rfl ?_
    refine f_no rfl rfl ?_
    refine f_no rfl rfl ?_
    refine f_no rfl rfl ?_
    refine f_op rfl rfl (s_pickT (v := .bool true) rfl rfl) ?_
    refine f_nil ?_
    refine f_keep [0, 4, 5, 19] ?_
    exact s42_j0 happ a0 H.n ((H.push (.cells [.int .i64 a1] false)).n) true p2.2

/- 48 congou/congoulaw02.near -/
theorem ok48 : FnOk Try.prog 48 := ⟨⟨Try.f48, Try.func48, by kernel_rfl, rfl⟩⟩
theorem sim48 {a0 : Int} {a1 : Int} {H : Hp} {p : Bool × Hp} (h : r48 a0 a1 H = some p) : CallSim Try.prog 48 [.int .i64 a0, .int .i64 a1] H (.bool p.1) p.2 := by
  refine callSim (fn := Try.f48) (ret := ret48) Try.func48 rfl Try.ntmps48 rfl ?_ h
  unfold r48
  refine f_seq ?_
  refine f_region ?_
  refine f_op rfl rfl (s_as (v := .bool false) rfl) ?_
  refine f_nil ?_
  refine f_seq ?_
  refine f_region ?_
  refine f_op rfl rfl (s_mv (v := .int .i64 a0) rfl) ?_
  refine f_op rfl rfl (s_geq rfl rfl) ?_
  refine f_op rfl rfl (s_mv (v := .bool (decide ((-9) ≤ a0))) rfl) ?_
  refine o_if (fun h1 => ?_) (fun h1 => ?_)
  · skip
    refine o_know 7 rfl (dec_true h1) ?_
    refine f_op rfl rfl (s_mv (v := .int .i64 a0) rfl) ?_
    refine f_op rfl rfl (s_leq rfl rfl) ?_
    refine f_op rfl rfl (s_pickT (v := .bool (decide (a0 ≤ 9))) rfl rfl) ?_
    refine f_op rfl rfl (s_mv (v := .bool (decide (a0 ≤ 9))) rfl) ?_
    refine o_if (fun h2 => ?_) (fun h2 => ?_)
    · skip
      refine o_know 11 rfl (dec_true h2) ?_
      refine f_op rfl rfl (s_mv (v := .int .i64 a1) rfl) ?_
      refine f_op rfl rfl (s_geq rfl rfl) ?_
      refine f_op rfl rfl (s_pickT (v := .bool (decide ((-9) ≤ a1))) rfl rfl) ?_
      refine f_op rfl rfl (s_mv (v := .bool (decide ((-9) ≤ a1))) rfl) ?_
      refine o_if (fun h3 => ?_) (fun h3 => ?_)
      · skip
        refine o_know 15 rfl (dec_true h3) ?_
        refine f_op rfl rfl (s_mv (v := .int .i64 a1) rfl) ?_
        refine f_op rfl rfl (s_leq rfl rfl) ?_
        refine f_op rfl rfl (s_pickT (v := .bool (decide (a1 ≤ 9))) rfl rfl) ?_
        refine f_op rfl rfl (s_as (v := .bool (decide (a1 ≤ 9))) rfl) ?_
        refine f_nil ?_
        exact f_ret (.tmp rfl (.nil)) rfl
      · skip
        refine o_know 15 rfl (dec_false h3) ?_
        refine f_no rfl rfl ?_
        refine f_no rfl rfl ?_
        refine f_op rfl rfl (s_pickF (v := .bool false) rfl rfl) ?_
        refine f_op rfl rfl (s_as (v := .bool false) rfl) ?_
        refine f_nil ?_
        exact f_ret (.tmp rfl (.nil)) rfl
    · skip
      refine o_know 11 rfl (dec_false h2) ?_
      refine f_no rfl rfl ?_
      refine f_no rfl rfl ?_
      refine f_op rfl rfl (s_pickF (v := .bool false) rfl rfl) ?_
      refine f_op rfl rfl (s_mv (v := .bool false) rfl) ?_
      refine f_no rfl rfl ?_
      refine f_no rfl rfl ?_
      refine f_op rfl rfl (s_pickF (v := .bool false) rfl rfl) ?_
      refine f_op rfl rfl (s_as (v := .bool false) rfl) ?_
      refine f_nil ?_
      exact f_ret (.tmp rfl (.nil)) rfl
  · skip
    refine o_know 7 rfl (dec_false h1) ?_
    refine f_no rfl rfl ?_
    refine f_no rfl rfl ?_
    refine f_op rfl rfl (s_pickF (v := .bool false) rfl rfl) ?_
    refine f_op rfl rfl (s_mv (v := .bool false) rfl) ?_
    refine f_no rfl rfl ?_
    refine f_no rfl rfl ?_
    refine f_op rfl rfl (s_pickF (v := .bool false) rfl rfl) ?_
    refine f_op rfl rfl (s_mv (v := .bool false) rfl) ?_
    refine f_no rfl rfl ?_
    refine f_no rfl rfl ?_
    refine f_op rfl rfl (s_pickF (v := .bool false) rfl rfl) ?_
    refine f_op rfl rfl (s_as (v := .bool false) rfl) ?_
    refine f_nil ?_
    exact f_ret (.tmp rfl (.nil)) rfl

/- 114 slices.insertionSortCmpFunc[congou/cuts.Point] -/
theorem ok114 : FnOk Try.prog 114 := ⟨⟨Try.f114, Try.func114, by kernel_rfl, rfl⟩⟩
theorem s114_j2 {app : App} (happ : AppSim Try.prog app) (kt0 : Sl → Int → Int → AV → Int → Hp → Option (Unit × Hp)) (hkt0 : ∀ (v1 : Sl) (v2 : Int) (v3 : Int) (v4 : AV) (v5 : Int) (H : Hp), Fin Try.prog Try.f114 ret114 53 (todoAt (bodyOf Try.f114) [1, 0, 0] []) [(0, .sl v1), (1, .int .i64 v2), (2, .int .i64 v3), (3, v4), (8, .int .i64 v5)] H (kt0 v1 v2 v3 v4 v5 H)) (kt1 : Sl → Int → Int → AV → Int → Int → Hp → Option (Unit × Hp)) (hkt1 : ∀ (v1 : Sl) (v2 : Int) (v3 : Int) (v4 : AV) (v5 : Int) (v6 : Int) (H : Hp), Fin Try.prog Try.f114 ret114 53 (todoAt (bodyOf Try.f114) [1, 0, 0, 1, 0, 0, 1, 0, 0] []) [(0, .sl v1), (1, .int .i64 v2), (2, .int .i64 v3), (3, v4), (8, .int .i64 v5), (9, .int .i64 v6)] H (kt1 v1 v2 v3 v4 v5 v6 H)) (v1 : Sl) (v2 : Int) (v3 : Int) (v4 : AV) (v5 : Int) (v6 : Int) (v7 : Bool) (H : Hp) : Fin Try.prog Try.f114 ret114 53 (todoAt (bodyOf Try.f114) [1, 0, 0, 1, 0, 0, 1, 0, 0, 0, 1] []) [(0, .sl v1), (1, .int .i64 v2), (2, .int .i64 v3), (3, v4), (8, .int .i64 v5), (9, .int .i64 v6), (34, .bool v7)] H (r114_j2 app kt0 kt1 v1 v2 v3 v4 v5 v6 v7 H) := by
  unfold r114_j2
  refine f_if (fun h1 => ?_) (fun h1 => ?_)
  · skip
    refine f_know 34 rfl (bool_T h1) ?_
    refine f_condT rfl ?_
    refine f_skip ?_
    refine f_seq ?_
    refine f_block ?_
    refine f_ck fun g2 => ?_
    refine f_bind ?_; intro x3 hx3
    refine f_bind ?_; intro x4 hx4
    refine f_bind ?_; intro x5 hx5
    refine f_bind ?_; intro x6 hx6
    refine f_ck fun g7 => ?_
    refine f_bind ?_; intro x8 hx8
    refine f_bind ?_; intro x9 hx9
    refine f_bind ?_; intro x10 hx10
    refine f_bind ?_; intro x11 hx11
    refine f_ck fun g12 => ?_
    refine f_bind ?_; intro H13 hH13
    refine f_ck fun g14 => ?_
    refine f_bind ?_; intro H15 hH15
    refine f_draw (Φ := fun _ => True) (lim := 1000000) [0, 0, 0, 0, 0, 0, 0, 0, 0, 1, 0, 0, 0, 1, 0, 2, 0, 2] (Trc.pure rfl rfl rfl (.inl fun _ => s_mv (v := .sl v1) rfl) (Trc.pure rfl rfl rfl (.inl fun _ => s_mv (v := .int .i64 v6) rfl) (Trc.pure rfl rfl rfl (.inl fun _ => s_mv (v := .sl v1) rfl) (Trc.pure rfl rfl rfl (.inl fun _ => s_mv (v := .int .i64 v6) rfl) (Trc.pure rfl rfl rfl (.inl fun _ => s_sub rfl rfl) (Trc.pure rfl rfl rfl (.inl fun _ => s_mv (v := .sl v1) rfl) (Trc.pure rfl rfl rfl (.inl fun _ => s_mv (v := .int .i64 v6) rfl) (Trc.pure rfl rfl rfl (.inl fun _ => s_sub rfl rfl) (Trc.pure rfl rfl rfl (.inl fun _ => s_idx Try.underlying83 ty32 rfl rfl g2) (Trc.read rfl rfl rfl (s_loads Try.underlying32 rfl ty32 rfl (lds_cons (ldI_eq hx3) (lds_cons (ldI_eq hx4) (lds_cons (ldI_eq hx5) (lds_cons (ldI_eq hx6) (lds_nil)))))) (Trc.pure rfl rfl rfl (.inl fun _ => s_mv (v := .sl v1) rfl) (Trc.pure rfl rfl rfl (.inl fun _ => s_mv (v := .int .i64 v6) rfl) (Trc.pure rfl rfl rfl (.inl fun _ => s_idx Try.underlying83 ty32 rfl rfl g7) (Trc.read rfl rfl rfl (s_loads Try.underlying32 rfl ty32 rfl (lds_cons (ldI_eq hx8) (lds_cons (ldI_eq hx9) (lds_cons (ldI_eq hx10) (lds_cons (ldI_eq hx11) (lds_nil)))))) (Trc.pure rfl rfl rfl (.inl fun _ => s_idx Try.underlying83 ty32 rfl rfl g12) (Trc.eff rfl rfl rfl (fun _ => trivial) (s_stores ty32 rfl rfl rfl rfl hH13 (Nat.le_of_eq (sts_mono hH13).symm)) (Trc.pure rfl rfl rfl (.inl fun _ => s_idx Try.underlying83 ty32 rfl rfl g14) (Trc.eff rfl rfl rfl (fun _ => trivial) (s_stores ty32 rfl rfl rfl rfl hH15 (Nat.le_of_eq (sts_mono hH15).symm)) (Trc.nil (fun _ => trivial)))))))))))))))))))) rfl (by decide +kernel) mixed ?_
    refine f_inBlock ?_
    refine f_region ?_
    refine f_op rfl rfl (s_mv (v := .int .i64 v6) rfl) ?_
    refine f_op rfl rfl (s_sub rfl rfl) ?_
    refine f_op rfl rfl (s_as (v := .int .i64 (w64 (v6 - 1))) rfl) ?_
    refine f_nil ?_
    refine f_inLoop ?_
    refine f_keep [0, 1, 2, 3, 8, 9] ?_
    exact hkt1 v1 v2 v3 v4 v5 (w64 (v6 - 1)) H15
  · skip
    refine f_know 34 rfl (bool_F h1) ?_
    refine f_condF rfl ?_
    refine f_exit rfl ?_
    refine f_inBlock ?_
    refine f_region ?_
    refine f_op rfl rfl (s_mv (v := .int .i64 v5) rfl) ?_
    refine f_op rfl rfl (s_add rfl rfl) ?_
    refine f_op rfl rfl (s_as (v := .int .i64 (w64 (v5 + 1))) rfl) ?_
    refine f_nil ?_
    refine f_inLoop ?_
    refine f_keep [0, 1, 2, 3, 8] ?_
    exact hkt0 v1 v2 v3 v4 (w64 (v5 + 1)) H

theorem s114_l1 {app : App} (happ : AppSim Try.prog app) (kt0 : Sl → Int → Int → AV → Int → Hp → Option (Unit × Hp)) (hkt0 : ∀ (v1 : Sl) (v2 : Int) (v3 : Int) (v4 : AV) (v5 : Int) (H : Hp), Fin Try.prog Try.f114 ret114 53 (todoAt (bodyOf Try.f114) [1, 0, 0] []) [(0, .sl v1), (1, .int .i64 v2), (2, .int .i64 v3), (3, v4), (8, .int .i64 v5)] H (kt0 v1 v2 v3 v4 v5 H)) : ∀ (k_ : Nat) (v1 : Sl) (v2 : Int) (v3 : Int) (v4 : AV) (v5 : Int) (v6 : Int) (H : Hp), Fin Try.prog Try.f114 ret114 53 (todoAt (bodyOf Try.f114) [1, 0, 0, 1, 0, 0, 1, 0, 0] []) [(0, .sl v1), (1, .int .i64 v2), (2, .int .i64 v3), (3, v4), (8, .int .i64 v5), (9, .int .i64 v6)] H (r114_l1 app kt0 k_ v1 v2 v3 v4 v5 v6 H) := by
  intro k_
  induction k_ with
  | zero => intro _ _ _ _ _ _ _; exact f_none
  | succ k_ ih =>
    intro v1 v2 v3 v4 v5 v6 H
    rw [r114_l1]
    refine f_seq ?_
    refine f_seq ?_
    refine f_if (fun h1 => ?_) (fun h1 => ?_)
    · skip
      refine f_ck fun g2 => ?_
      refine f_bind ?_; intro x3 hx3
      refine f_bind ?_; intro x4 hx4
      refine f_bind ?_; intro x5 hx5
      refine f_bind ?_; intro x6 hx6
      refine f_ck fun g7 => ?_
      refine f_bind ?_; intro x8 hx8
      refine f_bind ?_; intro x9 hx9
      refine f_bind ?_; intro x10 hx10
      refine f_bind ?_; intro x11 hx11
      refine f_bind ?_; intro p12 hp12
      refine f_bind ?_; intro x13 hx13
      refine f_draw (Φ := fun _ => True) (lim := 1000000) [0, 0, 0, 0, 0, 0, 0, 0, 1, 0, 0, 0, 0, 1, 2, 0, 0] (Trc.pure rfl rfl rfl (.inl fun _ => s_mv (v := .int .i64 v6) rfl) (Trc.pure rfl rfl rfl (.inl fun _ => s_mv (v := .int .i64 v2) rfl) (Trc.pure rfl rfl rfl (.inl fun _ => s_gtr rfl rfl) (Trc.pure rfl rfl rfl (.inl fun _ => s_mv (v := .bool (decide (v2 < v6))) rfl) (Trc.know 21 rfl (dec_true h1) (Trc.pure rfl rfl rfl (.inl fun _ => s_mv (v := v4) rfl) (Trc.pure rfl rfl rfl (.inl fun _ => s_mv (v := .sl v1) rfl) (Trc.pure rfl rfl rfl (.inl fun _ => s_mv (v := .int .i64 v6) rfl) (Trc.pure rfl rfl rfl (.inl fun _ => s_idx Try.underlying83 ty32 rfl rfl g2) (Trc.read rfl rfl rfl (s_loads Try.underlying32 rfl ty32 rfl (lds_cons (ldI_eq hx3) (lds_cons (ldI_eq hx4) (lds_cons (ldI_eq hx5) (lds_cons (ldI_eq hx6) (lds_nil)))))) (Trc.pure rfl rfl rfl (.inl fun _ => s_mv (v := .sl v1) rfl) (Trc.pure rfl rfl rfl (.inl fun _ => s_mv (v := .int .i64 v6) rfl) (Trc.pure rfl rfl rfl (.inl fun _ => s_sub rfl rfl) (Trc.pure rfl rfl rfl (.inl fun _ => s_idx Try.underlying83 ty32 rfl rfl g7) (Trc.read rfl rfl rfl (s_loads Try.underlying32 rfl ty32 rfl (lds_cons (ldI_eq hx8) (lds_cons (ldI_eq hx9) (lds_cons (ldI_eq hx10) (lds_cons (ldI_eq hx11) (lds_nil)))))) (Trc.eff rfl rfl rfl (fun _ => trivial) (s_callv happ rfl rfl hp12) (Trc.know 32 rfl (asI_eq hx13) (Trc.pure rfl rfl rfl (.inl fun _ => s_lss rfl rfl) (Trc.pure rfl rfl rfl (.inl fun _ => s_pickT (v := .bool (decide (x13 < 0))) rfl rfl) (Trc.nil (fun _ => trivial))))))))))))))))))))) rfl (by decide +kernel) mixed ?_
      refine f_keep [0, 1, 2, 3, 8, 9, 34] ?_
      exact s114_j2 happ _ hkt0 _ (fun v1_ v2_ v3_ v4_ v5_ v6_ H_ => ih v1_ v2_ v3_ v4_ v5_ v6_ H_) v1 v2 v3 v4 v5 v6 (decide (x13 < 0)) p12.2
    · skip
      refine f_draw (Φ := fun _ => True) (lim := 1000000) [0, 0, 0, 0, 0, 0, 0, 0, 0, 0, 0, 0, 0, 0, 0, 0, 0] (Trc.pure rfl rfl rfl (.inl fun _ => s_mv (v := .int .i64 v6) rfl) (Trc.pure rfl rfl rfl (.inl fun _ => s_mv (v := .int .i64 v2) rfl) (Trc.pure rfl rfl rfl (.inl fun _ => s_gtr rfl rfl) (Trc.pure rfl rfl rfl (.inl fun _ => s_mv (v := .bool (decide (v2 < v6))) rfl) (Trc.know 21 rfl (dec_false h1) (Trc.no rfl rfl rfl (Trc.no rfl rfl rfl (Trc.no rfl rfl rfl (Trc.no rfl rfl rfl (Trc.no rfl rfl rfl (Trc.no rfl rfl rfl (Trc.no rfl rfl rfl (Trc.no rfl rfl rfl (Trc.no rfl rfl rfl (Trc.no rfl rfl rfl (Trc.no rfl rfl rfl (Trc.no rfl rfl rfl (Trc.pure rfl rfl rfl (.inl fun _ => s_pickF (v := .bool false) rfl rfl) (Trc.nil (fun _ => trivial)))))))))))))))))))) rfl (by decide +kernel) mixed ?_
      refine f_keep [0, 1, 2, 3, 8, 9, 34] ?_
      exact s114_j2 happ _ hkt0 _ (fun v1_ v2_ v3_ v4_ v5_ v6_ H_ => ih v1_ v2_ v3_ v4_ v5_ v6_ H_) v1 v2 v3 v4 v5 v6 false H

theorem s114_l0 {app : App} (happ : AppSim Try.prog app) : ∀ (k_ : Nat) (v1 : Sl) (v2 : Int) (v3 : Int) (v4 : AV) (v5 : Int) (H : Hp), Fin Try.prog Try.f114 ret114 53 (todoAt (bodyOf Try.f114) [1, 0, 0] []) [(0, .sl v1), (1, .int .i64 v2), (2, .int .i64 v3), (3, v4), (8, .int .i64 v5)] H (r114_l0 app k_ v1 v2 v3 v4 v5 H) := by
  intro k_
  induction k_ with
  | zero => intro _ _ _ _ _ _; exact f_none
  | succ k_ ih =>
    intro v1 v2 v3 v4 v5 H
    rw [r114_l0]
    refine f_seq ?_
    refine f_seq ?_
    refine f_region ?_
    refine f_op rfl rfl (s_mv (v := .int .i64 v5) rfl) ?_
    refine f_op rfl rfl (s_mv (v := .int .i64 v3) rfl) ?_
    refine f_op rfl rfl (s_lss rfl rfl) ?_
    refine f_nil ?_
    refine f_if (fun h1 => ?_) (fun h1 => ?_)
    · skip
      refine f_know 14 rfl (dec_true h1) ?_
      refine f_condT rfl ?_
      refine f_skip ?_
      refine f_seq ?_
      refine f_block ?_
      refine f_seq ?_
      refine f_region ?_
      refine f_op rfl rfl (s_mv (v := .int .i64 v5) rfl) ?_
      refine f_op rfl rfl (s_as (v := .int .i64 v5) rfl) ?_
      refine f_nil ?_
      refine f_block ?_
      refine f_loop ?_
      refine f_keep [0, 1, 2, 3, 8, 9] ?_
      exact s114_l1 happ _ (fun v1_ v2_ v3_ v4_ v5_ H_ => ih v1_ v2_ v3_ v4_ v5_ H_) FUEL v1 v2 v3 v4 v5 v5 H
    · skip
      refine f_know 14 rfl (dec_false h1) ?_
      refine f_condF rfl ?_
      refine f_exit rfl ?_
      exact f_end (.nil) rfl

theorem sim114 {app : App} (happ : AppSim Try.prog app) {a0 : Sl} {a1 : Int} {a2 : Int} {a3 : AV} {H : Hp} {p : Unit × Hp} (h : r114 app a0 a1 a2 a3 H = some p) : CallSim Try.prog 114 [.sl a0, .int .i64 a1, .int .i64 a2, a3] H (.tup []) p.2 := by
  refine callSim (fn := Try.f114) (ret := ret114) Try.func114 rfl Try.ntmps114 rfl ?_ h
  unfold r114
  refine f_seq ?_
  refine f_region ?_
  refine f_op rfl rfl (s_mv (v := .int .i64 a1) rfl) ?_
  refine f_op rfl rfl (s_add rfl rfl) ?_
  refine f_op rfl rfl (s_as (v := .int .i64 (w64 (a1 + 1))) rfl) ?_
  refine f_nil ?_
  refine f_block ?_
  refine f_loop ?_
  refine f_keep [0, 1, 2, 3, 8] ?_
  exact s114_l0 happ FUEL a0 a1 a2 a3 (w64 (a1 + 1)) H

/- 124 slices.siftDownCmpFunc[congou/cuts.Point] -/
theorem ok124 : FnOk Try.prog 124 := ⟨⟨Try.f124, Try.func124, by kernel_rfl, rfl⟩⟩
theorem s124_j1 {app : App} (happ : AppSim Try.prog app) (kt0 : Sl → Int → Int → AV → Int → Hp → Option (Unit × Hp)) (hkt0 : ∀ (v1 : Sl) (v2 : Int) (v3 : Int) (v4 : AV) (v5 : Int) (H : Hp), Fin Try.prog Try.f124 ret124 82 (todoAt (bodyOf Try.f124) [1, 0, 0] []) [(0, .sl v1), (2, .int .i64 v2), (3, .int .i64 v3), (4, v4), (10, .int .i64 v5)] H (kt0 v1 v2 v3 v4 v5 H)) (v1 : Sl) (v2 : Int) (v3 : Int) (v4 : AV) (v5 : Int) (v6 : Int) (H : Hp) : Fin Try.prog Try.f124 ret124 82 (todoAt (bodyOf Try.f124) [1, 0, 0, 0, 1, 1, 1] []) [(0, .sl v1), (2, .int .i64 v2), (3, .int .i64 v3), (4, v4), (10, .int .i64 v5), (11, .int .i64 v6)] H (r124_j1 app kt0 v1 v2 v3 v4 v5 v6 H) := by
  unfold r124_j1
  refine f_seq ?_
  refine f_seq ?_
  refine f_ck fun g1 => ?_
  refine f_bind ?_; intro x2 hx2
  refine f_bind ?_; intro x3 hx3
  refine f_bind ?_; intro x4 hx4
  refine f_bind ?_; intro x5 hx5
  refine f_ck fun g6 => ?_
  refine f_bind ?_; intro x7 hx7
  refine f_bind ?_; intro x8 hx8
  refine f_bind ?_; intro x9 hx9
  refine f_bind ?_; intro x10 hx10
  refine f_bind ?_; intro p11 hp11
  refine f_bind ?_; intro x12 hx12
  refine f_draw (Φ := fun _ => True) (lim := 1000000) [0, 0, 0, 0, 0, 0, 1, 0, 0, 0, 0, 0, 1, 2, 0, 0] (Trc.pure rfl rfl rfl (.inl fun _ => s_mv (v := v4) rfl) (Trc.pure rfl rfl rfl (.inl fun _ => s_mv (v := .sl v1) rfl) (Trc.pure rfl rfl rfl (.inl fun _ => s_mv (v := .int .i64 v3) rfl) (Trc.pure rfl rfl rfl (.inl fun _ => s_mv (v := .int .i64 v5) rfl) (Trc.pure rfl rfl rfl (.inl fun _ => s_add rfl rfl) (Trc.pure rfl rfl rfl (.inl fun _ => s_idx Try.underlying83 ty32 rfl rfl g1) (Trc.read rfl rfl rfl (s_loads Try.underlying32 rfl ty32 rfl (lds_cons (ldI_eq hx2) (lds_cons (ldI_eq hx3) (lds_cons (ldI_eq hx4) (lds_cons (ldI_eq hx5) (lds_nil)))))) (Trc.pure rfl rfl rfl (.inl fun _ => s_mv (v := .sl v1) rfl) (Trc.pure rfl rfl rfl (.inl fun _ => s_mv (v := .int .i64 v3) rfl) (Trc.pure rfl rfl rfl (.inl fun _ => s_mv (v := .int .i64 v6) rfl) (Trc.pure rfl rfl rfl (.inl fun _ => s_add rfl rfl) (Trc.pure rfl rfl rfl (.inl fun _ => s_idx Try.underlying83 ty32 rfl rfl g6) (Trc.read rfl rfl rfl (s_loads Try.underlying32 rfl ty32 rfl (lds_cons (ldI_eq hx7) (lds_cons (ldI_eq hx8) (lds_cons (ldI_eq hx9) (lds_cons (ldI_eq hx10) (lds_nil)))))) (Trc.eff rfl rfl rfl (fun _ => trivial) (s_callv happ rfl rfl hp11) (Trc.know 56 rfl (asI_eq hx12) (Trc.pure rfl rfl rfl (.inl fun _ => s_lss rfl rfl) (Trc.pure rfl rfl rfl (.inl fun _ => s_not rfl) (Trc.nil (fun _ => trivial))))))))))))))))))) rfl (by decide +kernel) mixed ?_
  refine f_if (fun h13 => ?_) (fun h13 => ?_)
  · skip
    refine f_know 58 rfl (dec_notT h13) ?_
    refine f_condF rfl ?_
    refine f_skip ?_
    refine f_seq ?_
    refine f_ck fun g14 => ?_
    refine f_bind ?_; intro x15 hx15
    refine f_bind ?_; intro x16 hx16
    refine f_bind ?_; intro x17 hx17
    refine f_bind ?_; intro x18 hx18
    refine f_ck fun g19 => ?_
    refine f_bind ?_; intro x20 hx20
    refine f_bind ?_; intro x21 hx21
    refine f_bind ?_; intro x22 hx22
    refine f_bind ?_; intro x23 hx23
    refine f_ck fun g24 => ?_
    refine f_bind ?_; intro H25 hH25
    refine f_ck fun g26 => ?_
    refine f_bind ?_; intro H27 hH27
    refine f_draw (Φ := fun _ => True) (lim := 1000000) [0, 0, 0, 0, 0, 0, 0, 0, 0, 0, 0, 0, 0, 1, 0, 0, 0, 0, 0, 1, 0, 2, 0, 2] (Trc.pure rfl rfl rfl (.inl fun _ => s_mv (v := .sl v1) rfl) (Trc.pure rfl rfl rfl (.inl fun _ => s_mv (v := .int .i64 v3) rfl) (Trc.pure rfl rfl rfl (.inl fun _ => s_mv (v := .int .i64 v5) rfl) (Trc.pure rfl rfl rfl (.inl fun _ => s_add rfl rfl) (Trc.pure rfl rfl rfl (.inl fun _ => s_mv (v := .sl v1) rfl) (Trc.pure rfl rfl rfl (.inl fun _ => s_mv (v := .int .i64 v3) rfl) (Trc.pure rfl rfl rfl (.inl fun _ => s_mv (v := .int .i64 v6) rfl) (Trc.pure rfl rfl rfl (.inl fun _ => s_add rfl rfl) (Trc.pure rfl rfl rfl (.inl fun _ => s_mv (v := .sl v1) rfl) (Trc.pure rfl rfl rfl (.inl fun _ => s_mv (v := .int .i64 v3) rfl) (Trc.pure rfl rfl rfl (.inl fun _ => s_mv (v := .int .i64 v6) rfl) (Trc.pure rfl rfl rfl (.inl fun _ => s_add rfl rfl) (Trc.pure rfl rfl rfl (.inl fun _ => s_idx Try.underlying83 ty32 rfl rfl g14) (Trc.read rfl rfl rfl (s_loads Try.underlying32 rfl ty32 rfl (lds_cons (ldI_eq hx15) (lds_cons (ldI_eq hx16) (lds_cons (ldI_eq hx17) (lds_cons (ldI_eq hx18) (lds_nil)))))) (Trc.pure rfl rfl rfl (.inl fun _ => s_mv (v := .sl v1) rfl) (Trc.pure rfl rfl rfl (.inl fun _ => s_mv (v := .int .i64 v3) rfl) (Trc.pure rfl rfl rfl (.inl fun _ => s_mv (v := .int .i64 v5) rfl) (Trc.pure rfl rfl rfl (.inl fun _ => s_add rfl rfl) (Trc.pure rfl rfl rfl (.inl fun _ => s_idx Try.underlying83 ty32 rfl rfl g19) (Trc.read rfl rfl rfl (s_loads Try.underlying32 rfl ty32 rfl (lds_cons (ldI_eq hx20) (lds_cons (ldI_eq hx21) (lds_cons (ldI_eq hx22) (lds_cons (ldI_eq hx23) (lds_nil)))))) (Trc.pure rfl rfl rfl (.inl fun _ => s_idx Try.underlying83 ty32 rfl rfl g24) (Trc.eff rfl rfl rfl (fun _ => trivial) (s_stores ty32 rfl rfl rfl rfl hH25 (Nat.le_of_eq (sts_mono hH25).symm)) (Trc.pure rfl rfl rfl (.inl fun _ => s_idx Try.underlying83 ty32 rfl rfl g26) (Trc.eff rfl rfl rfl (fun _ => trivial) (s_stores ty32 rfl rfl rfl rfl hH27 (Nat.le_of_eq (sts_mono hH27).symm)) (Trc.nil (fun _ => trivial)))))))))))))))))))))))))) rfl (by decide +kernel) mixed ?_
    refine f_region ?_
    refine f_op rfl rfl (s_mv (v := .int .i64 v6) rfl) ?_
    refine f_op rfl rfl (s_as (v := .int .i64 v6) rfl) ?_
    refine f_nil ?_
    refine f_inBlock ?_
    refine f_inLoop ?_
    refine f_keep [0, 2, 3, 4, 10] ?_
    exact hkt0 v1 v2 v3 v4 v6 H27
  · skip
    refine f_know 58 rfl (dec_notF h13) ?_
    refine f_condT rfl ?_
    exact f_ret (.nil) rfl

theorem s124_j2 {app : App} (happ : AppSim Try.prog app) (kt0 : Sl → Int → Int → AV → Int → Hp → Option (Unit × Hp)) (hkt0 : ∀ (v1 : Sl) (v2 : Int) (v3 : Int) (v4 : AV) (v5 : Int) (H : Hp), Fin Try.prog Try.f124 ret124 82 (todoAt (bodyOf Try.f124) [1, 0, 0] []) [(0, .sl v1), (2, .int .i64 v2), (3, .int .i64 v3), (4, v4), (10, .int .i64 v5)] H (kt0 v1 v2 v3 v4 v5 H)) (v1 : Sl) (v2 : Int) (v3 : Int) (v4 : AV) (v5 : Int) (v6 : Int) (v7 : Bool) (H : Hp) : Fin Try.prog Try.f124 ret124 82 (todoAt (bodyOf Try.f124) [1, 0, 0, 0, 1, 1, 0, 1] []) [(0, .sl v1), (2, .int .i64 v2), (3, .int .i64 v3), (4, v4), (10, .int .i64 v5), (11, .int .i64 v6), (40, .bool v7)] H (r124_j2 app kt0 v1 v2 v3 v4 v5 v6 v7 H) := by
  unfold r124_j2
  refine f_if (fun h1 => ?_) (fun h1 => ?_)
  · skip
    refine f_know 40 rfl (bool_T h1) ?_
    refine f_condT rfl ?_
    refine f_region ?_
    refine f_op rfl rfl (s_mv (v := .int .i64 v6) rfl) ?_
    refine f_op rfl rfl (s_add rfl rfl) ?_
    refine f_op rfl rfl (s_as (v := .int .i64 (w64 (v6 + 1))) rfl) ?_
    refine f_nil ?_
    refine f_keep [0, 2, 3, 4, 10, 11] ?_
    exact s124_j1 happ _ hkt0 v1 v2 v3 v4 v5 (w64 (v6 + 1)) H
  · skip
    refine f_know 40 rfl (bool_F h1) ?_
    refine f_condF rfl ?_
    refine f_skip ?_
    refine f_keep [0, 2, 3, 4, 10, 11] ?_
    exact s124_j1 happ _ hkt0 v1 v2 v3 v4 v5 v6 H

theorem s124_l0 {app : App} (happ : AppSim Try.prog app) : ∀ (k_ : Nat) (v1 : Sl) (v2 : Int) (v3 : Int) (v4 : AV) (v5 : Int) (H : Hp), Fin Try.prog Try.f124 ret124 82 (todoAt (bodyOf Try.f124) [1, 0, 0] []) [(0, .sl v1), (2, .int .i64 v2), (3, .int .i64 v3), (4, v4), (10, .int .i64 v5)] H (r124_l0 app k_ v1 v2 v3 v4 v5 H) := by
  intro k_
  induction k_ with
  | zero => intro _ _ _ _ _ _; exact f_none
  | succ k_ ih =>
    intro v1 v2 v3 v4 v5 H
    rw [r124_l0]
    refine f_block ?_
    refine f_seq ?_
    refine f_region ?_
    refine f_op rfl rfl (s_mv (v := .int .i64 v5) rfl) ?_
    refine f_op rfl rfl (s_mul rfl rfl) ?_
    refine f_op rfl rfl (s_add rfl rfl) ?_
    refine f_op rfl rfl (s_as (v := .int .i64 (w64 ((w64 (2 * v5)) + 1))) rfl) ?_
    refine f_nil ?_
    refine f_seq ?_
    refine f_seq ?_
    refine f_region ?_
    refine f_op rfl rfl (s_mv (v := .int .i64 (w64 ((w64 (2 * v5)) + 1))) rfl) ?_
    refine f_op rfl rfl (s_mv (v := .int .i64 v2) rfl) ?_
    refine f_op rfl rfl (s_geq rfl rfl) ?_
    refine f_nil ?_
    refine f_if (fun h1 => ?_) (fun h1 => ?_)
    · skip
      refine f_know 18 rfl (dec_true h1) ?_
      refine f_condT rfl ?_
      refine f_exit rfl ?_
      exact f_end (.nil) rfl
    · skip
      refine f_know 18 rfl (dec_false h1) ?_
      refine f_condF rfl ?_
      refine f_skip ?_
      refine f_seq ?_
      refine f_seq ?_
      refine f_if (fun h2 => ?_) (fun h2 => ?_)
      · skip
        refine f_ck fun g3 => ?_
        refine f_bind ?_; intro x4 hx4
        refine f_bind ?_; intro x5 hx5
        refine f_bind ?_; intro x6 hx6
        refine f_bind ?_; intro x7 hx7
        refine f_ck fun g8 => ?_
        refine f_bind ?_; intro x9 hx9
        refine f_bind ?_; intro x10 hx10
        refine f_bind ?_; intro x11 hx11
        refine f_bind ?_; intro x12 hx12
        refine f_bind ?_; intro p13 hp13
        refine f_bind ?_; intro x14 hx14
        refine f_draw (Φ := fun _ => True) (lim := 1000000) [0, 0, 0, 0, 0, 0, 0, 0, 0, 0, 0, 1, 0, 0, 0, 0, 0, 0, 1, 2, 0, 0] (Trc.pure rfl rfl rfl (.inl fun _ => s_mv (v := .int .i64 (w64 ((w64 (2 * v5)) + 1))) rfl) (Trc.pure rfl rfl rfl (.inl fun _ => s_add rfl rfl) (Trc.pure rfl rfl rfl (.inl fun _ => s_mv (v := .int .i64 v2) rfl) (Trc.pure rfl rfl rfl (.inl fun _ => s_lss rfl rfl) (Trc.pure rfl rfl rfl (.inl fun _ => s_mv (v := .bool (decide ((w64 ((w64 ((w64 (2 * v5)) + 1)) + 1)) < v2))) rfl) (Trc.know 23 rfl (dec_true h2) (Trc.pure rfl rfl rfl (.inl fun _ => s_mv (v := v4) rfl) (Trc.pure rfl rfl rfl (.inl fun _ => s_mv (v := .sl v1) rfl) (Trc.pure rfl rfl rfl (.inl fun _ => s_mv (v := .int .i64 v3) rfl) (Trc.pure rfl rfl rfl (.inl fun _ => s_mv (v := .int .i64 (w64 ((w64 (2 * v5)) + 1))) rfl) (Trc.pure rfl rfl rfl (.inl fun _ => s_add rfl rfl) (Trc.pure rfl rfl rfl (.inl fun _ => s_idx Try.underlying83 ty32 rfl rfl g3) (Trc.read rfl rfl rfl (s_loads Try.underlying32 rfl ty32 rfl (lds_cons (ldI_eq hx4) (lds_cons (ldI_eq hx5) (lds_cons (ldI_eq hx6) (lds_cons (ldI_eq hx7) (lds_nil)))))) (Trc.pure rfl rfl rfl (.inl fun _ => s_mv (v := .sl v1) rfl) (Trc.pure rfl rfl rfl (.inl fun _ => s_mv (v := .int .i64 v3) rfl) (Trc.pure rfl rfl rfl (.inl fun _ => s_mv (v := .int .i64 (w64 ((w64 (2 * v5)) + 1))) rfl) (Trc.pure rfl rfl rfl (.inl fun _ => s_add rfl rfl) (Trc.pure rfl rfl rfl (.inl fun _ => s_add rfl rfl) (Trc.pure rfl rfl rfl (.inl fun _ => s_idx Try.underlying83 ty32 rfl rfl g8) (Trc.read rfl rfl rfl (s_loads Try.underlying32 rfl ty32 rfl (lds_cons (ldI_eq hx9) (lds_cons (ldI_eq hx10) (lds_cons (ldI_eq hx11) (lds_cons (ldI_eq hx12) (lds_nil)))))) (Trc.eff rfl rfl rfl (fun _ => trivial) (s_callv happ rfl rfl hp13) (Trc.know 38 rfl (asI_eq hx14) (Trc.pure rfl rfl rfl (.inl fun _ => s_lss rfl rfl) (Trc.pure rfl rfl rfl (.inl fun _ => s_pickT (v := .bool (decide (x14 < 0))) rfl rfl) (Trc.nil (fun _ => trivial)))))))))))))))))))))))))) rfl (by decide +kernel) mixed ?_
        refine f_keep [0, 2, 3, 4, 10, 11, 40] ?_
        exact s124_j2 happ _ (fun v1_ v2_ v3_ v4_ v5_ H_ => ih v1_ v2_ v3_ v4_ v5_ H_) v1 v2 v3 v4 v5 (w64 ((w64 (2 * v5)) + 1)) (decide (x14 < 0)) p13.2
      · skip
        refine f_draw (Φ := fun _ => True) (lim := 1000000) [0, 0, 0, 0, 0, 0, 0, 0, 0, 0, 0, 0, 0, 0, 0, 0, 0, 0, 0, 0, 0, 0] (Trc.pure rfl rfl rfl (.inl fun _ => s_mv (v := .int .i64 (w64 ((w64 (2 * v5)) + 1))) rfl) (Trc.pure rfl rfl rfl (.inl fun _ => s_add rfl rfl) (Trc.pure rfl rfl rfl (.inl fun _ => s_mv (v := .int .i64 v2) rfl) (Trc.pure rfl rfl rfl (.inl fun _ => s_lss rfl rfl) (Trc.pure rfl rfl rfl (.inl fun _ => s_mv (v := .bool (decide ((w64 ((w64 ((w64 (2 * v5)) + 1)) + 1)) < v2))) rfl) (Trc.know 23 rfl (dec_false h2) (Trc.no rfl rfl rfl (Trc.no rfl rfl rfl (Trc.no rfl rfl rfl (Trc.no rfl rfl rfl (Trc.no rfl rfl rfl (Trc.no rfl rfl rfl (Trc.no rfl rfl rfl (Trc.no rfl rfl rfl (Trc.no rfl rfl rfl (Trc.no rfl rfl rfl (Trc.no rfl rfl rfl (Trc.no rfl rfl rfl (Trc.no rfl rfl rfl (Trc.no rfl rfl rfl (Trc.no rfl rfl rfl (Trc.no rfl rfl rfl (Trc.pure rfl rfl rfl (.inl fun _ => s_pickF (v := .bool false) rfl rfl) (Trc.nil (fun _ => trivial))))))))))))))))))))))))) rfl (by decide +kernel) mixed ?_
        refine f_keep [0, 2, 3, 4, 10, 11, 40] ?_
        exact s124_j2 happ _ (fun v1_ v2_ v3_ v4_ v5_ H_ => ih v1_ v2_ v3_ v4_ v5_ H_) v1 v2 v3 v4 v5 (w64 ((w64 (2 * v5)) + 1)) false H

theorem sim124 {app : App} (happ : AppSim Try.prog app) {a0 : Sl} {a1 : Int} {a2 : Int} {a3 : Int} {a4 : AV} {H : Hp} {p : Unit × Hp} (h : r124 app a0 a1 a2 a3 a4 H = some p) : CallSim Try.prog 124 [.sl a0, .int .i64 a1, .int .i64 a2, .int .i64 a3, a4] H (.tup []) p.2 := by
  refine callSim (fn := Try.f124) (ret := ret124) Try.func124 rfl Try.ntmps124 rfl ?_ h
  unfold r124
  refine f_seq ?_
  refine f_region ?_
  refine f_op rfl rfl (s_mv (v := .int .i64 a1) rfl) ?_
  refine f_op rfl rfl (s_as (v := .int .i64 a1) rfl) ?_
  refine f_nil ?_
  refine f_block ?_
  refine f_loop ?_
  refine f_keep [0, 2, 3, 4, 10] ?_
  exact s124_l0 happ FUEL a0 a2 a3 a4 a1 H

/- 115 slices.heapSortCmpFunc[congou/cuts.Point] -/
theorem ok115 : FnOk Try.prog 115 := ⟨⟨Try.f115, Try.func115, by kernel_rfl, rfl⟩⟩
theorem s115_l1 {app : App} (happ : AppSim Try.prog app) : ∀ (k_ : Nat) (v1 : Sl) (v2 : AV) (v3 : Int) (v4 : Int) (v5 : Int) (H : Hp), Fin Try.prog Try.f115 ret115 60 (todoAt (bodyOf Try.f115) [1, 1, 1, 1, 1, 0, 0] []) [(0, .sl v1), (3, v2), (8, .int .i64 v3), (9, .int .i64 v4), (12, .int .i64 v5)] H (r115_l1 app k_ v1 v2 v3 v4 v5 H) := by
  intro k_
  induction k_ with
  | zero => intro _ _ _ _ _ _; exact f_none
  | succ k_ ih =>
    intro v1 v2 v3 v4 v5 H
    rw [r115_l1]
    refine f_seq ?_
    refine f_seq ?_
    refine f_region ?_
    refine f_op rfl rfl (s_mv (v := .int .i64 v5) rfl) ?_
    refine f_op rfl rfl (s_geq rfl rfl) ?_
    refine f_nil ?_
    refine f_if (fun h1 => ?_) (fun h1 => ?_)
    · skip
      refine f_know 33 rfl (dec_true h1) ?_
      refine f_condT rfl ?_
      refine f_skip ?_
      refine f_seq ?_
      refine f_block ?_
      refine f_seq ?_
      refine f_ck fun g2 => ?_
      refine f_bind ?_; intro x3 hx3
      refine f_bind ?_; intro x4 hx4
      refine f_bind ?_; intro x5 hx5
      refine f_bind ?_; intro x6 hx6
      refine f_ck fun g7 => ?_
      refine f_bind ?_; intro x8 hx8
      refine f_bind ?_; intro x9 hx9
      refine f_bind ?_; intro x10 hx10
      refine f_bind ?_; intro x11 hx11
      refine f_ck fun g12 => ?_
      refine f_bind ?_; intro H13 hH13
      refine f_ck fun g14 => ?_
      refine f_bind ?_; intro H15 hH15
      refine f_draw (Φ := fun _ => True) (lim := 1000000) [0, 0, 0, 0, 0, 0, 0, 0, 0, 0, 0, 1, 0, 0, 0, 1, 0, 2, 0, 2] (Trc.pure rfl rfl rfl (.inl fun _ => s_mv (v := .sl v1) rfl) (Trc.pure rfl rfl rfl (.inl fun _ => s_mv (v := .int .i64 v3) rfl) (Trc.pure rfl rfl rfl (.inl fun _ => s_mv (v := .sl v1) rfl) (Trc.pure rfl rfl rfl (.inl fun _ => s_mv (v := .int .i64 v3) rfl) (Trc.pure rfl rfl rfl (.inl fun _ => s_mv (v := .int .i64 v5) rfl) (Trc.pure rfl rfl rfl (.inl fun _ => s_add rfl rfl) (Trc.pure rfl rfl rfl (.inl fun _ => s_mv (v := .sl v1) rfl) (Trc.pure rfl rfl rfl (.inl fun _ => s_mv (v := .int .i64 v3) rfl) (Trc.pure rfl rfl rfl (.inl fun _ => s_mv (v := .int .i64 v5) rfl) (Trc.pure rfl rfl rfl (.inl fun _ => s_add rfl rfl) (Trc.pure rfl rfl rfl (.inl fun _ => s_idx Try.underlying83 ty32 rfl rfl g2) (Trc.read rfl rfl rfl (s_loads Try.underlying32 rfl ty32 rfl (lds_cons (ldI_eq hx3) (lds_cons (ldI_eq hx4) (lds_cons (ldI_eq hx5) (lds_cons (ldI_eq hx6) (lds_nil)))))) (Trc.pure rfl rfl rfl (.inl fun _ => s_mv (v := .sl v1) rfl) (Trc.pure rfl rfl rfl (.inl fun _ => s_mv (v := .int .i64 v3) rfl) (Trc.pure rfl rfl rfl (.inl fun _ => s_idx Try.underlying83 ty32 rfl rfl g7) (Trc.read rfl rfl rfl (s_loads Try.underlying32 rfl ty32 rfl (lds_cons (ldI_eq hx8) (lds_cons (ldI_eq hx9) (lds_cons (ldI_eq hx10) (lds_cons (ldI_eq hx11) (lds_nil)))))) (Trc.pure rfl rfl rfl (.inl fun _ => s_idx Try.underlying83 ty32 rfl rfl g12) (Trc.eff rfl rfl rfl (fun _ => trivial) (s_stores ty32 rfl rfl rfl rfl hH13 (Nat.le_of_eq (sts_mono hH13).symm)) (Trc.pure rfl rfl rfl (.inl fun _ => s_idx Try.underlying83 ty32 rfl rfl g14) (Trc.eff rfl rfl rfl (fun _ => trivial) (s_stores ty32 rfl rfl rfl rfl hH15 (Nat.le_of_eq (sts_mono hH15).symm)) (Trc.nil (fun _ => trivial)))))))))))))))))))))) rfl (by decide +kernel) mixed ?_
      refine f_region ?_
      refine f_op rfl rfl (s_mv (v := .sl v1) rfl) ?_
      refine f_op rfl rfl (s_mv (v := .int .i64 v4) rfl) ?_
      refine f_op rfl rfl (s_mv (v := .int .i64 v5) rfl) ?_
      refine f_op rfl rfl (s_mv (v := .int .i64 v3) rfl) ?_
      refine f_op rfl rfl (s_mv (v := v2) rfl) ?_
      refine o_bind ?_; intro p16 hp16
      refine f_op rfl rfl (s_callF rfl ok124 (sim124 happ hp16)) ?_
      refine f_nil ?_
      refine f_inBlock ?_
      refine f_region ?_
      refine f_op rfl rfl (s_mv (v := .int .i64 v5) rfl) ?_
      refine f_op rfl rfl (s_sub rfl rfl) ?_
      refine f_op rfl rfl (s_as (v := .int .i64 (w64 (v5 - 1))) rfl) ?_
      refine f_nil ?_
      refine f_inLoop ?_
      refine f_keep [0, 3, 8, 9, 12] ?_
      exact ih v1 v2 v3 v4 (w64 (v5 - 1)) p16.2
    · skip
      refine f_know 33 rfl (dec_false h1) ?_
      refine f_condF rfl ?_
      refine f_exit rfl ?_
      exact f_end (.nil) rfl

theorem s115_l0 {app : App} (happ : AppSim Try.prog app) : ∀ (k_ : Nat) (v1 : Sl) (v2 : AV) (v3 : Int) (v4 : Int) (v5 : Int) (v6 : Int) (H : Hp), Fin Try.prog Try.f115 ret115 60 (todoAt (bodyOf Try.f115) [1, 1, 1, 0, 1, 0, 0] []) [(0, .sl v1), (3, v2), (8, .int .i64 v3), (9, .int .i64 v4), (10, .int .i64 v5), (11, .int .i64 v6)] H (r115_l0 app k_ v1 v2 v3 v4 v5 v6 H) := by
  intro k_
  induction k_ with
  | zero => intro _ _ _ _ _ _ _; exact f_none
  | succ k_ ih =>
    intro v1 v2 v3 v4 v5 v6 H
    rw [r115_l0]
    refine f_seq ?_
    refine f_seq ?_
    refine f_region ?_
    refine f_op rfl rfl (s_mv (v := .int .i64 v6) rfl) ?_
    refine f_op rfl rfl (s_geq rfl rfl) ?_
    refine f_nil ?_
    refine f_if (fun h1 => ?_) (fun h1 => ?_)
    · skip
      refine f_know 21 rfl (dec_true h1) ?_
      refine f_condT rfl ?_
      refine f_skip ?_
      refine f_seq ?_
      refine f_block ?_
      refine f_region ?_
      refine f_op rfl rfl (s_mv (v := .sl v1) rfl) ?_
      refine f_op rfl rfl (s_mv (v := .int .i64 v6) rfl) ?_
      refine f_op rfl rfl (s_mv (v := .int .i64 v5) rfl) ?_
      refine f_op rfl rfl (s_mv (v := .int .i64 v3) rfl) ?_
      refine f_op rfl rfl (s_mv (v := v2) rfl) ?_
      refine o_bind ?_; intro p2 hp2
      refine f_op rfl rfl (s_callF rfl ok124 (sim124 happ hp2)) ?_
      refine f_nil ?_
      refine f_inBlock ?_
      refine f_region ?_
      refine f_op rfl rfl (s_mv (v := .int .i64 v6) rfl) ?_
      refine f_op rfl rfl (s_sub rfl rfl) ?_
      refine f_op rfl rfl (s_as (v := .int .i64 (w64 (v6 - 1))) rfl) ?_
      refine f_nil ?_
      refine f_inLoop ?_
      refine f_keep [0, 3, 8, 9, 10, 11] ?_
      exact ih v1 v2 v3 v4 v5 (w64 (v6 - 1)) p2.2
    · skip
      refine f_know 21 rfl (dec_false h1) ?_
      refine f_condF rfl ?_
      refine f_exit rfl ?_
      refine f_seq ?_
      refine f_region ?_
      refine f_op rfl rfl (s_mv (v := .int .i64 v5) rfl) ?_
      refine f_op rfl rfl (s_sub rfl rfl) ?_
      refine f_op rfl rfl (s_as (v := .int .i64 (w64 (v5 - 1))) rfl) ?_
      refine f_nil ?_
      refine f_block ?_
      refine f_loop ?_
      refine f_keep [0, 3, 8, 9, 12] ?_
      exact s115_l1 happ FUEL v1 v2 v3 v4 (w64 (v5 - 1)) H

theorem sim115 {app : App} (happ : AppSim Try.prog app) {a0 : Sl} {a1 : Int} {a2 : Int} {a3 : AV} {H : Hp} {p : Unit × Hp} (h : r115 app a0 a1 a2 a3 H = some p) : CallSim Try.prog 115 [.sl a0, .int .i64 a1, .int .i64 a2, a3] H (.tup []) p.2 := by
  refine callSim (fn := Try.f115) (ret := ret115) Try.func115 rfl Try.ntmps115 rfl ?_ h
  unfold r115
  refine f_seq ?_
  refine f_region ?_
  refine f_op rfl rfl (s_mv (v := .int .i64 a1) rfl) ?_
  refine f_op rfl rfl (s_as (v := .int .i64 a1) rfl) ?_
  refine f_nil ?_
  refine f_seq ?_
  refine f_region ?_
  refine f_op rfl rfl (s_as (v := .int .i64 0) rfl) ?_
  refine f_nil ?_
  refine f_seq ?_
  refine f_region ?_
  refine f_op rfl rfl (s_mv (v := .int .i64 a2) rfl) ?_
  refine f_op rfl rfl (s_mv (v := .int .i64 a1) rfl) ?_
  refine f_op rfl rfl (s_sub rfl rfl) ?_
  refine f_op rfl rfl (s_as (v := .int .i64 (w64 (a2 - a1))) rfl) ?_
  refine f_nil ?_
  refine f_seq ?_
  refine f_seq ?_
  refine f_region ?_
  refine f_op rfl rfl (s_mv (v := .int .i64 (w64 (a2 - a1))) rfl) ?_
  refine f_op rfl rfl (s_sub rfl rfl) ?_
  refine f_op rfl rfl (s_quo rfl rfl (by decide)) ?_
  refine f_op rfl rfl (s_as (v := .int .i64 (w64 (Int.tdiv (w64 ((w64 (a2 - a1)) - 1)) 2))) rfl) ?_
  refine f_nil ?_
  refine f_block ?_
  refine f_loop ?_
  refine f_keep [0, 3, 8, 9, 10, 11] ?_
  exact s115_l0 happ FUEL a0 a3 a1 0 (w64 (a2 - a1)) (w64 (Int.tdiv (w64 ((w64 (a2 - a1)) - 1)) 2)) H

/- 122 math/bits.Len32 -/
theorem ok122 : FnOk Try.prog 122 := ⟨⟨Try.f122, Try.func122, by kernel_rfl, rfl⟩⟩
theorem s122_j0 (v1 : Int) (v2 : Int) (H : Hp) : Fin Try.prog Try.f122 ret122 19 (todoAt (bodyOf Try.f122) [1, 1, 1] []) [(0, .int .u32 v1), (2, .int .i64 v2)] H (r122_j0 v1 v2 H) := by
  unfold r122_j0
  refine f_seq ?_
  refine f_region ?_
  refine f_op rfl rfl (s_mv (v := .int .i64 v2) rfl) ?_
  refine f_op rfl rfl (s_mv (v := .int .u32 v1) rfl) ?_
  refine f_op rfl rfl (s_convInt Try.underlying157 Try.underlying5 rfl) ?_
  refine o_ck fun g1 => ?_
  refine f_op rfl rfl (s_indexStr Try.underlying9 rfl rfl g1) ?_
  refine f_op rfl rfl (s_convInt Try.underlying5 Try.underlying3 rfl) ?_
  refine f_op rfl rfl (s_add rfl rfl) ?_
  refine f_op rfl rfl (s_as (v := .int .i64 (w64 (v2 + (w64 (bt (strC Try.f122 [1, 1, 1, 0] 3 0) (IntKind.wrap .u8 (v1))))))) rfl) ?_
  refine f_nil ?_
  exact f_ret (.tmp rfl (.nil)) rfl

theorem s122_j1 (v1 : Int) (v2 : Int) (H : Hp) : Fin Try.prog Try.f122 ret122 19 (todoAt (bodyOf Try.f122) [1, 1] []) [(0, .int .u32 v1), (2, .int .i64 v2)] H (r122_j1 v1 v2 H) := by
  unfold r122_j1
  refine f_seq ?_
  refine f_seq ?_
  refine f_region ?_
  refine f_op rfl rfl (s_mv (v := .int .u32 v1) rfl) ?_
  refine f_op rfl rfl (s_geq rfl rfl) ?_
  refine f_nil ?_
  refine f_if (fun h1 => ?_) (fun h1 => ?_)
  · skip
    refine f_know 8 rfl (dec_true h1) ?_
    refine f_condT rfl ?_
    refine f_seq ?_
    refine f_region ?_
    refine f_op rfl rfl (s_mv (v := .int .u32 v1) rfl) ?_
    refine f_op rfl rfl (s_shr rfl rfl (by decide)) ?_
    refine f_op rfl rfl (s_as (v := .int .u32 (shrOf .u32 v1 8)) rfl) ?_
    refine f_nil ?_
    refine f_region ?_
    refine f_op rfl rfl (s_mv (v := .int .i64 v2) rfl) ?_
    refine f_op rfl rfl (s_add rfl rfl) ?_
    refine f_op rfl rfl (s_as (v := .int .i64 (w64 (v2 + 8))) rfl) ?_
    refine f_nil ?_
    refine f_keep [0, 2] ?_
    exact s122_j0 (shrOf .u32 v1 8) (w64 (v2 + 8)) H
  · skip
    refine f_know 8 rfl (dec_false h1) ?_
    refine f_condF rfl ?_
    refine f_skip ?_
    refine f_keep [0, 2] ?_
    exact s122_j0 v1 v2 H

theorem sim122 {a0 : Int} {H : Hp} {p : Int × Hp} (h : r122 a0 H = some p) : CallSim Try.prog 122 [.int .u32 a0] H (.int .i64 p.1) p.2 := by
  refine callSim (fn := Try.f122) (ret := ret122) Try.func122 rfl Try.ntmps122 rfl ?_ h
  unfold r122
  refine f_seq ?_
  refine f_region ?_
  refine f_op rfl rfl (s_as (v := .int .i64 0) rfl) ?_
  refine f_nil ?_
  refine f_seq ?_
  refine f_seq ?_
  refine f_region ?_
  refine f_op rfl rfl (s_mv (v := .int .u32 a0) rfl) ?_
  refine f_op rfl rfl (s_geq rfl rfl) ?_
  refine f_nil ?_
  refine f_if (fun h1 => ?_) (fun h1 => ?_)
  · skip
    refine f_know 4 rfl (dec_true h1) ?_
    refine f_condT rfl ?_
    refine f_seq ?_
    refine f_region ?_
    refine f_op rfl rfl (s_mv (v := .int .u32 a0) rfl) ?_
    refine f_op rfl rfl (s_shr rfl rfl (by decide)) ?_
    refine f_op rfl rfl (s_as (v := .int .u32 (shrOf .u32 a0 16)) rfl) ?_
    refine f_nil ?_
    refine f_region ?_
    refine f_op rfl rfl (s_as (v := .int .i64 16) rfl) ?_
    refine f_nil ?_
    refine f_keep [0, 2] ?_
    exact s122_j1 (shrOf .u32 a0 16) 16 H
  · skip
    refine f_know 4 rfl (dec_false h1) ?_
    refine f_condF rfl ?_
    refine f_skip ?_
    refine f_keep [0, 2] ?_
    exact s122_j1 a0 0 H

/- 123 math/bits.Len64 -/
theorem ok123 : FnOk Try.prog 123 := ⟨⟨Try.f123, Try.func123, by kernel_rfl, rfl⟩⟩
theorem s123_j0 (v1 : Int) (v2 : Int) (H : Hp) : Fin Try.prog Try.f123 ret123 25 (todoAt (bodyOf Try.f123) [1, 1, 1, 1] []) [(0, .int .u64 v1), (2, .int .i64 v2)] H (r123_j0 v1 v2 H) := by
  unfold r123_j0
  refine f_seq ?_
  refine f_region ?_
  refine f_op rfl rfl (s_mv (v := .int .i64 v2) rfl) ?_
  refine f_op rfl rfl (s_mv (v := .int .u64 v1) rfl) ?_
  refine f_op rfl rfl (s_convInt Try.underlying159 Try.underlying5 rfl) ?_
  refine o_ck fun g1 => ?_
  refine f_op rfl rfl (s_indexStr Try.underlying9 rfl rfl g1) ?_
  refine f_op rfl rfl (s_convInt Try.underlying5 Try.underlying3 rfl) ?_
  refine f_op rfl rfl (s_add rfl rfl) ?_
  refine f_op rfl rfl (s_as (v := .int .i64 (w64 (v2 + (w64 (bt (strC Try.f123 [1, 1, 1, 1, 0] 3 0) (IntKind.wrap .u8 (v1))))))) rfl) ?_
  refine f_nil ?_
  exact f_ret (.tmp rfl (.nil)) rfl

theorem s123_j1 (v1 : Int) (v2 : Int) (H : Hp) : Fin Try.prog Try.f123 ret123 25 (todoAt (bodyOf Try.f123) [1, 1, 1] []) [(0, .int .u64 v1), (2, .int .i64 v2)] H (r123_j1 v1 v2 H) := by
  unfold r123_j1
  refine f_seq ?_
  refine f_seq ?_
  refine f_region ?_
  refine f_op rfl rfl (s_mv (v := .int .u64 v1) rfl) ?_
  refine f_op rfl rfl (s_geq rfl rfl) ?_
  refine f_nil ?_
  refine f_if (fun h1 => ?_) (fun h1 => ?_)
  · skip
    refine f_know 14 rfl (dec_true h1) ?_
    refine f_condT rfl ?_
    refine f_seq ?_
    refine f_region ?_
    refine f_op rfl rfl (s_mv (v := .int .u64 v1) rfl) ?_
    refine f_op rfl rfl (s_shr rfl rfl (by decide)) ?_
    refine f_op rfl rfl (s_as (v := .int .u64 (shrOf .u64 v1 8)) rfl) ?_
    refine f_nil ?_
    refine f_region ?_
    refine f_op rfl rfl (s_mv (v := .int .i64 v2) rfl) ?_
    refine f_op rfl rfl (s_add rfl rfl) ?_
    refine f_op rfl rfl (s_as (v := .int .i64 (w64 (v2 + 8))) rfl) ?_
    refine f_nil ?_
    refine f_keep [0, 2] ?_
    exact s123_j0 (shrOf .u64 v1 8) (w64 (v2 + 8)) H
  · skip
    refine f_know 14 rfl (dec_false h1) ?_
    refine f_condF rfl ?_
    refine f_skip ?_
    refine f_keep [0, 2] ?_
    exact s123_j0 v1 v2 H

theorem s123_j2 (v1 : Int) (v2 : Int) (H : Hp) : Fin Try.prog Try.f123 ret123 25 (todoAt (bodyOf Try.f123) [1, 1] []) [(0, .int .u64 v1), (2, .int .i64 v2)] H (r123_j2 v1 v2 H) := by
  unfold r123_j2
  refine f_seq ?_
  refine f_seq ?_
  refine f_region ?_
  refine f_op rfl rfl (s_mv (v := .int .u64 v1) rfl) ?_
  refine f_op rfl rfl (s_geq rfl rfl) ?_
  refine f_nil ?_
  refine f_if (fun h1 => ?_) (fun h1 => ?_)
  · skip
    refine f_know 8 rfl (dec_true h1) ?_
    refine f_condT rfl ?_
    refine f_seq ?_
    refine f_region ?_
    refine f_op rfl rfl (s_mv (v := .int .u64 v1) rfl) ?_
    refine f_op rfl rfl (s_shr rfl rfl (by decide)) ?_
    refine f_op rfl rfl (s_as (v := .int .u64 (shrOf .u64 v1 16)) rfl) ?_
    refine f_nil ?_
    refine f_region ?_
    refine f_op rfl rfl (s_mv (v := .int .i64 v2) rfl) ?_
    refine f_op rfl rfl (s_add rfl rfl) ?_
    refine f_op rfl rfl (s_as (v := .int .i64 (w64 (v2 + 16))) rfl) ?_
    refine f_nil ?_
    refine f_keep [0, 2] ?_
    exact s123_j1 (shrOf .u64 v1 16) (w64 (v2 + 16)) H
  · skip
    refine f_know 8 rfl (dec_false h1) ?_
    refine f_condF rfl ?_
    refine f_skip ?_
    refine f_keep [0, 2] ?_
    exact s123_j1 v1 v2 H

theorem sim123 {a0 : Int} {H : Hp} {p : Int × Hp} (h : r123 a0 H = some p) : CallSim Try.prog 123 [.int .u64 a0] H (.int .i64 p.1) p.2 := by
  refine callSim (fn := Try.f123) (ret := ret123) Try.func123 rfl Try.ntmps123 rfl ?_ h
  unfold r123
  refine f_seq ?_
  refine f_region ?_
  refine f_op rfl rfl (s_as (v := .int .i64 0) rfl) ?_
  refine f_nil ?_
  refine f_seq ?_
  refine f_seq ?_
  refine f_region ?_
  refine f_op rfl rfl (s_mv (v := .int .u64 a0) rfl) ?_
  refine f_op rfl rfl (s_geq rfl rfl) ?_
  refine f_nil ?_
  refine f_if (fun h1 => ?_) (fun h1 => ?_)
  · skip
    refine f_know 4 rfl (dec_true h1) ?_
    refine f_condT rfl ?_
    refine f_seq ?_
    refine f_region ?_
    refine f_op rfl rfl (s_mv (v := .int .u64 a0) rfl) ?_
    refine f_op rfl rfl (s_shr rfl rfl (by decide)) ?_
    refine f_op rfl rfl (s_as (v := .int .u64 (shrOf .u64 a0 32)) rfl) ?_
    refine f_nil ?_
    refine f_region ?_
    refine f_op rfl rfl (s_as (v := .int .i64 32) rfl) ?_
    refine f_nil ?_
    refine f_keep [0, 2] ?_
    exact s123_j2 (shrOf .u64 a0 32) 32 H
  · skip
    refine f_know 4 rfl (dec_false h1) ?_
    refine f_condF rfl ?_
    refine f_skip ?_
    refine f_keep [0, 2] ?_
    exact s123_j2 a0 0 H

/- 109 math/bits.Len -/
theorem ok109 : FnOk Try.prog 109 := ⟨⟨Try.f109, Try.func109, by kernel_rfl, rfl⟩⟩
theorem sim109 {a0 : Int} {H : Hp} {p : Int × Hp} (h : r109 a0 H = some p) : CallSim Try.prog 109 [.int .u64 a0] H (.int .i64 p.1) p.2 := by
  refine callSim (fn := Try.f109) (ret := ret109) Try.func109 rfl Try.ntmps109 rfl ?_ h
  unfold r109
  refine f_seq ?_
  refine f_region ?_
  refine f_op rfl rfl (s_as (v := .int .i64 0) rfl) ?_
  refine f_nil ?_
  refine f_seq ?_
  refine f_condF rfl ?_
  refine f_skip ?_
  refine f_seq ?_
  refine f_region ?_
  refine f_op rfl rfl (s_mv (v := .int .u64 a0) rfl) ?_
  refine o_bind ?_; intro p1 hp1
  refine f_op rfl rfl (s_callF rfl ok123 (sim123 hp1)) ?_
  refine f_op rfl rfl (s_as (v := .int .i64 p1.1) rfl) ?_
  refine f_nil ?_
  exact f_ret (.tmp rfl (.nil)) rfl

end Go.Lt.P2
