/- PRINTED BY A PROGRAM OF OURS: what each function that 'CutsWithin' reaches computes on the abstract heap, and that the translated code does just that. Nothing is asked of the input. -/
import Derived.Test.YteefkljbmjjncaaG9P1
set_option linter.unusedVariables false
set_option linter.unusedSimpArgs false
set_option maxRecDepth 100000
set_option maxHeartbeats 4000000
namespace Go.Lt.P2
open Go Go.Lt Go.Proofs
/- 21 congou/congoulaw02.awake -/
theorem ok21 : FnOk Try.prog 21 := ⟨⟨Try.f21, Try.func21, by kernel_rfl, rfl⟩⟩
theorem sim21 {app : App} (happ : AppSim Try.prog app) {H : Hp} {p : Bool × Hp} (h : r21 app H = some p) : CallSim Try.prog 21 [] H (.bool p.1) p.2 := by
  refine callSim (fn := Try.f21) (ret := ret21) Try.func21 rfl Try.ntmps21 rfl ?_ h
  unfold r21
  refine f_seq ?_
  refine f_region ?_
  refine f_op rfl rfl (s_as (v := .bool false) rfl) ?_
  refine f_nil ?_
  refine f_seq ?_
  refine f_region ?_
  refine f_op rfl rfl (s_build (cs := [.int .i64 1, .int .i64 0, .int .i64 1]) Try.underlying47 ty47 rfl pl47 rfl) ?_
  refine f_op rfl rfl (s_build (cs := [.int .i64 (-1), .int .i64 0, .int .i64 (-1)]) Try.underlying47 ty47 rfl pl47 rfl) ?_
  refine f_op rfl rfl (s_build (cs := [.int .i64 0, .int .i64 1, .int .i64 2]) Try.underlying47 ty47 rfl pl47 rfl) ?_
  refine f_op rfl rfl (s_build (cs := [.int .i64 0, .int .i64 (-1), .int .i64 (-2)]) Try.underlying47 ty47 rfl pl47 rfl) ?_
  refine f_op rfl rfl (s_buildSlice (cs := [.int .i64 1, .int .i64 0, .int .i64 1, .int .i64 (-1), .int .i64 0, .int .i64 (-1), .int .i64 0, .int .i64 1, .int .i64 2, .int .i64 0, .int .i64 (-1), .int .i64 (-2)]) Try.underlying30 ty47 (by decide) (by decide) rfl (by decide) rfl) ?_
  refine o_bind ?_; intro p1 hp1
  refine f_op rfl rfl (s_callF rfl ok40 (sim40 happ hp1)) ?_
  refine f_op rfl rfl (s_mv (v := .tup [.sl p1.1.1, .int .i64 p1.1.2]) rfl) ?_
  refine f_op rfl rfl (s_extract (r := .sl p1.1.1) rfl rfl) ?_
  refine f_op rfl rfl (s_extract (r := .int .i64 p1.1.2) rfl rfl) ?_
  refine f_op rfl rfl (s_as (v := .sl p1.1.1) rfl) ?_
  refine f_op rfl rfl (s_as (v := .int .i64 p1.1.2) rfl) ?_
  refine f_nil ?_
  refine f_seq ?_
  refine f_region ?_
  refine f_op rfl rfl (s_mv (v := .int .i64 p1.1.2) rfl) ?_
  refine f_op rfl rfl (s_eql rfl rfl) ?_
  refine f_op rfl rfl (s_mv (v := .bool (decide (p1.1.2 = 0))) rfl) ?_
  refine o_if (fun h2 => ?_) (fun h2 => ?_)
  · skip
    refine o_know 14 rfl (dec_true h2) ?_
    refine f_op rfl rfl (s_mv (v := .sl p1.1.1) rfl) ?_
    refine f_op rfl rfl (s_lenS rfl Try.underlying37 rfl) ?_
    refine f_op rfl rfl (s_eql rfl rfl) ?_
    refine f_op rfl rfl (s_pickT (v := .bool (decide ((p1.1.1.len : Int) = 1))) rfl rfl) ?_
    refine f_op rfl rfl (s_mv (v := .bool (decide ((p1.1.1.len : Int) = 1))) rfl) ?_
    refine o_if (fun h3 => ?_) (fun h3 => ?_)
    · skip
      refine o_know 19 rfl (dec_true h3) ?_
      refine f_op rfl rfl (s_mv (v := .sl p1.1.1) rfl) ?_
      refine o_ck fun g4 => ?_
      refine f_op rfl rfl (s_idx Try.underlying37 ty43 rfl rfl g4) ?_
      refine o_bind ?_; intro x5 hx5
      refine o_bind ?_; intro x6 hx6
      refine f_op rfl rfl (s_loads Try.underlying43 rfl ty43 rfl (lds_cons (ldI_eq hx5) (lds_cons (ldI_eq hx6) (lds_nil)))) ?_
      refine f_op rfl rfl (s_buildA (cs := [.int .i64 1, .int .i64 2]) Try.underlying43 ty43 ty3 rfl rfl) ?_
      refine f_op rfl rfl (s_eqArr eg43 Try.underlying43 Try.underlying3 ty3 rfl rfl rfl rfl rfl rfl) ?_
      refine f_op rfl rfl (s_pickT (v := .bool (AV.keqs [.int .i64 x5, .int .i64 x6] [.int .i64 1, .int .i64 2])) rfl rfl) ?_
      refine f_op rfl rfl (s_as (v := .bool (AV.keqs [.int .i64 x5, .int .i64 x6] [.int .i64 1, .int .i64 2])) rfl) ?_
      refine f_nil ?_
      exact f_ret (.tmp rfl (.nil)) rfl
    · skip
      refine o_know 19 rfl (dec_false h3) ?_
      refine f_no rfl rfl ?_
      refine f_no rfl rfl ?_
      refine f_no rfl rfl ?_
      refine f_no rfl rfl ?_
      refine f_no rfl rfl ?_
      refine f_op rfl rfl (s_pickF (v := .bool false) rfl rfl) ?_
      refine f_op rfl rfl (s_as (v := .bool false) rfl) ?_
      refine f_nil ?_
      exact f_ret (.tmp rfl (.nil)) rfl
  · skip
    refine o_know 14 rfl (dec_false h2) ?_
    refine f_no rfl rfl ?_
    refine f_no rfl rfl ?_
    refine f_no rfl rfl ?_
    refine f_op rfl rfl (s_pickF (v := .bool false) rfl rfl) ?_
    refine f_op rfl rfl (s_mv (v := .bool false) rfl) ?_
    refine f_no rfl rfl ?_
    refine f_no rfl rfl ?_
    refine f_no rfl rfl ?_
    refine f_no rfl rfl ?_
    refine f_no rfl rfl ?_
    refine f_op rfl rfl (s_pickF (v := .bool false) rfl rfl) ?_
    refine f_op rfl rfl (s_as (v := .bool false) rfl) ?_
    refine f_nil ?_
    exact f_ret (.tmp rfl (.nil)) rfl

/- 97 congou/cuts.cross -/
theorem ok97 : FnOk Try.prog 97 := ⟨⟨Try.f97, Try.func97, by kernel_rfl, rfl⟩⟩
theorem sim97 {a0 : Int} {a1 : Int} {a2 : Int} {a3 : Int} {H : Hp} {p : Int × Hp} (h : r97 a0 a1 a2 a3 H = some p) : CallSim Try.prog 97 [.int .i64 a0, .int .i64 a1, .int .i64 a2, .int .i64 a3] H (.int .i64 p.1) p.2 := by
  refine callSim (fn := Try.f97) (ret := ret97) Try.func97 rfl Try.ntmps97 rfl ?_ h
  unfold r97
  refine f_seq ?_
  refine f_region ?_
  refine f_op rfl rfl (s_as (v := .int .i64 0) rfl) ?_
  refine f_nil ?_
  refine f_seq ?_
  refine f_region ?_
  refine f_op rfl rfl (s_mv (v := .int .i64 a0) rfl) ?_
  refine f_op rfl rfl (s_mv (v := .int .i64 a3) rfl) ?_
  refine f_op rfl rfl (s_mul rfl rfl) ?_
  refine f_op rfl rfl (s_mv (v := .int .i64 a1) rfl) ?_
  refine f_op rfl rfl (s_mv (v := .int .i64 a2) rfl) ?_
  refine f_op rfl rfl (s_mul rfl rfl) ?_
  refine f_op rfl rfl (s_sub rfl rfl) ?_
  refine f_op rfl rfl (s_as (v := .int .i64 (w64 ((w64 (a0 * a3)) - (w64 (a1 * a2))))) rfl) ?_
  refine f_nil ?_
  exact f_ret (.tmp rfl (.nil)) rfl

/- 102 congou/cuts.left -/
theorem ok102 : FnOk Try.prog 102 := ⟨⟨Try.f102, Try.func102, by kernel_rfl, rfl⟩⟩
theorem sim102 {a0_0 : Int} {a0_1 : Int} {a1_0 : Int} {a1_1 : Int} {a2_0 : Int} {a2_1 : Int} {H : Hp} {p : Int × Hp} (h : r102 a0_0 a0_1 a1_0 a1_1 a2_0 a2_1 H = some p) : CallSim Try.prog 102 [.agg [.int .i64 a0_0, .int .i64 a0_1], .agg [.int .i64 a1_0, .int .i64 a1_1], .agg [.int .i64 a2_0, .int .i64 a2_1]] H (.int .i64 p.1) p.2 := by
  refine callSim (fn := Try.f102) (ret := ret102) Try.func102 rfl Try.ntmps102 rfl ?_ h
  unfold r102
  refine f_seq ?_
  refine f_region ?_
  refine f_op rfl rfl (s_box (v := .agg [.int .i64 a0_0, .int .i64 a0_1]) rfl rfl) ?_
  refine f_op rfl rfl (s_box (v := .agg [.int .i64 a1_0, .int .i64 a1_1]) rfl rfl) ?_
  refine f_op rfl rfl (s_box (v := .agg [.int .i64 a2_0, .int .i64 a2_1]) rfl rfl) ?_
  refine f_op rfl rfl (s_as (v := .int .i64 0) rfl) ?_
  refine o_hp ?_; intro H1 hH1
  refine f_nil ?_
  refine f_seq ?_
  refine f_region ?_
  refine f_op rfl rfl (s_idxA Try.underlying43 ty3 rfl rfl (by decide)) ?_
  refine o_bind ?_; intro x2 hx2
  refine f_op rfl rfl (s_load Try.underlying3 rfl rfl (ldI_eq hx2)) ?_
  refine f_op rfl rfl (s_idxA Try.underlying43 ty3 rfl rfl (by decide)) ?_
  refine o_bind ?_; intro x3 hx3
  refine f_op rfl rfl (s_load Try.underlying3 rfl rfl (ldI_eq hx3)) ?_
  refine f_op rfl rfl (s_sub rfl rfl) ?_
  refine f_op rfl rfl (s_idxA Try.underlying43 ty3 rfl rfl (by decide)) ?_
  refine o_bind ?_; intro x4 hx4
  refine f_op rfl rfl (s_load Try.underlying3 rfl rfl (ldI_eq hx4)) ?_
  refine f_op rfl rfl (s_idxA Try.underlying43 ty3 rfl rfl (by decide)) ?_
  refine o_bind ?_; intro x5 hx5
  refine f_op rfl rfl (s_load Try.underlying3 rfl rfl (ldI_eq hx5)) ?_
  refine f_op rfl rfl (s_sub rfl rfl) ?_
  refine f_op rfl rfl (s_idxA Try.underlying43 ty3 rfl rfl (by decide)) ?_
  refine o_bind ?_; intro x6 hx6
  refine f_op rfl rfl (s_load Try.underlying3 rfl rfl (ldI_eq hx6)) ?_
  refine f_op rfl rfl (s_idxA Try.underlying43 ty3 rfl rfl (by decide)) ?_
  refine o_bind ?_; intro x7 hx7
  refine f_op rfl rfl (s_load Try.underlying3 rfl rfl (ldI_eq hx7)) ?_
  refine f_op rfl rfl (s_sub rfl rfl) ?_
  refine f_op rfl rfl (s_idxA Try.underlying43 ty3 rfl rfl (by decide)) ?_
  refine o_bind ?_; intro x8 hx8
  refine f_op rfl rfl (s_load Try.underlying3 rfl rfl (ldI_eq hx8)) ?_
  refine f_op rfl rfl (s_idxA Try.underlying43 ty3 rfl rfl (by decide)) ?_
  refine o_bind ?_; intro x9 hx9
  refine f_op rfl rfl (s_load Try.underlying3 rfl rfl (ldI_eq hx9)) ?_
  refine f_op rfl rfl (s_sub rfl rfl) ?_
  refine o_bind ?_; intro p10 hp10
  refine f_op rfl rfl (s_callO rfl ok97 (sim97 hp10) rfl rfl) ?_
  refine f_op rfl rfl (s_as (v := .int .i64 p10.1) rfl) ?_
  refine f_nil ?_
  exact f_ret (.tmp rfl (.nil)) rfl

/- 72 congou/cuts.chain -/
theorem ok72 : FnOk Try.prog 72 := ⟨⟨Try.f72, Try.func72, by kernel_rfl, rfl⟩⟩
theorem s72_j2 (kt0 : Sl → Sl → Int → Int → Hp → Option (Sl × Hp)) (hkt0 : ∀ (v1 : Sl) (v2 : Sl) (v3 : Int) (v4 : Int) (H : Hp), Fin Try.prog Try.f72 ret72 43 (todoAt (bodyOf Try.f72) [1, 1, 0, 1, 0, 0] []) [(3, .sl v1), (6, .sl v2), (7, .int .i64 v3), (8, .int .i64 v4)] H (kt0 v1 v2 v3 v4 H)) (kt1 : Sl → Nat → Sl → Int → Int → Hp → Option (Sl × Hp)) (hkt1 : ∀ (v1 : Sl) (v2 : Nat) (v3 : Sl) (v4 : Int) (v5 : Int) (H : Hp), Fin Try.prog Try.f72 ret72 43 (todoAt (bodyOf Try.f72) [1, 1, 0, 1, 0, 0, 1, 1, 0, 0, 1, 0, 0, 0] []) [(3, .sl v1), (5, .ptr v2 0), (6, .sl v3), (7, .int .i64 v4), (8, .int .i64 v5)] H (kt1 v1 v2 v3 v4 v5 H)) (v1 : Sl) (v2 : Nat) (v3 : Sl) (v4 : Int) (v5 : Int) (v6 : Bool) (H : Hp) : Fin Try.prog Try.f72 ret72 43 (todoAt (bodyOf Try.f72) [1, 1, 0, 1, 0, 0, 1, 1, 0, 0, 1, 0, 0, 0, 0, 1] []) [(3, .sl v1), (5, .ptr v2 0), (6, .sl v3), (7, .int .i64 v4), (8, .int .i64 v5), (31, .bool v6)] H (r72_j2 kt0 kt1 v1 v2 v3 v4 v5 v6 H) := by
  unfold r72_j2
  refine f_if (fun h1 => ?_) (fun h1 => ?_)
  · skip
    refine f_know 31 rfl (bool_T h1) ?_
    refine f_condT rfl ?_
    refine f_skip ?_
    refine f_block ?_
    refine f_region ?_
    refine f_op rfl rfl (s_mv (v := .sl v1) rfl) ?_
    refine f_op rfl rfl (s_mv (v := .sl v1) rfl) ?_
    refine f_op rfl rfl (s_lenS rfl Try.underlying37 rfl) ?_
    refine f_op rfl rfl (s_sub rfl rfl) ?_
    refine o_ck fun g2 => ?_
    refine f_op rfl rfl (s_slice Try.underlying37 ty43 rfl rfl rfl g2.1 g2.2) ?_
    refine f_op rfl rfl (s_as (v := .sl (v1.cut 2 (0 : Int).toNat (w64 ((v1.len : Int) - 1) : Int).toNat)) rfl) ?_
    refine f_nil ?_
    refine f_inBlock ?_
    refine f_inLoop ?_
    refine f_keep [3, 5, 6, 7, 8] ?_
    exact hkt1 (v1.cut 2 (0 : Int).toNat (w64 ((v1.len : Int) - 1) : Int).toNat) v2 v3 v4 v5 H
  · skip
    refine f_know 31 rfl (bool_F h1) ?_
    refine f_condF rfl ?_
    refine f_exit rfl ?_
    refine f_region ?_
    refine f_op rfl rfl (s_mv (v := .sl v1) rfl) ?_
    refine o_bind ?_; intro x3 hx3
    refine o_bind ?_; intro x4 hx4
    refine f_op rfl rfl (s_loads Try.underlying43 rfl ty43 rfl (lds_cons (ldI_eq hx3) (lds_cons (ldI_eq hx4) (lds_nil)))) ?_
    refine f_op rfl rfl (s_buildSlice (cs := [.int .i64 x3, .int .i64 x4]) Try.underlying37 ty43 (by decide) (by decide) rfl (by decide) rfl) ?_
    refine o_bind ?_; intro x5 hx5
    refine f_op rfl rfl (s_ap rfl rfl Try.underlying37 Try.underlying37 ty43 rfl rfl rfl rfl rfl rfl rfl hx5) ?_
    refine f_op rfl rfl (s_as (v := .sl x5.1) rfl) ?_
    refine f_nil ?_
    refine f_inBlock ?_
    refine f_region ?_
    refine f_op rfl rfl (s_add rfl rfl) ?_
    refine f_op rfl rfl (s_mv (v := .int .i64 (w64 (v5 + 1))) rfl) ?_
    refine f_nil ?_
    refine f_inLoop ?_
    refine f_keep [3, 6, 7, 8] ?_
    exact hkt0 x5.1 v3 v4 (w64 (v5 + 1)) x5.2

theorem s72_l1 (kt0 : Sl → Sl → Int → Int → Hp → Option (Sl × Hp)) (hkt0 : ∀ (v1 : Sl) (v2 : Sl) (v3 : Int) (v4 : Int) (H : Hp), Fin Try.prog Try.f72 ret72 43 (todoAt (bodyOf Try.f72) [1, 1, 0, 1, 0, 0] []) [(3, .sl v1), (6, .sl v2), (7, .int .i64 v3), (8, .int .i64 v4)] H (kt0 v1 v2 v3 v4 H)) : ∀ (k_ : Nat) (v1 : Sl) (v2 : Nat) (v3 : Sl) (v4 : Int) (v5 : Int) (H : Hp), Fin Try.prog Try.f72 ret72 43 (todoAt (bodyOf Try.f72) [1, 1, 0, 1, 0, 0, 1, 1, 0, 0, 1, 0, 0, 0] []) [(3, .sl v1), (5, .ptr v2 0), (6, .sl v3), (7, .int .i64 v4), (8, .int .i64 v5)] H (r72_l1 kt0 k_ v1 v2 v3 v4 v5 H) := by
  intro k_
  induction k_ with
  | zero => intro _ _ _ _ _ _; exact f_none
  | succ k_ ih =>
    intro v1 v2 v3 v4 v5 H
    rw [r72_l1]
    refine f_seq ?_
    refine f_seq ?_
    refine f_if (fun h1 => ?_) (fun h1 => ?_)
    · skip
      refine f_ck fun g2 => ?_
      refine f_bind ?_; intro x3 hx3
      refine f_bind ?_; intro x4 hx4
      refine f_ck fun g5 => ?_
      refine f_bind ?_; intro x6 hx6
      refine f_bind ?_; intro x7 hx7
      refine f_bind ?_; intro x8 hx8
      refine f_bind ?_; intro x9 hx9
      refine f_bind ?_; intro p10 hp10
      refine f_draw (Φ := fun _ => True) (lim := 1000000) [0, 0, 0, 0, 0, 0, 0, 0, 0, 1, 0, 0, 0, 0, 0, 1, 1, 0, 0, 0] (Trc.pure rfl rfl rfl (.inl fun _ => s_mv (v := .sl v1) rfl) (Trc.pure rfl rfl rfl (.inl fun _ => s_lenS rfl Try.underlying37 rfl) (Trc.pure rfl rfl rfl (.inl fun _ => s_gtr rfl rfl) (Trc.pure rfl rfl rfl (.inl fun _ => s_mv (v := .bool (decide (1 < (v1.len : Int)))) rfl) (Trc.know 15 rfl (dec_true h1) (Trc.pure rfl rfl rfl (.inl fun _ => s_mv (v := .sl v1) rfl) (Trc.pure rfl rfl rfl (.inl fun _ => s_mv (v := .sl v1) rfl) (Trc.pure rfl rfl rfl (.inl fun _ => s_lenS rfl Try.underlying37 rfl) (Trc.pure rfl rfl rfl (.inl fun _ => s_sub rfl rfl) (Trc.pure rfl rfl rfl (.inl fun _ => s_idx Try.underlying37 ty43 rfl rfl g2) (Trc.read rfl rfl rfl (s_loads Try.underlying43 rfl ty43 rfl (lds_cons (ldI_eq hx3) (lds_cons (ldI_eq hx4) (lds_nil)))) (Trc.pure rfl rfl rfl (.inl fun _ => s_mv (v := .sl v1) rfl) (Trc.pure rfl rfl rfl (.inl fun _ => s_mv (v := .sl v1) rfl) (Trc.pure rfl rfl rfl (.inl fun _ => s_lenS rfl Try.underlying37 rfl) (Trc.pure rfl rfl rfl (.inl fun _ => s_sub rfl rfl) (Trc.pure rfl rfl rfl (.inl fun _ => s_idx Try.underlying37 ty43 rfl rfl g5) (Trc.read rfl rfl rfl (s_loads Try.underlying43 rfl ty43 rfl (lds_cons (ldI_eq hx6) (lds_cons (ldI_eq hx7) (lds_nil)))) (Trc.read rfl rfl rfl (s_loads Try.underlying43 rfl ty43 rfl (lds_cons (ldI_eq hx8) (lds_cons (ldI_eq hx9) (lds_nil)))) (Trc.pure rfl rfl rfl (.inl fun _ => s_callO rfl ok102 (sim102 hp10) rfl rfl) (Trc.pure rfl rfl rfl (.inl fun _ => s_leq rfl rfl) (Trc.pure rfl rfl rfl (.inl fun _ => s_pickT (v := .bool (decide (p10.1 ≤ 0))) rfl rfl) (Trc.nil (fun _ => trivial))))))))))))))))))))))) rfl (by decide +kernel) mixed ?_
      refine f_keep [3, 5, 6, 7, 8, 31] ?_
      exact s72_j2 _ hkt0 _ (fun v1_ v2_ v3_ v4_ v5_ H_ => ih v1_ v2_ v3_ v4_ v5_ H_) v1 v2 v3 v4 v5 (decide (p10.1 ≤ 0)) H
    · skip
      refine f_draw (Φ := fun _ => True) (lim := 1000000) [0, 0, 0, 0, 0, 0, 0, 0, 0, 0, 0, 0, 0, 0, 0, 0, 0, 0, 0, 0] (Trc.pure rfl rfl rfl (.inl fun _ => s_mv (v := .sl v1) rfl) (Trc.pure rfl rfl rfl (.inl fun _ => s_lenS rfl Try.underlying37 rfl) (Trc.pure rfl rfl rfl (.inl fun _ => s_gtr rfl rfl) (Trc.pure rfl rfl rfl (.inl fun _ => s_mv (v := .bool (decide (1 < (v1.len : Int)))) rfl) (Trc.know 15 rfl (dec_false h1) (Trc.no rfl rfl rfl (Trc.no rfl rfl rfl (Trc.no rfl rfl rfl (Trc.no rfl rfl rfl (Trc.no rfl rfl rfl (Trc.no rfl rfl rfl (Trc.no rfl rfl rfl (Trc.no rfl rfl rfl (Trc.no rfl rfl rfl (Trc.no rfl rfl rfl (Trc.no rfl rfl rfl (Trc.no rfl rfl rfl (Trc.no rfl rfl rfl (Trc.no rfl rfl rfl (Trc.no rfl rfl rfl (Trc.pure rfl rfl rfl (.inl fun _ => s_pickF (v := .bool false) rfl rfl) (Trc.nil (fun _ => trivial))))))))))))))))))))))) rfl (by decide +kernel) mixed ?_
      refine f_keep [3, 5, 6, 7, 8, 31] ?_
      exact s72_j2 _ hkt0 _ (fun v1_ v2_ v3_ v4_ v5_ H_ => ih v1_ v2_ v3_ v4_ v5_ H_) v1 v2 v3 v4 v5 false H

theorem s72_l0 : ∀ (k_ : Nat) (v1 : Sl) (v2 : Sl) (v3 : Int) (v4 : Int) (H : Hp), Fin Try.prog Try.f72 ret72 43 (todoAt (bodyOf Try.f72) [1, 1, 0, 1, 0, 0] []) [(3, .sl v1), (6, .sl v2), (7, .int .i64 v3), (8, .int .i64 v4)] H (r72_l0 k_ v1 v2 v3 v4 H) := by
  intro k_
  induction k_ with
  | zero => intro _ _ _ _ _; exact f_none
  | succ k_ ih =>
    intro v1 v2 v3 v4 H
    rw [r72_l0]
    refine f_seq ?_
    refine f_region ?_
    refine f_op rfl rfl (s_lss rfl rfl) ?_
    refine f_nil ?_
    refine f_seq ?_
    refine f_if (fun h1 => ?_) (fun h1 => ?_)
    · skip
      refine f_know 9 rfl (dec_true h1) ?_
      refine f_condT rfl ?_
      refine f_skip ?_
      refine f_seq ?_
      refine f_block ?_
      refine f_seq ?_
      refine f_region ?_
      refine o_ck fun g2 => ?_
      refine f_op rfl rfl (s_idx Try.underlying37 ty43 rfl rfl g2) ?_
      refine o_bind ?_; intro x3 hx3
      refine o_bind ?_; intro x4 hx4
      refine f_op rfl rfl (s_loads Try.underlying43 rfl ty43 rfl (lds_cons (ldI_eq hx3) (lds_cons (ldI_eq hx4) (lds_nil)))) ?_
      refine f_op rfl rfl (s_alloc (zs := [.int .i64 0, .int .i64 0]) ty43 rfl rfl) ?_
      refine o_bind ?_; intro H5 hH5
      refine f_op rfl rfl (s_stores ty43 rfl rfl rfl rfl hH5 (Nat.le_of_eq (sts_mono hH5).symm)) ?_
      refine f_nil ?_
      refine f_seq ?_
      refine f_block ?_
      refine f_loop ?_
      refine f_keep [3, 5, 6, 7, 8] ?_
      exact s72_l1 _ (fun v1_ v2_ v3_ v4_ H_ => ih v1_ v2_ v3_ v4_ H_) FUEL v1 H.n v2 v3 v4 H5
    · skip
      refine f_know 9 rfl (dec_false h1) ?_
      refine f_condF rfl ?_
      refine f_exit rfl ?_
      refine f_seq ?_
      refine f_region ?_
      refine f_op rfl rfl (s_mv (v := .sl v1) rfl) ?_
      refine f_op rfl rfl (s_as (v := .sl v1) rfl) ?_
      refine f_nil ?_
      exact f_ret (.tmp rfl (.nil)) rfl

theorem sim72 {a0 : Sl} {H : Hp} {p : Sl × Hp} (h : r72 a0 H = some p) : CallSim Try.prog 72 [.sl a0] H (.sl p.1) p.2 := by
  refine callSim (fn := Try.f72) (ret := ret72) Try.func72 rfl Try.ntmps72 rfl ?_ h
  unfold r72
  refine f_seq ?_
  refine f_region ?_
  refine f_op rfl rfl (s_as (v := .sl ⟨true, 0, 0, 0, 0, 0⟩) rfl) ?_
  refine f_nil ?_
  refine f_seq ?_
  refine f_region ?_
  refine f_op rfl rfl (s_as (v := .sl ⟨true, 0, 0, 0, 0, 0⟩) rfl) ?_
  refine f_nil ?_
  refine f_seq ?_
  refine f_seq ?_
  refine f_region ?_
  refine f_op rfl rfl (s_mv (v := .sl a0) rfl) ?_
  refine f_op rfl rfl (s_lenS rfl Try.underlying37 rfl) ?_
  refine f_op rfl rfl (s_mv (v := .int .i64 0) rfl) ?_
  refine f_nil ?_
  refine f_block ?_
  refine f_loop ?_
  refine f_keep [3, 6, 7, 8] ?_
  exact s72_l0 FUEL ⟨true, 0, 0, 0, 0, 0⟩ a0 (a0.len : Int) 0 H

/- 73 slices.Reverse[[][2]int,[2]int] -/
theorem ok73 : FnOk Try.prog 73 := ⟨⟨Try.f73, Try.func73, by kernel_rfl, rfl⟩⟩
theorem s73_l0 : ∀ (k_ : Nat) (v1 : Sl) (v2 : Int) (v3 : Int) (H : Hp), Fin Try.prog Try.f73 ret73 28 (todoAt (bodyOf Try.f73) [1, 0, 0] []) [(0, .sl v1), (2, .int .i64 v2), (3, .int .i64 v3)] H (r73_l0 k_ v1 v2 v3 H) := by
  intro k_
  induction k_ with
  | zero => intro _ _ _ _; exact f_none
  | succ k_ ih =>
    intro v1 v2 v3 H
    rw [r73_l0]
    refine f_seq ?_
    refine f_seq ?_
    refine f_region ?_
    refine f_op rfl rfl (s_mv (v := .int .i64 v2) rfl) ?_
    refine f_op rfl rfl (s_mv (v := .int .i64 v3) rfl) ?_
    refine f_op rfl rfl (s_lss rfl rfl) ?_
    refine f_nil ?_
    refine f_if (fun h1 => ?_) (fun h1 => ?_)
    · skip
      refine f_know 9 rfl (dec_true h1) ?_
      refine f_condT rfl ?_
      refine f_skip ?_
      refine f_seq ?_
      refine f_block ?_
      refine f_ck fun g2 => ?_
      refine f_bind ?_; intro x3 hx3
      refine f_bind ?_; intro x4 hx4
      refine f_ck fun g5 => ?_
      refine f_bind ?_; intro x6 hx6
      refine f_bind ?_; intro x7 hx7
      refine f_ck fun g8 => ?_
      refine f_bind ?_; intro H9 hH9
      refine f_ck fun g10 => ?_
      refine f_bind ?_; intro H11 hH11
      refine f_draw (Φ := fun _ => True) (lim := 1000000) [0, 0, 0, 0, 0, 0, 0, 1, 0, 0, 0, 1, 0, 2, 0, 2] (Trc.pure rfl rfl rfl (.inl fun _ => s_mv (v := .sl v1) rfl) (Trc.pure rfl rfl rfl (.inl fun _ => s_mv (v := .int .i64 v2) rfl) (Trc.pure rfl rfl rfl (.inl fun _ => s_mv (v := .sl v1) rfl) (Trc.pure rfl rfl rfl (.inl fun _ => s_mv (v := .int .i64 v3) rfl) (Trc.pure rfl rfl rfl (.inl fun _ => s_mv (v := .sl v1) rfl) (Trc.pure rfl rfl rfl (.inl fun _ => s_mv (v := .int .i64 v3) rfl) (Trc.pure rfl rfl rfl (.inl fun _ => s_idx Try.underlying37 ty43 rfl rfl g2) (Trc.read rfl rfl rfl (s_loads Try.underlying43 rfl ty43 rfl (lds_cons (ldI_eq hx3) (lds_cons (ldI_eq hx4) (lds_nil)))) (Trc.pure rfl rfl rfl (.inl fun _ => s_mv (v := .sl v1) rfl) (Trc.pure rfl rfl rfl (.inl fun _ => s_mv (v := .int .i64 v2) rfl) (Trc.pure rfl rfl rfl (.inl fun _ => s_idx Try.underlying37 ty43 rfl rfl g5) (Trc.read rfl rfl rfl (s_loads Try.underlying43 rfl ty43 rfl (lds_cons (ldI_eq hx6) (lds_cons (ldI_eq hx7) (lds_nil)))) (Trc.pure rfl rfl rfl (.inl fun _ => s_idx Try.underlying37 ty43 rfl rfl g8) (Trc.eff rfl rfl rfl (fun _ => trivial) (s_stores ty43 rfl rfl rfl rfl hH9 (Nat.le_of_eq (sts_mono hH9).symm)) (Trc.pure rfl rfl rfl (.inl fun _ => s_idx Try.underlying37 ty43 rfl rfl g10) (Trc.eff rfl rfl rfl (fun _ => trivial) (s_stores ty43 rfl rfl rfl rfl hH11 (Nat.le_of_eq (sts_mono hH11).symm)) (Trc.nil (fun _ => trivial)))))))))))))))))) rfl (by decide +kernel) mixed ?_
      refine f_inBlock ?_
      refine f_region ?_
      refine f_op rfl rfl (s_mv (v := .int .i64 v2) rfl) ?_
      refine f_op rfl rfl (s_add rfl rfl) ?_
      refine f_op rfl rfl (s_mv (v := .int .i64 v3) rfl) ?_
      refine f_op rfl rfl (s_sub rfl rfl) ?_
      refine f_op rfl rfl (s_as (v := .int .i64 (w64 (v2 + 1))) rfl) ?_
      refine f_op rfl rfl (s_as (v := .int .i64 (w64 (v3 - 1))) rfl) ?_
      refine f_nil ?_
      refine f_inLoop ?_
      refine f_keep [0, 2, 3] ?_
      exact ih v1 (w64 (v2 + 1)) (w64 (v3 - 1)) H11
    · skip
      refine f_know 9 rfl (dec_false h1) ?_
      refine f_condF rfl ?_
      refine f_exit rfl ?_
      exact f_end (.nil) rfl

theorem sim73 {a0 : Sl} {H : Hp} {p : Unit × Hp} (h : r73 a0 H = some p) : CallSim Try.prog 73 [.sl a0] H (.tup []) p.2 := by
  refine callSim (fn := Try.f73) (ret := ret73) Try.func73 rfl Try.ntmps73 rfl ?_ h
  unfold r73
  refine f_seq ?_
  refine f_region ?_
  refine f_op rfl rfl (s_mv (v := .sl a0) rfl) ?_
  refine f_op rfl rfl (s_lenS rfl Try.underlying37 rfl) ?_
  refine f_op rfl rfl (s_sub rfl rfl) ?_
  refine f_op rfl rfl (s_as (v := .int .i64 0) rfl) ?_
  refine f_op rfl rfl (s_as (v := .int .i64 (w64 ((a0.len : Int) - 1))) rfl) ?_
  refine f_nil ?_
  refine f_block ?_
  refine f_loop ?_
  refine f_keep [0, 2, 3] ?_
  exact s73_l0 FUEL a0 0 (w64 ((a0.len : Int) - 1)) H

/- 23 congou/cuts.Hull -/
theorem ok23 : FnOk Try.prog 23 := ⟨⟨Try.f23, Try.func23, by kernel_rfl, rfl⟩⟩
theorem sim23 {app : App} (happ : AppSim Try.prog app) {a0 : Sl} {H : Hp} {p : (Sl × Int) × Hp} (h : r23 app a0 H = some p) : CallSim Try.prog 23 [.sl a0] H (.tup [.sl p.1.1, .int .i64 p.1.2]) p.2 := by
  refine callSim (fn := Try.f23) (ret := ret23) Try.func23 rfl Try.ntmps23 rfl ?_ h
  unfold r23
  refine f_seq ?_
  refine f_region ?_
  refine f_op rfl rfl (s_as (v := .sl ⟨true, 0, 0, 0, 0, 0⟩) rfl) ?_
  refine f_op rfl rfl (s_as (v := .int .i64 0) rfl) ?_
  refine f_nil ?_
  refine f_seq ?_
  refine f_seq ?_
  refine f_region ?_
  refine f_op rfl rfl (s_mv (v := .sl a0) rfl) ?_
  refine o_bind ?_; intro p1 hp1
  refine f_op rfl rfl (s_callF rfl ok63 (sim63 happ hp1)) ?_
  refine f_op rfl rfl (s_not rfl) ?_
  refine f_nil ?_
  refine f_if (fun h2 => ?_) (fun h2 => ?_)
  · skip
    refine f_know 9 rfl (bool_notT h2) ?_
    refine f_condF rfl ?_
    refine f_skip ?_
    refine f_seq ?_
    refine f_region ?_
    refine f_op rfl rfl (s_mv (v := .sl a0) rfl) ?_
    refine o_bind ?_; intro p3 hp3
    refine f_op rfl rfl (s_callF rfl ok71 (sim71 happ hp3)) ?_
    refine f_op rfl rfl (s_as (v := .sl p3.1) rfl) ?_
    refine f_nil ?_
    refine f_seq ?_
    refine f_seq ?_
    refine f_region ?_
    refine f_op rfl rfl (s_mv (v := .sl p3.1) rfl) ?_
    refine f_op rfl rfl (s_lenS rfl Try.underlying37 rfl) ?_
    refine f_nil ?_
    refine f_block ?_
    refine f_seq ?_
    refine f_region ?_
    refine f_op rfl rfl (s_eql rfl rfl) ?_
    refine f_op rfl rfl (s_as (v := .bool (decide ((p3.1.len : Int) = 0))) rfl) ?_
    refine f_nil ?_
    refine f_if (fun h4 => ?_) (fun h4 => ?_)
    · skip
      refine f_know 14 rfl (dec_true h4) ?_
      refine f_condT rfl ?_
      refine f_seq ?_
      refine f_region ?_
      refine f_op rfl rfl (s_as (v := .sl ⟨true, 0, 0, 0, 0, 0⟩) rfl) ?_
      refine f_op rfl rfl (s_as (v := .int .i64 4) rfl) ?_
      refine f_nil ?_
      exact f_ret (.tmp rfl (.tmp rfl (.nil))) rfl
    · skip
      refine f_know 14 rfl (dec_false h4) ?_
      refine f_condF rfl ?_
      refine f_seq ?_
      refine f_region ?_
      refine f_op rfl rfl (s_eql rfl rfl) ?_
      refine f_op rfl rfl (s_as (v := .bool (decide ((p3.1.len : Int) = 1))) rfl) ?_
      refine f_nil ?_
      refine f_if (fun h5 => ?_) (fun h5 => ?_)
      · skip
        refine f_know 16 rfl (dec_true h5) ?_
        refine f_condT rfl ?_
        refine f_seq ?_
        refine f_region ?_
        refine f_op rfl rfl (s_mv (v := .sl p3.1) rfl) ?_
        refine f_op rfl rfl (s_as (v := .sl p3.1) rfl) ?_
        refine f_op rfl rfl (s_as (v := .int .i64 0) rfl) ?_
        refine f_nil ?_
        exact f_ret (.tmp rfl (.tmp rfl (.nil))) rfl
      · skip
        refine f_know 16 rfl (dec_false h5) ?_
        refine f_condF rfl ?_
        refine f_skip ?_
        refine f_inBlock ?_
        refine f_seq ?_
        refine f_region ?_
        refine f_op rfl rfl (s_mv (v := .sl p3.1) rfl) ?_
        refine o_bind ?_; intro p6 hp6
        refine f_op rfl rfl (s_callF rfl ok72 (sim72 hp6)) ?_
        refine f_op rfl rfl (s_as (v := .sl p6.1) rfl) ?_
        refine f_nil ?_
        refine f_seq ?_
        refine f_region ?_
        refine f_op rfl rfl (s_mv (v := .sl p3.1) rfl) ?_
        refine o_bind ?_; intro p7 hp7
        refine f_op rfl rfl (s_callF rfl ok73 (sim73 hp7)) ?_
        refine f_nil ?_
        refine f_seq ?_
        refine f_region ?_
        refine f_op rfl rfl (s_mv (v := .sl p3.1) rfl) ?_
        refine o_bind ?_; intro p8 hp8
        refine f_op rfl rfl (s_callF rfl ok72 (sim72 hp8)) ?_
        refine f_op rfl rfl (s_as (v := .sl p8.1) rfl) ?_
        refine f_nil ?_
        refine f_seq ?_
        refine f_ck fun g9 => ?_
        refine f_ck fun g10 => ?_
        refine f_bind ?_; intro x11 hx11
        refine f_ck fun g12 => ?_
        refine f_bind ?_; intro x13 hx13
        refine f_draw (Φ := fun _ => True) (lim := 1000000) [0, 0, 0, 0, 0, 0, 0, 0, 0, 0, 0, 0, 0, 2, 0, 0] (Trc.pure rfl rfl rfl (.inl fun _ => s_mv (v := .sl p6.1) rfl) (Trc.pure rfl rfl rfl (.inl fun _ => s_mv (v := .sl p6.1) rfl) (Trc.pure rfl rfl rfl (.inl fun _ => s_lenS rfl Try.underlying37 rfl) (Trc.pure rfl rfl rfl (.inl fun _ => s_sub rfl rfl) (Trc.pure rfl rfl rfl (.inl fun _ => s_mv (v := .sl p6.1) rfl) (Trc.pure rfl rfl rfl (.inl fun _ => s_lenS rfl Try.underlying37 rfl) (Trc.pure rfl rfl rfl (.inl fun _ => s_sub rfl rfl) (Trc.pure rfl rfl rfl (.inl fun _ => s_slice3 Try.underlying37 ty43 rfl rfl rfl rfl g9) (Trc.pure rfl rfl rfl (.inl fun _ => s_mv (v := .sl p8.1) rfl) (Trc.pure rfl rfl rfl (.inl fun _ => s_mv (v := .sl p8.1) rfl) (Trc.pure rfl rfl rfl (.inl fun _ => s_lenS rfl Try.underlying37 rfl) (Trc.pure rfl rfl rfl (.inl fun _ => s_sub rfl rfl) (Trc.pure rfl rfl rfl (.inl fun _ => s_slice Try.underlying37 ty43 rfl rfl rfl g10.1 g10.2) (Trc.eff rfl rfl rfl (fun _ => trivial) (s_append rfl rfl Try.underlying37 Try.underlying37 ty43 (by decide) rfl (by decide) rfl rfl hx11 g12 hx13) (Trc.pure rfl rfl rfl (.inl fun _ => s_as (v := .sl x13.1) rfl) (Trc.pure rfl rfl rfl (.inl fun _ => s_as (v := .int .i64 0) rfl) (Trc.nil (fun _ => trivial)))))))))))))))))) rfl (by decide +kernel) mixed ?_
        exact f_ret (.tmp rfl (.tmp rfl (.nil))) rfl
  · skip
    refine f_know 9 rfl (bool_notF h2) ?_
    refine f_condT rfl ?_
    refine f_seq ?_
    refine f_region ?_
    refine f_op rfl rfl (s_as (v := .sl ⟨true, 0, 0, 0, 0, 0⟩) rfl) ?_
    refine f_op rfl rfl (s_as (v := .int .i64 2) rfl) ?_
    refine f_nil ?_
    exact f_ret (.tmp rfl (.tmp rfl (.nil))) rfl

/- 82 slices.MaxFunc[[][2]int,[2]int] -/
theorem ok82 : FnOk Try.prog 82 := ⟨⟨Try.f82, Try.func82, by kernel_rfl, rfl⟩⟩
theorem s82_l0 {app : App} (happ : AppSim Try.prog app) : ∀ (k_ : Nat) (v1 : Sl) (v2 : AV) (v3 : Nat) (v4 : Nat) (v5 : Int) (H : Hp), Fin Try.prog Try.f82 ret82 33 (todoAt (bodyOf Try.f82) [1, 1, 1, 0, 1, 0, 0] []) [(0, .sl v1), (1, v2), (4, .ptr v3 0), (5, .ptr v4 0), (6, .int .i64 v5)] H (r82_l0 app k_ v1 v2 v3 v4 v5 H) := by
  intro k_
  induction k_ with
  | zero => intro _ _ _ _ _ _; exact f_none
  | succ k_ ih =>
    intro v1 v2 v3 v4 v5 H
    rw [r82_l0]
    refine f_seq ?_
    refine f_seq ?_
    refine f_region ?_
    refine f_op rfl rfl (s_mv (v := .int .i64 v5) rfl) ?_
    refine f_op rfl rfl (s_mv (v := .sl v1) rfl) ?_
    refine f_op rfl rfl (s_lenS rfl Try.underlying37 rfl) ?_
    refine f_op rfl rfl (s_lss rfl rfl) ?_
    refine f_nil ?_
    refine f_if (fun h1 => ?_) (fun h1 => ?_)
    · skip
      refine f_know 17 rfl (dec_true h1) ?_
      refine f_condT rfl ?_
      refine f_skip ?_
      refine f_seq ?_
      refine f_block ?_
      refine f_seq ?_
      refine f_ck fun g2 => ?_
      refine f_bind ?_; intro x3 hx3
      refine f_bind ?_; intro x4 hx4
      refine f_bind ?_; intro x5 hx5
      refine f_bind ?_; intro x6 hx6
      refine f_bind ?_; intro p7 hp7
      refine f_bind ?_; intro x8 hx8
      refine f_draw (Φ := fun _ => True) (lim := 1000000) [0, 0, 0, 0, 1, 1, 2, 0] (Trc.pure rfl rfl rfl (.inl fun _ => s_mv (v := v2) rfl) (Trc.pure rfl rfl rfl (.inl fun _ => s_mv (v := .sl v1) rfl) (Trc.pure rfl rfl rfl (.inl fun _ => s_mv (v := .int .i64 v5) rfl) (Trc.pure rfl rfl rfl (.inl fun _ => s_idx Try.underlying37 ty43 rfl rfl g2) (Trc.read rfl rfl rfl (s_loads Try.underlying43 rfl ty43 rfl (lds_cons (ldI_eq hx3) (lds_cons (ldI_eq hx4) (lds_nil)))) (Trc.read rfl rfl rfl (s_loads Try.underlying43 rfl ty43 rfl (lds_cons (ldI_eq hx5) (lds_cons (ldI_eq hx6) (lds_nil)))) (Trc.eff rfl rfl rfl (fun _ => trivial) (s_callv happ rfl rfl hp7) (Trc.know 26 rfl (asI_eq hx8) (Trc.pure rfl rfl rfl (.inl fun _ => s_gtr rfl rfl) (Trc.nil (fun _ => trivial))))))))))) rfl (by decide +kernel) mixed ?_
      refine f_if (fun h9 => ?_) (fun h9 => ?_)
      · skip
        refine f_know 27 rfl (dec_true h9) ?_
        refine f_condT rfl ?_
        refine f_region ?_
        refine f_op rfl rfl (s_mv (v := .sl v1) rfl) ?_
        refine f_op rfl rfl (s_mv (v := .int .i64 v5) rfl) ?_
        refine o_ck fun g10 => ?_
        refine f_op rfl rfl (s_idx Try.underlying37 ty43 rfl rfl g10) ?_
        refine o_bind ?_; intro x11 hx11
        refine o_bind ?_; intro x12 hx12
        refine f_op rfl rfl (s_loads Try.underlying43 rfl ty43 rfl (lds_cons (ldI_eq hx11) (lds_cons (ldI_eq hx12) (lds_nil)))) ?_
        refine o_bind ?_; intro H13 hH13
        refine f_op rfl rfl (s_stores ty43 rfl rfl rfl rfl hH13 (Nat.le_of_eq (sts_mono hH13).symm)) ?_
        refine f_nil ?_
        refine f_inBlock ?_
        refine f_region ?_
        refine f_op rfl rfl (s_mv (v := .int .i64 v5) rfl) ?_
        refine f_op rfl rfl (s_add rfl rfl) ?_
        refine f_op rfl rfl (s_as (v := .int .i64 (w64 (v5 + 1))) rfl) ?_
        refine f_nil ?_
        refine f_inLoop ?_
        refine f_keep [0, 1, 4, 5, 6] ?_
        exact ih v1 v2 v3 v4 (w64 (v5 + 1)) H13
      · skip
        refine f_know 27 rfl (dec_false h9) ?_
        refine f_condF rfl ?_
        refine f_skip ?_
        refine f_inBlock ?_
        refine f_region ?_
        refine f_op rfl rfl (s_mv (v := .int .i64 v5) rfl) ?_
        refine f_op rfl rfl (s_add rfl rfl) ?_
        refine f_op rfl rfl (s_as (v := .int .i64 (w64 (v5 + 1))) rfl) ?_
        refine f_nil ?_
        refine f_inLoop ?_
        refine f_keep [0, 1, 4, 5, 6] ?_
        exact ih v1 v2 v3 v4 (w64 (v5 + 1)) p7.2
    · skip
      refine f_know 17 rfl (dec_false h1) ?_
      refine f_condF rfl ?_
      refine f_exit rfl ?_
      refine f_seq ?_
      refine f_region ?_
      refine o_bind ?_; intro x14 hx14
      refine o_bind ?_; intro x15 hx15
      refine f_op rfl rfl (s_loads Try.underlying43 rfl ty43 rfl (lds_cons (ldI_eq hx14) (lds_cons (ldI_eq hx15) (lds_nil)))) ?_
      refine o_bind ?_; intro H16 hH16
      refine f_op rfl rfl (s_stores ty43 rfl rfl rfl rfl hH16 (Nat.le_of_eq (sts_mono hH16).symm)) ?_
      refine f_nil ?_
      refine f_bind ?_; intro x17 hx17
      refine f_bind ?_; intro x18 hx18
      exact f_ret (.cells Try.underlying43 rfl sz43 rfl (lds_cons (ldI_eq hx17) (lds_cons (ldI_eq hx18) (lds_nil))) (.nil)) rfl

theorem sim82 {app : App} (happ : AppSim Try.prog app) {a0 : Sl} {a1 : AV} {H : Hp} {p : (Int × Int) × Hp} (h : r82 app a0 a1 H = some p) : CallSim Try.prog 82 [.sl a0, a1] H (.agg [.int .i64 p.1.1, .int .i64 p.1.2]) p.2 := by
  refine callSim (fn := Try.f82) (ret := ret82) Try.func82 rfl Try.ntmps82 rfl ?_ h
  unfold r82
  refine f_seq ?_
  refine f_region ?_
  refine f_op rfl rfl (s_alloc (zs := [.int .i64 0, .int .i64 0]) ty43 rfl rfl) ?_
  refine o_hp ?_; intro H1 hH1
  refine f_nil ?_
  refine f_seq ?_
  refine f_seq ?_
  refine f_region ?_
  refine f_op rfl rfl (s_mv (v := .sl a0) rfl) ?_
  refine f_op rfl rfl (s_lenS rfl Try.underlying37 rfl) ?_
  refine f_op rfl rfl (s_lss rfl rfl) ?_
  refine f_nil ?_
  refine f_if (fun h2 => ?_) (fun h2 => ?_)
  · skip
    refine f_know 9 rfl (dec_true h2) ?_
    refine f_condT rfl ?_
    refine f_region ?_
    exact o_none
  · skip
    refine f_know 9 rfl (dec_false h2) ?_
    refine f_condF rfl ?_
    refine f_skip ?_
    refine f_seq ?_
    refine f_region ?_
    refine f_op rfl rfl (s_mv (v := .sl a0) rfl) ?_
    refine o_ck fun g3 => ?_
    refine f_op rfl rfl (s_idx Try.underlying37 ty43 rfl rfl g3) ?_
    refine o_bind ?_; intro x4 hx4
    refine o_bind ?_; intro x5 hx5
    refine f_op rfl rfl (s_loads Try.underlying43 rfl ty43 rfl (lds_cons (ldI_eq hx4) (lds_cons (ldI_eq hx5) (lds_nil)))) ?_
    refine f_op rfl rfl (s_alloc (zs := [.int .i64 0, .int .i64 0]) ty43 rfl rfl) ?_
    refine o_bind ?_; intro H6 hH6
    refine f_op rfl rfl (s_stores ty43 rfl rfl rfl rfl hH6 (Nat.le_of_eq (sts_mono hH6).symm)) ?_
    refine f_nil ?_
    refine f_seq ?_
    refine f_seq ?_
    refine f_region ?_
    refine f_op rfl rfl (s_as (v := .int .i64 1) rfl) ?_
    refine f_nil ?_
    refine f_block ?_
    refine f_loop ?_
    refine f_keep [0, 1, 4, 5, 6] ?_
    exact s82_l0 happ FUEL a0 a1 H.n H1.n 1 H6

/- 42 congou/cuts.Best -/
theorem ok42 : FnOk Try.prog 42 := ⟨⟨Try.f42, Try.func42, by kernel_rfl, rfl⟩⟩
theorem s42_j0 {app : App} (happ : AppSim Try.prog app) (v1 : Sl) (v2 : Nat) (v3 : Nat) (v4 : Bool) (H : Hp) : Fin Try.prog Try.f42 ret42 31 (todoAt (bodyOf Try.f42) [1, 0, 1] []) [(0, .sl v1), (4, .ptr v2 0), (5, .ptr v3 0), (19, .bool v4)] H (r42_j0 app v1 v2 v3 v4 H) := by
  unfold r42_j0
  refine f_if (fun h1 => ?_) (fun h1 => ?_)
  · skip
    refine f_know 19 rfl (bool_T h1) ?_
    refine f_condT rfl ?_
    refine f_seq ?_
    refine f_region ?_
    refine f_op rfl rfl (s_as (v := .int .i64 0) rfl) ?_
    refine f_op rfl rfl (s_as (v := .int .i64 2) rfl) ?_
    refine f_nil ?_
    exact f_ret (.tmp rfl (.tmp rfl (.nil))) rfl
  · skip
    refine f_know 19 rfl (bool_F h1) ?_
    refine f_condF rfl ?_
    refine f_skip ?_
    refine f_seq ?_
    refine f_region ?_
    refine f_op rfl rfl (s_mv (v := .sl v1) rfl) ?_
    refine o_bind ?_; intro p2 hp2
    refine f_op rfl rfl (s_callF rfl ok71 (sim71 happ hp2)) ?_
    refine f_op rfl rfl (s_as (v := .sl p2.1) rfl) ?_
    refine f_nil ?_
    refine f_seq ?_
    refine f_seq ?_
    refine f_region ?_
    refine f_op rfl rfl (s_mv (v := .sl p2.1) rfl) ?_
    refine f_op rfl rfl (s_lenS rfl Try.underlying37 rfl) ?_
    refine f_op rfl rfl (s_eql rfl rfl) ?_
    refine f_nil ?_
    refine f_if (fun h3 => ?_) (fun h3 => ?_)
    · skip
      refine f_know 24 rfl (dec_true h3) ?_
      refine f_condT rfl ?_
      refine f_seq ?_
      refine f_region ?_
      refine f_op rfl rfl (s_as (v := .int .i64 0) rfl) ?_
      refine f_op rfl rfl (s_as (v := .int .i64 4) rfl) ?_
      refine f_nil ?_
      exact f_ret (.tmp rfl (.tmp rfl (.nil))) rfl
    · skip
      refine f_know 24 rfl (dec_false h3) ?_
      refine f_condF rfl ?_
      refine f_skip ?_
      refine f_seq ?_
      refine f_region ?_
      refine f_op rfl rfl (s_makeFunc rfl rfl) ?_
      refine f_op rfl rfl (s_alloc (zs := [.nilfn]) ty117 rfl rfl) ?_
      refine o_bind ?_; intro H4 hH4
      refine f_op rfl rfl (s_store (s := 1) ty117 rfl rfl rfl hH4) ?_
      refine f_nil ?_
      refine f_seq ?_
      refine f_bind ?_; intro x5 hx5
      refine f_bind ?_; intro p6 hp6
      refine f_bind ?_; intro p7 hp7
      refine f_bind ?_; intro x8 hx8
      refine f_ck fun g9 => ?_
      refine f_draw (Φ := fun H_ => H_.ld p2.2.n 0 = some (x5)) (lim := 4) [0, 0, 0, 2, 2, 0, 0] (Trc.pure rfl rfl rfl (.inr ⟨by decide +kernel, fun _ hp_ => s_load Try.underlying117 rfl rfl hp_⟩) (Trc.pure rfl rfl rfl (.inl fun _ => s_mv (v := .sl p2.1) rfl) (Trc.pure rfl rfl rfl (.inl fun _ => s_makeFunc rfl rfl) (Trc.eff rfl rfl rfl (fun _ => ldV_eq hx5) (s_callF rfl ok82 (sim82 happ hp6)) (Trc.eff rfl rfl rfl (fun _ => isV_eq g9) (s_callv happ rfl rfl hp7) (Trc.know 30 rfl (asI_eq hx8) (Trc.pure rfl rfl rfl (.inl fun _ => s_as (v := .int .i64 x8) rfl) (Trc.pure rfl rfl rfl (.inl fun _ => s_as (v := .int .i64 0) rfl) (Trc.nil (fun h_ => absurd h_ (by decide +kernel))))))))))) rfl (by decide +kernel) mixed ?_
      exact f_ret (.tmp rfl (.tmp rfl (.nil))) rfl

theorem sim42 {app : App} (happ : AppSim Try.prog app) {a0 : Sl} {a1 : Int} {a2 : Int} {H : Hp} {p : (Int × Int) × Hp} (h : r42 app a0 a1 a2 H = some p) : CallSim Try.prog 42 [.sl a0, .int .i64 a1, .int .i64 a2] H (.tup [.int .i64 p.1.1, .int .i64 p.1.2]) p.2 := by
  refine callSim (fn := Try.f42) (ret := ret42) Try.func42 rfl Try.ntmps42 rfl ?_ h
  unfold r42
  refine f_seq ?_
  refine f_region ?_
  refine f_op rfl rfl (s_box1 (v := .int .i64 a1) rfl rfl) ?_
  refine f_op rfl rfl (s_box1 (v := .int .i64 a2) rfl rfl) ?_
  refine f_op rfl rfl (s_as (v := .int .i64 0) rfl) ?_
  refine f_op rfl rfl (s_as (v := .int .i64 0) rfl) ?_
  refine o_hp ?_; intro H1 hH1
  refine f_nil ?_
  refine f_seq ?_
  refine f_seq ?_
  refine f_region ?_
  refine f_op rfl rfl (s_mv (v := .sl a0) rfl) ?_
  refine o_bind ?_; intro p2 hp2
  refine f_op rfl rfl (s_callF rfl ok63 (sim63 happ hp2)) ?_
  refine f_op rfl rfl (s_not rfl) ?_
  refine f_op rfl rfl (s_mv (v := .bool (!p2.1)) rfl) ?_
  refine o_if (fun h3 => ?_) (fun h3 => ?_)
  · skip
    refine o_know 13 rfl (bool_notT h3) ?_
    refine o_bind ?_; intro x4 hx4
    refine f_op rfl rfl (s_load Try.underlying3 rfl rfl (ldI_eq hx4)) ?_
    refine o_bind ?_; intro x5 hx5
    refine f_op rfl rfl (s_load Try.underlying3 rfl rfl (ldI_eq hx5)) ?_
    refine f_op rfl rfl (s_buildSlice (cs := [.int .i64 x4, .int .i64 x5]) Try.underlying76 ty3 (by decide) (by decide) rfl (by decide) rfl) ?_
    refine o_bind ?_; intro p6 hp6
    refine f_op rfl rfl (s_callF rfl ok79 (sim79 happ hp6)) ?_
    refine f_op rfl rfl (s_not rfl) ?_
    refine f_op rfl rfl (s_pickF (v := .bool (!p6.1)) rfl rfl) ?_
    refine f_nil ?_
    refine f_keep [0, 4, 5, 19] ?_
    exact s42_j0 happ a0 H.n ((H.push (.cells [.int .i64 a1] false)).n) (!p6.1) p6.2
  · skip
    refine o_know 13 rfl (bool_notF h3) ?_
    refine f_no rfl rfl ?_
    refine f_no rfl rfl ?_
    refine f_no rfl rfl ?_
    refine f_no rfl rfl ?_
    refine f_no rfl rfl ?_
    refine f_op rfl rfl (s_pickT (v := .bool true) rfl rfl) ?_
    refine f_nil ?_
    refine f_keep [0, 4, 5, 19] ?_
    exact s42_j0 happ a0 H.n ((H.push (.cells [.int .i64 a1] false)).n) true p2.2

/- 43 slices.BinarySearchFunc[[][2]int,[2]int,[2]int] -/
theorem ok43 : FnOk Try.prog 43 := ⟨⟨Try.f43, Try.func43, by kernel_rfl, rfl⟩⟩
theorem s43_l0 {app : App} (happ : AppSim Try.prog app) : ∀ (k_ : Nat) (v1 : Sl) (v2 : AV) (v3 : Nat) (v4 : Int) (v5 : Int) (v6 : Int) (H : Hp), Fin Try.prog Try.f43 ret43 49 (todoAt (bodyOf Try.f43) [1, 1, 1, 0, 0, 0] []) [(0, .sl v1), (2, v2), (4, .ptr v3 0), (8, .int .i64 v4), (9, .int .i64 v5), (10, .int .i64 v6)] H (r43_l0 app k_ v1 v2 v3 v4 v5 v6 H) := by
  intro k_
  induction k_ with
  | zero => intro _ _ _ _ _ _ _; exact f_none
  | succ k_ ih =>
    intro v1 v2 v3 v4 v5 v6 H
    rw [r43_l0]
    refine f_seq ?_
    refine f_seq ?_
    refine f_region ?_
    refine f_op rfl rfl (s_mv (v := .int .i64 v5) rfl) ?_
    refine f_op rfl rfl (s_mv (v := .int .i64 v6) rfl) ?_
    refine f_op rfl rfl (s_lss rfl rfl) ?_
    refine f_nil ?_
    refine f_if (fun h1 => ?_) (fun h1 => ?_)
    · skip
      refine f_know 17 rfl (dec_true h1) ?_
      refine f_condT rfl ?_
      refine f_skip ?_
      refine f_block ?_
      refine f_seq ?_
      refine f_region ?_
      refine f_op rfl rfl (s_mv (v := .int .i64 v5) rfl) ?_
      refine f_op rfl rfl (s_mv (v := .int .i64 v6) rfl) ?_
      refine f_op rfl rfl (s_add rfl rfl) ?_
      refine f_op rfl rfl (s_convInt Try.underlying3 Try.underlying67 rfl) ?_
      refine f_op rfl rfl (s_shr rfl rfl (by decide)) ?_
      refine f_op rfl rfl (s_convInt Try.underlying67 Try.underlying3 rfl) ?_
      refine f_op rfl rfl (s_as (v := .int .i64 (w64 (shrOf .u64 (IntKind.wrap .u64 (w64 (v5 + v6))) 1))) rfl) ?_
      refine f_nil ?_
      refine f_seq ?_
      refine f_ck fun g2 => ?_
      refine f_bind ?_; intro x3 hx3
      refine f_bind ?_; intro x4 hx4
      refine f_bind ?_; intro x5 hx5
      refine f_bind ?_; intro x6 hx6
      refine f_bind ?_; intro p7 hp7
      refine f_bind ?_; intro x8 hx8
      refine f_draw (Φ := fun _ => True) (lim := 1000000) [0, 0, 0, 0, 1, 1, 2, 0] (Trc.pure rfl rfl rfl (.inl fun _ => s_mv (v := v2) rfl) (Trc.pure rfl rfl rfl (.inl fun _ => s_mv (v := .sl v1) rfl) (Trc.pure rfl rfl rfl (.inl fun _ => s_mv (v := .int .i64 (w64 (shrOf .u64 (IntKind.wrap .u64 (w64 (v5 + v6))) 1))) rfl) (Trc.pure rfl rfl rfl (.inl fun _ => s_idx Try.underlying37 ty43 rfl rfl g2) (Trc.read rfl rfl rfl (s_loads Try.underlying43 rfl ty43 rfl (lds_cons (ldI_eq hx3) (lds_cons (ldI_eq hx4) (lds_nil)))) (Trc.read rfl rfl rfl (s_loads Try.underlying43 rfl ty43 rfl (lds_cons (ldI_eq hx5) (lds_cons (ldI_eq hx6) (lds_nil)))) (Trc.eff rfl rfl rfl (fun _ => trivial) (s_callv happ rfl rfl hp7) (Trc.know 30 rfl (asI_eq hx8) (Trc.pure rfl rfl rfl (.inl fun _ => s_lss rfl rfl) (Trc.nil (fun _ => trivial))))))))))) rfl (by decide +kernel) mixed ?_
      refine f_if (fun h9 => ?_) (fun h9 => ?_)
      · skip
        refine f_know 31 rfl (dec_true h9) ?_
        refine f_condT rfl ?_
        refine f_region ?_
        refine f_op rfl rfl (s_mv (v := .int .i64 (w64 (shrOf .u64 (IntKind.wrap .u64 (w64 (v5 + v6))) 1))) rfl) ?_
        refine f_op rfl rfl (s_add rfl rfl) ?_
        refine f_op rfl rfl (s_as (v := .int .i64 (w64 ((w64 (shrOf .u64 (IntKind.wrap .u64 (w64 (v5 + v6))) 1)) + 1))) rfl) ?_
        refine f_nil ?_
        refine f_inBlock ?_
        refine f_inLoop ?_
        refine f_keep [0, 2, 4, 8, 9, 10] ?_
        exact ih v1 v2 v3 v4 (w64 ((w64 (shrOf .u64 (IntKind.wrap .u64 (w64 (v5 + v6))) 1)) + 1)) v6 p7.2
      · skip
        refine f_know 31 rfl (dec_false h9) ?_
        refine f_condF rfl ?_
        refine f_region ?_
        refine f_op rfl rfl (s_mv (v := .int .i64 (w64 (shrOf .u64 (IntKind.wrap .u64 (w64 (v5 + v6))) 1))) rfl) ?_
        refine f_op rfl rfl (s_as (v := .int .i64 (w64 (shrOf .u64 (IntKind.wrap .u64 (w64 (v5 + v6))) 1))) rfl) ?_
        refine f_nil ?_
        refine f_inBlock ?_
        refine f_inLoop ?_
        refine f_keep [0, 2, 4, 8, 9, 10] ?_
        exact ih v1 v2 v3 v4 v5 (w64 (shrOf .u64 (IntKind.wrap .u64 (w64 (v5 + v6))) 1)) p7.2
    · skip
      refine f_know 17 rfl (dec_false h1) ?_
      refine f_condF rfl ?_
      refine f_exit rfl ?_
      refine f_seq ?_
      refine f_if (fun h10 => ?_) (fun h10 => ?_)
      · skip
        refine f_ck fun g11 => ?_
        refine f_bind ?_; intro x12 hx12
        refine f_bind ?_; intro x13 hx13
        refine f_bind ?_; intro x14 hx14
        refine f_bind ?_; intro x15 hx15
        refine f_bind ?_; intro p16 hp16
        refine f_bind ?_; intro x17 hx17
        refine f_draw (Φ := fun _ => True) (lim := 1000000) [0, 0, 0, 0, 0, 0, 0, 0, 0, 1, 1, 2, 0, 0, 0, 0] (Trc.pure rfl rfl rfl (.inl fun _ => s_mv (v := .int .i64 v5) rfl) (Trc.pure rfl rfl rfl (.inl fun _ => s_mv (v := .int .i64 v5) rfl) (Trc.pure rfl rfl rfl (.inl fun _ => s_mv (v := .int .i64 v4) rfl) (Trc.pure rfl rfl rfl (.inl fun _ => s_lss rfl rfl) (Trc.pure rfl rfl rfl (.inl fun _ => s_mv (v := .bool (decide (v5 < v4))) rfl) (Trc.know 39 rfl (dec_true h10) (Trc.pure rfl rfl rfl (.inl fun _ => s_mv (v := v2) rfl) (Trc.pure rfl rfl rfl (.inl fun _ => s_mv (v := .sl v1) rfl) (Trc.pure rfl rfl rfl (.inl fun _ => s_mv (v := .int .i64 v5) rfl) (Trc.pure rfl rfl rfl (.inl fun _ => s_idx Try.underlying37 ty43 rfl rfl g11) (Trc.read rfl rfl rfl (s_loads Try.underlying43 rfl ty43 rfl (lds_cons (ldI_eq hx12) (lds_cons (ldI_eq hx13) (lds_nil)))) (Trc.read rfl rfl rfl (s_loads Try.underlying43 rfl ty43 rfl (lds_cons (ldI_eq hx14) (lds_cons (ldI_eq hx15) (lds_nil)))) (Trc.eff rfl rfl rfl (fun _ => trivial) (s_callv happ rfl rfl hp16) (Trc.know 46 rfl (asI_eq hx17) (Trc.pure rfl rfl rfl (.inl fun _ => s_eql rfl rfl) (Trc.pure rfl rfl rfl (.inl fun _ => s_pickT (v := .bool (decide (x17 = 0))) rfl rfl) (Trc.pure rfl rfl rfl (.inl fun _ => s_as (v := .int .i64 v5) rfl) (Trc.pure rfl rfl rfl (.inl fun _ => s_as (v := .bool (decide (x17 = 0))) rfl) (Trc.nil (fun _ => trivial)))))))))))))))))))) rfl (by decide +kernel) mixed ?_
        exact f_ret (.tmp rfl (.tmp rfl (.nil))) rfl
      · skip
        refine f_draw (Φ := fun _ => True) (lim := 1000000) [0, 0, 0, 0, 0, 0, 0, 0, 0, 0, 0, 0, 0, 0, 0, 0] (Trc.pure rfl rfl rfl (.inl fun _ => s_mv (v := .int .i64 v5) rfl) (Trc.pure rfl rfl rfl (.inl fun _ => s_mv (v := .int .i64 v5) rfl) (Trc.pure rfl rfl rfl (.inl fun _ => s_mv (v := .int .i64 v4) rfl) (Trc.pure rfl rfl rfl (.inl fun _ => s_lss rfl rfl) (Trc.pure rfl rfl rfl (.inl fun _ => s_mv (v := .bool (decide (v5 < v4))) rfl) (Trc.know 39 rfl (dec_false h10) (Trc.no rfl rfl rfl (Trc.no rfl rfl rfl (Trc.no rfl rfl rfl (Trc.no rfl rfl rfl (Trc.no rfl rfl rfl (Trc.no rfl rfl rfl (Trc.no rfl rfl rfl (Trc.no rfl rfl rfl (Trc.pure rfl rfl rfl (.inl fun _ => s_pickF (v := .bool false) rfl rfl) (Trc.pure rfl rfl rfl (.inl fun _ => s_as (v := .int .i64 v5) rfl) (Trc.pure rfl rfl rfl (.inl fun _ => s_as (v := .bool false) rfl) (Trc.nil (fun _ => trivial))))))))))))))))))) rfl (by decide +kernel) mixed ?_
        exact f_ret (.tmp rfl (.tmp rfl (.nil))) rfl

theorem sim43 {app : App} (happ : AppSim Try.prog app) {a0 : Sl} {a1_0 : Int} {a1_1 : Int} {a2 : AV} {H : Hp} {p : (Int × Bool) × Hp} (h : r43 app a0 a1_0 a1_1 a2 H = some p) : CallSim Try.prog 43 [.sl a0, .agg [.int .i64 a1_0, .int .i64 a1_1], a2] H (.tup [.int .i64 p.1.1, .bool p.1.2]) p.2 := by
  refine callSim (fn := Try.f43) (ret := ret43) Try.func43 rfl Try.ntmps43 rfl ?_ h
  unfold r43
  refine f_seq ?_
  refine f_region ?_
  refine f_op rfl rfl (s_box (v := .agg [.int .i64 a1_0, .int .i64 a1_1]) rfl rfl) ?_
  refine f_op rfl rfl (s_as (v := .int .i64 0) rfl) ?_
  refine f_op rfl rfl (s_as (v := .bool false) rfl) ?_
  refine o_hp ?_; intro H1 hH1
  refine f_nil ?_
  refine f_seq ?_
  refine f_region ?_
  refine f_op rfl rfl (s_mv (v := .sl a0) rfl) ?_
  refine f_op rfl rfl (s_lenS rfl Try.underlying37 rfl) ?_
  refine f_op rfl rfl (s_as (v := .int .i64 (a0.len : Int)) rfl) ?_
  refine f_nil ?_
  refine f_seq ?_
  refine f_region ?_
  refine f_op rfl rfl (s_mv (v := .int .i64 (a0.len : Int)) rfl) ?_
  refine f_op rfl rfl (s_as (v := .int .i64 0) rfl) ?_
  refine f_op rfl rfl (s_as (v := .int .i64 (a0.len : Int)) rfl) ?_
  refine f_nil ?_
  refine f_seq ?_
  refine f_block ?_
  refine f_loop ?_
  refine f_keep [0, 2, 4, 8, 9, 10] ?_
  exact s43_l0 happ FUEL a0 a2 H.n (a0.len : Int) 0 (a0.len : Int) H1

/- 107 cmp.isNaN[int] -/
theorem ok107 : FnOk Try.prog 107 := ⟨⟨Try.f107, Try.func107, by kernel_rfl, rfl⟩⟩
theorem sim107 {a0 : Int} {H : Hp} {p : Bool × Hp} (h : r107 a0 H = some p) : CallSim Try.prog 107 [.int .i64 a0] H (.bool p.1) p.2 := by
  refine callSim (fn := Try.f107) (ret := ret107) Try.func107 rfl Try.ntmps107 rfl ?_ h
  unfold r107
  refine f_seq ?_
  refine f_region ?_
  refine f_op rfl rfl (s_as (v := .bool false) rfl) ?_
  refine f_nil ?_
  refine f_seq ?_
  refine f_region ?_
  refine f_op rfl rfl (s_mv (v := .int .i64 a0) rfl) ?_
  refine f_op rfl rfl (s_mv (v := .int .i64 a0) rfl) ?_
  refine f_op rfl rfl (s_neq rfl rfl) ?_
  refine f_op rfl rfl (s_as (v := .bool (decide (a0 ≠ a0))) rfl) ?_
  refine f_nil ?_
  exact f_ret (.tmp rfl (.nil)) rfl

/- 84 cmp.Compare[int] -/
theorem ok84 : FnOk Try.prog 84 := ⟨⟨Try.f84, Try.func84, by kernel_rfl, rfl⟩⟩
theorem sim84 {a0 : Int} {a1 : Int} {H : Hp} {p : Int × Hp} (h : r84 a0 a1 H = some p) : CallSim Try.prog 84 [.int .i64 a0, .int .i64 a1] H (.int .i64 p.1) p.2 := by
  refine callSim (fn := Try.f84) (ret := ret84) Try.func84 rfl Try.ntmps84 rfl ?_ h
  unfold r84
  refine f_seq ?_
  refine f_region ?_
  refine f_op rfl rfl (s_as (v := .int .i64 0) rfl) ?_
  refine f_nil ?_
  refine f_seq ?_
  refine f_region ?_
  refine f_op rfl rfl (s_mv (v := .int .i64 a0) rfl) ?_
  refine o_bind ?_; intro p1 hp1
  refine f_op rfl rfl (s_callO rfl ok107 (sim107 hp1) rfl rfl) ?_
  refine f_op rfl rfl (s_as (v := .bool p1.1) rfl) ?_
  refine f_nil ?_
  refine f_seq ?_
  refine f_region ?_
  refine f_op rfl rfl (s_mv (v := .int .i64 a1) rfl) ?_
  refine o_bind ?_; intro p2 hp2
  refine f_op rfl rfl (s_callO rfl ok107 (sim107 hp2) rfl rfl) ?_
  refine f_op rfl rfl (s_as (v := .bool p2.1) rfl) ?_
  refine f_nil ?_
  refine f_seq ?_
  refine f_seq ?_
  refine f_region ?_
  refine f_op rfl rfl (s_mv (v := .bool p1.1) rfl) ?_
  refine f_nil ?_
  refine f_if (fun h3 => ?_) (fun h3 => ?_)
  · skip
    refine f_know 11 rfl (bool_T h3) ?_
    refine f_condT rfl ?_
    refine f_seq ?_
    refine f_seq ?_
    refine f_region ?_
    refine f_op rfl rfl (s_mv (v := .bool p2.1) rfl) ?_
    refine f_nil ?_
    refine f_if (fun h4 => ?_) (fun h4 => ?_)
    · skip
      refine f_know 12 rfl (bool_T h4) ?_
      refine f_condT rfl ?_
      refine f_seq ?_
      refine f_region ?_
      refine f_op rfl rfl (s_as (v := .int .i64 0) rfl) ?_
      refine f_nil ?_
      exact f_ret (.tmp rfl (.nil)) rfl
    · skip
      refine f_know 12 rfl (bool_F h4) ?_
      refine f_condF rfl ?_
      refine f_skip ?_
      refine f_seq ?_
      refine f_region ?_
      refine f_op rfl rfl (s_as (v := .int .i64 (-1)) rfl) ?_
      refine f_nil ?_
      exact f_ret (.tmp rfl (.nil)) rfl
  · skip
    refine f_know 11 rfl (bool_F h3) ?_
    refine f_condF rfl ?_
    refine f_skip ?_
    refine f_seq ?_
    refine f_seq ?_
    refine f_region ?_
    refine f_op rfl rfl (s_mv (v := .bool p2.1) rfl) ?_
    refine f_nil ?_
    refine f_if (fun h5 => ?_) (fun h5 => ?_)
    · skip
      refine f_know 13 rfl (bool_T h5) ?_
      refine f_condT rfl ?_
      refine f_seq ?_
      refine f_region ?_
      refine f_op rfl rfl (s_as (v := .int .i64 1) rfl) ?_
      refine f_nil ?_
      exact f_ret (.tmp rfl (.nil)) rfl
    · skip
      refine f_know 13 rfl (bool_F h5) ?_
      refine f_condF rfl ?_
      refine f_skip ?_
      refine f_seq ?_
      refine f_seq ?_
      refine f_region ?_
      refine f_op rfl rfl (s_mv (v := .int .i64 a0) rfl) ?_
      refine f_op rfl rfl (s_mv (v := .int .i64 a1) rfl) ?_
      refine f_op rfl rfl (s_lss rfl rfl) ?_
      refine f_nil ?_
      refine f_if (fun h6 => ?_) (fun h6 => ?_)
      · skip
        refine f_know 16 rfl (dec_true h6) ?_
        refine f_condT rfl ?_
        refine f_seq ?_
        refine f_region ?_
        refine f_op rfl rfl (s_as (v := .int .i64 (-1)) rfl) ?_
        refine f_nil ?_
        exact f_ret (.tmp rfl (.nil)) rfl
      · skip
        refine f_know 16 rfl (dec_false h6) ?_
        refine f_condF rfl ?_
        refine f_skip ?_
        refine f_seq ?_
        refine f_seq ?_
        refine f_region ?_
        refine f_op rfl rfl (s_mv (v := .int .i64 a0) rfl) ?_
        refine f_op rfl rfl (s_mv (v := .int .i64 a1) rfl) ?_
        refine f_op rfl rfl (s_gtr rfl rfl) ?_
        refine f_nil ?_
        refine f_if (fun h7 => ?_) (fun h7 => ?_)
        · skip
          refine f_know 19 rfl (dec_true h7) ?_
          refine f_condT rfl ?_
          refine f_seq ?_
          refine f_region ?_
          refine f_op rfl rfl (s_as (v := .int .i64 1) rfl) ?_
          refine f_nil ?_
          exact f_ret (.tmp rfl (.nil)) rfl
        · skip
          refine f_know 19 rfl (dec_false h7) ?_
          refine f_condF rfl ?_
          refine f_skip ?_
          refine f_seq ?_
          refine f_region ?_
          refine f_op rfl rfl (s_as (v := .int .i64 0) rfl) ?_
          refine f_nil ?_
          exact f_ret (.tmp rfl (.nil)) rfl

/- 45 slices.Compare[[]int,int] -/
theorem ok45 : FnOk Try.prog 45 := ⟨⟨Try.f45, Try.func45, by kernel_rfl, rfl⟩⟩
theorem s45_l0 : ∀ (k_ : Nat) (v1 : Sl) (v2 : Sl) (v3 : Sl) (v4 : Int) (v5 : Int) (H : Hp), Fin Try.prog Try.f45 ret45 36 (todoAt (bodyOf Try.f45) [1, 0, 1, 0, 0] []) [(0, .sl v1), (1, .sl v2), (9, .sl v3), (10, .int .i64 v4), (11, .int .i64 v5)] H (r45_l0 k_ v1 v2 v3 v4 v5 H) := by
  intro k_
  induction k_ with
  | zero => intro _ _ _ _ _ _; exact f_none
  | succ k_ ih =>
    intro v1 v2 v3 v4 v5 H
    rw [r45_l0]
    refine f_seq ?_
    refine f_region ?_
    refine f_op rfl rfl (s_lss rfl rfl) ?_
    refine f_nil ?_
    refine f_seq ?_
    refine f_if (fun h1 => ?_) (fun h1 => ?_)
    · skip
      refine f_know 12 rfl (dec_true h1) ?_
      refine f_condT rfl ?_
      refine f_skip ?_
      refine f_seq ?_
      refine f_block ?_
      refine f_seq ?_
      refine f_region ?_
      refine f_op rfl rfl (s_mv (v := .int .i64 v5) rfl) ?_
      refine o_ck fun g2 => ?_
      refine f_op rfl rfl (s_idx Try.underlying76 ty3 rfl rfl g2) ?_
      refine o_bind ?_; intro x3 hx3
      refine f_op rfl rfl (s_load Try.underlying3 rfl rfl (ldI_eq hx3)) ?_
      refine f_op rfl rfl (s_as (v := .int .i64 v5) rfl) ?_
      refine f_op rfl rfl (s_as (v := .int .i64 x3) rfl) ?_
      refine f_nil ?_
      refine f_seq ?_
      refine f_seq ?_
      refine f_region ?_
      refine f_op rfl rfl (s_mv (v := .int .i64 v5) rfl) ?_
      refine f_op rfl rfl (s_mv (v := .sl v2) rfl) ?_
      refine f_op rfl rfl (s_lenS rfl Try.underlying76 rfl) ?_
      refine f_op rfl rfl (s_geq rfl rfl) ?_
      refine f_nil ?_
      refine f_if (fun h4 => ?_) (fun h4 => ?_)
      · skip
        refine f_know 19 rfl (dec_true h4) ?_
        refine f_condT rfl ?_
        refine f_seq ?_
        refine f_region ?_
        refine f_op rfl rfl (s_as (v := .int .i64 1) rfl) ?_
        refine f_nil ?_
        exact f_ret (.tmp rfl (.nil)) rfl
      · skip
        refine f_know 19 rfl (dec_false h4) ?_
        refine f_condF rfl ?_
        refine f_skip ?_
        refine f_seq ?_
        refine f_region ?_
        refine f_op rfl rfl (s_mv (v := .sl v2) rfl) ?_
        refine f_op rfl rfl (s_mv (v := .int .i64 v5) rfl) ?_
        refine o_ck fun g5 => ?_
        refine f_op rfl rfl (s_idx Try.underlying76 ty3 rfl rfl g5) ?_
        refine o_bind ?_; intro x6 hx6
        refine f_op rfl rfl (s_load Try.underlying3 rfl rfl (ldI_eq hx6)) ?_
        refine f_op rfl rfl (s_as (v := .int .i64 x6) rfl) ?_
        refine f_nil ?_
        refine f_seq ?_
        refine f_region ?_
        refine f_op rfl rfl (s_mv (v := .int .i64 x3) rfl) ?_
        refine f_op rfl rfl (s_mv (v := .int .i64 x6) rfl) ?_
        refine o_bind ?_; intro p7 hp7
        refine f_op rfl rfl (s_callO rfl ok84 (sim84 hp7) rfl rfl) ?_
        refine f_op rfl rfl (s_as (v := .int .i64 p7.1) rfl) ?_
        refine f_nil ?_
        refine f_seq ?_
        refine f_region ?_
        refine f_op rfl rfl (s_mv (v := .int .i64 p7.1) rfl) ?_
        refine f_op rfl rfl (s_neq rfl rfl) ?_
        refine f_nil ?_
        refine f_if (fun h8 => ?_) (fun h8 => ?_)
        · skip
          refine f_know 28 rfl (dec_true h8) ?_
          refine f_condT rfl ?_
          refine f_seq ?_
          refine f_region ?_
          refine f_op rfl rfl (s_mv (v := .int .i64 p7.1) rfl) ?_
          refine f_op rfl rfl (s_as (v := .int .i64 p7.1) rfl) ?_
          refine f_nil ?_
          exact f_ret (.tmp rfl (.nil)) rfl
        · skip
          refine f_know 28 rfl (dec_false h8) ?_
          refine f_condF rfl ?_
          refine f_skip ?_
          refine f_inBlock ?_
          refine f_region ?_
          refine f_op rfl rfl (s_add rfl rfl) ?_
          refine f_op rfl rfl (s_mv (v := .int .i64 (w64 (v5 + 1))) rfl) ?_
          refine f_nil ?_
          refine f_inLoop ?_
          refine f_keep [0, 1, 9, 10, 11] ?_
          exact ih v1 v2 v3 v4 (w64 (v5 + 1)) H
    · skip
      refine f_know 12 rfl (dec_false h1) ?_
      refine f_condF rfl ?_
      refine f_exit rfl ?_
      refine f_seq ?_
      refine f_seq ?_
      refine f_region ?_
      refine f_op rfl rfl (s_mv (v := .sl v1) rfl) ?_
      refine f_op rfl rfl (s_lenS rfl Try.underlying76 rfl) ?_
      refine f_op rfl rfl (s_mv (v := .sl v2) rfl) ?_
      refine f_op rfl rfl (s_lenS rfl Try.underlying76 rfl) ?_
      refine f_op rfl rfl (s_lss rfl rfl) ?_
      refine f_nil ?_
      refine f_if (fun h9 => ?_) (fun h9 => ?_)
      · skip
        refine f_know 35 rfl (dec_true h9) ?_
        refine f_condT rfl ?_
        refine f_seq ?_
        refine f_region ?_
        refine f_op rfl rfl (s_as (v := .int .i64 (-1)) rfl) ?_
        refine f_nil ?_
        exact f_ret (.tmp rfl (.nil)) rfl
      · skip
        refine f_know 35 rfl (dec_false h9) ?_
        refine f_condF rfl ?_
        refine f_skip ?_
        refine f_seq ?_
        refine f_region ?_
        refine f_op rfl rfl (s_as (v := .int .i64 0) rfl) ?_
        refine f_nil ?_
        exact f_ret (.tmp rfl (.nil)) rfl

theorem sim45 {a0 : Sl} {a1 : Sl} {H : Hp} {p : Int × Hp} (h : r45 a0 a1 H = some p) : CallSim Try.prog 45 [.sl a0, .sl a1] H (.int .i64 p.1) p.2 := by
  refine callSim (fn := Try.f45) (ret := ret45) Try.func45 rfl Try.ntmps45 rfl ?_ h
  unfold r45
  refine f_seq ?_
  refine f_region ?_
  refine f_op rfl rfl (s_as (v := .int .i64 0) rfl) ?_
  refine f_nil ?_
  refine f_seq ?_
  refine f_seq ?_
  refine f_region ?_
  refine f_op rfl rfl (s_mv (v := .sl a0) rfl) ?_
  refine f_op rfl rfl (s_lenS rfl Try.underlying76 rfl) ?_
  refine f_op rfl rfl (s_mv (v := .int .i64 0) rfl) ?_
  refine f_nil ?_
  refine f_block ?_
  refine f_loop ?_
  refine f_keep [0, 1, 9, 10, 11] ?_
  exact s45_l0 FUEL a0 a1 a0 (a0.len : Int) 0 H

/- 44 congou/congoulaw02.CutsWithin$1 -/
theorem ok44 : FnOk Try.prog 44 := ⟨⟨Try.f44, Try.func44, by kernel_rfl, rfl⟩⟩
theorem sim44 {a0_0 : Int} {a0_1 : Int} {a1_0 : Int} {a1_1 : Int} {H : Hp} {p : Int × Hp} (h : r44 a0_0 a0_1 a1_0 a1_1 H = some p) : CallSim Try.prog 44 [.agg [.int .i64 a0_0, .int .i64 a0_1], .agg [.int .i64 a1_0, .int .i64 a1_1]] H (.int .i64 p.1) p.2 := by
  refine callSim (fn := Try.f44) (ret := ret44) Try.func44 rfl Try.ntmps44 rfl ?_ h
  unfold r44
  refine f_seq ?_
  refine f_region ?_
  refine f_op rfl rfl (s_box (v := .agg [.int .i64 a0_0, .int .i64 a0_1]) rfl rfl) ?_
  refine f_op rfl rfl (s_box (v := .agg [.int .i64 a1_0, .int .i64 a1_1]) rfl rfl) ?_
  refine f_op rfl rfl (s_as (v := .int .i64 0) rfl) ?_
  refine o_hp ?_; intro H1 hH1
  refine f_nil ?_
  refine f_seq ?_
  refine f_bind ?_; intro p2 hp2
  refine f_draw (Φ := fun _ => True) (lim := 1000000) [0, 0, 2, 0] (Trc.pure rfl rfl rfl (.inl fun _ => s_sliceA Try.underlying43 ty3 rfl rfl rfl (by decide)) (Trc.pure rfl rfl rfl (.inl fun _ => s_sliceA Try.underlying43 ty3 rfl rfl rfl (by decide)) (Trc.eff rfl rfl rfl (fun _ => trivial) (s_callF rfl ok45 (sim45 hp2)) (Trc.pure rfl rfl rfl (.inl fun _ => s_as (v := .int .i64 p2.1) rfl) (Trc.nil (fun _ => trivial)))))) rfl (by decide +kernel) mixed ?_
  exact f_ret (.tmp rfl (.nil)) rfl

end Go.Lt.P2
