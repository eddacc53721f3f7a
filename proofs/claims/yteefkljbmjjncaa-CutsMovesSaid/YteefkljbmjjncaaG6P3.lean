/- PRINTED BY A PROGRAM OF OURS: what each function that 'CutsMoves' reaches computes on the abstract heap, and that the translated code does just that. Nothing is asked of the input. -/
import Derived.Test.YteefkljbmjjncaaG6P2
set_option linter.unusedVariables false
set_option linter.unusedSimpArgs false
set_option maxRecDepth 100000
set_option maxHeartbeats 4000000
namespace Go.Lt.P2
open Go Go.Lt Go.Proofs
/- 38 congou/congouref02.Apart -/
theorem ok38 : FnOk Try.prog 38 := ⟨⟨Try.f38, Try.func38, by kernel_rfl, rfl⟩⟩
theorem s38_l0 : ∀ (k_ : Nat) (v1 : Nat) (v2 : Nat) (v3 : Sl) (v4 : Int) (v5 : Int) (H : Hp), Fin Try.prog Try.f38 ret38 24 (todoAt (bodyOf Try.f38) [1, 0, 1, 0, 0] []) [(3, .ptr v1 0), (4, .ptr v2 0), (8, .sl v3), (9, .int .i64 v4), (10, .int .i64 v5)] H (r38_l0 k_ v1 v2 v3 v4 v5 H) := by
  intro k_
  induction k_ with
  | zero => intro _ _ _ _ _ _; exact f_none
  | succ k_ ih =>
    intro v1 v2 v3 v4 v5 H
    rw [r38_l0]
    refine f_seq ?_
    refine f_region ?_
    refine f_op rfl rfl (s_lss rfl rfl) ?_
    refine f_nil ?_
    refine f_seq ?_
    refine f_if (fun h1 => ?_) (fun h1 => ?_)
    · skip
      refine f_know 11 rfl (dec_true h1) ?_
      refine f_condT rfl ?_
      refine f_skip ?_
      refine f_seq ?_
      refine f_block ?_
      refine f_seq ?_
      refine f_region ?_
      refine o_ck fun g2 => ?_
      refine f_op rfl rfl (s_idx Try.underlying22 ty46 rfl rfl g2) ?_
      refine o_bind ?_; intro x3 hx3
      refine o_bind ?_; intro x4 hx4
      refine o_bind ?_; intro x5 hx5
      refine f_op rfl rfl (s_loads Try.underlying46 rfl ty46 rfl (lds_cons (ldI_eq hx3) (lds_cons (ldI_eq hx4) (lds_cons (ldI_eq hx5) (lds_nil))))) ?_
      refine f_op rfl rfl (s_alloc (zs := [.int .i64 0, .int .i64 0, .int .i64 0]) ty46 rfl rfl) ?_
      refine o_bind ?_; intro H6 hH6
      refine f_op rfl rfl (s_stores ty46 rfl rfl rfl rfl hH6 (Nat.le_of_eq (sts_mono hH6).symm)) ?_
      refine f_nil ?_
      refine f_seq ?_
      refine f_region ?_
      refine o_bind ?_; intro x7 hx7
      refine o_bind ?_; intro x8 hx8
      refine o_bind ?_; intro x9 hx9
      refine f_op rfl rfl (s_loads Try.underlying46 rfl ty46 rfl (lds_cons (ldI_eq hx7) (lds_cons (ldI_eq hx8) (lds_cons (ldI_eq hx9) (lds_nil))))) ?_
      refine f_op rfl rfl (s_idxA Try.underlying43 ty3 rfl rfl (by decide)) ?_
      refine o_bind ?_; intro x10 hx10
      refine f_op rfl rfl (s_load Try.underlying3 rfl rfl (ldI_eq hx10)) ?_
      refine f_op rfl rfl (s_idxA Try.underlying43 ty3 rfl rfl (by decide)) ?_
      refine o_bind ?_; intro x11 hx11
      refine f_op rfl rfl (s_load Try.underlying3 rfl rfl (ldI_eq hx11)) ?_
      refine o_bind ?_; intro p12 hp12
      refine f_op rfl rfl (s_callO rfl ok75 (sim75 hp12) rfl rfl) ?_
      refine f_op rfl rfl (s_not rfl) ?_
      refine f_nil ?_
      refine f_if (fun h13 => ?_) (fun h13 => ?_)
      · skip
        refine f_know 20 rfl (bool_notT h13) ?_
        refine f_condF rfl ?_
        refine f_skip ?_
        refine f_inBlock ?_
        refine f_region ?_
        refine f_op rfl rfl (s_add rfl rfl) ?_
        refine f_op rfl rfl (s_mv (v := .int .i64 (w64 (v5 + 1))) rfl) ?_
        refine f_nil ?_
        refine f_inLoop ?_
        refine f_keep [3, 4, 8, 9, 10] ?_
        exact ih v1 v2 v3 v4 (w64 (v5 + 1)) H6
      · skip
        refine f_know 20 rfl (bool_notF h13) ?_
        refine f_condT rfl ?_
        refine f_seq ?_
        refine f_region ?_
        refine o_bind ?_; intro x14 hx14
        refine o_bind ?_; intro x15 hx15
        refine o_bind ?_; intro x16 hx16
        refine f_op rfl rfl (s_loads Try.underlying46 rfl ty46 rfl (lds_cons (ldI_eq hx14) (lds_cons (ldI_eq hx15) (lds_cons (ldI_eq hx16) (lds_nil))))) ?_
        refine o_bind ?_; intro H17 hH17
        refine f_op rfl rfl (s_stores ty46 rfl rfl rfl rfl hH17 (Nat.le_of_eq (sts_mono hH17).symm)) ?_
        refine f_op rfl rfl (s_as (v := .int .i64 0) rfl) ?_
        refine f_nil ?_
        refine f_bind ?_; intro x18 hx18
        refine f_bind ?_; intro x19 hx19
        refine f_bind ?_; intro x20 hx20
        exact f_ret (.cells Try.underlying46 rfl sz46 rfl (lds_cons (ldI_eq hx18) (lds_cons (ldI_eq hx19) (lds_cons (ldI_eq hx20) (lds_nil)))) (.tmp rfl (.nil))) rfl
    · skip
      refine f_know 11 rfl (dec_false h1) ?_
      refine f_condF rfl ?_
      refine f_exit rfl ?_
      refine f_seq ?_
      refine f_region ?_
      refine f_op rfl rfl (s_build (cs := [.int .i64 0, .int .i64 0, .int .i64 0]) Try.underlying46 ty46 rfl pl46 rfl) ?_
      refine o_bind ?_; intro H21 hH21
      refine f_op rfl rfl (s_stores ty46 rfl rfl rfl rfl hH21 (Nat.le_of_eq (sts_mono hH21).symm)) ?_
      refine f_op rfl rfl (s_as (v := .int .i64 4) rfl) ?_
      refine f_nil ?_
      refine f_bind ?_; intro x22 hx22
      refine f_bind ?_; intro x23 hx23
      refine f_bind ?_; intro x24 hx24
      exact f_ret (.cells Try.underlying46 rfl sz46 rfl (lds_cons (ldI_eq hx22) (lds_cons (ldI_eq hx23) (lds_cons (ldI_eq hx24) (lds_nil)))) (.tmp rfl (.nil))) rfl

theorem sim38 {a0 : Sl} {a1_0 : Int} {a1_1 : Int} {H : Hp} {p : (Int × Int × Int × Int) × Hp} (h : r38 a0 a1_0 a1_1 H = some p) : CallSim Try.prog 38 [.sl a0, .agg [.int .i64 a1_0, .int .i64 a1_1]] H (.tup [.agg [.int .i64 p.1.1, .int .i64 p.1.2.1, .int .i64 p.1.2.2.1], .int .i64 p.1.2.2.2]) p.2 := by
  refine callSim (fn := Try.f38) (ret := ret38) Try.func38 rfl Try.ntmps38 rfl ?_ h
  unfold r38
  refine f_seq ?_
  refine f_region ?_
  refine f_op rfl rfl (s_box (v := .agg [.int .i64 a1_0, .int .i64 a1_1]) rfl rfl) ?_
  refine f_op rfl rfl (s_alloc (zs := [.int .i64 0, .int .i64 0, .int .i64 0]) ty46 rfl rfl) ?_
  refine f_op rfl rfl (s_as (v := .int .i64 0) rfl) ?_
  refine o_hp ?_; intro H1 hH1
  refine f_nil ?_
  refine f_seq ?_
  refine f_seq ?_
  refine f_region ?_
  refine f_op rfl rfl (s_mv (v := .sl a0) rfl) ?_
  refine f_op rfl rfl (s_lenS rfl Try.underlying22 rfl) ?_
  refine f_op rfl rfl (s_mv (v := .int .i64 0) rfl) ?_
  refine f_nil ?_
  refine f_block ?_
  refine f_loop ?_
  refine f_keep [3, 4, 8, 9, 10] ?_
  exact s38_l0 FUEL H.n ((H.push (.cells [.int .i64 a1_0, .int .i64 a1_1] false)).n) a0 (a0.len : Int) 0 H1

/- 39 congou/congouref02.Move -/
theorem ok39 : FnOk Try.prog 39 := ⟨⟨Try.f39, Try.func39, by kernel_rfl, rfl⟩⟩
theorem s39_j1 (kt0 : Int → Int → Sl → Sl → Int → Int → Hp → Option ((Sl × Int) × Hp)) (hkt0 : ∀ (v1 : Int) (v2 : Int) (v3 : Sl) (v4 : Sl) (v5 : Int) (v6 : Int) (H : Hp), Fin Try.prog Try.f39 ret39 44 (todoAt (bodyOf Try.f39) [1, 1, 0, 1, 0, 0] []) [(1, .int .i64 v1), (2, .int .i64 v2), (8, .sl v3), (11, .sl v4), (12, .int .i64 v5), (13, .int .i64 v6)] H (kt0 v1 v2 v3 v4 v5 v6 H)) (v1 : Int) (v2 : Int) (v3 : Sl) (v4 : Nat) (v5 : Sl) (v6 : Int) (v7 : Int) (v8 : Bool) (H : Hp) : Fin Try.prog Try.f39 ret39 44 (todoAt (bodyOf Try.f39) [1, 1, 0, 1, 0, 0, 1, 1, 0, 0, 1, 1, 0, 1] []) [(1, .int .i64 v1), (2, .int .i64 v2), (8, .sl v3), (10, .ptr v4 0), (11, .sl v5), (12, .int .i64 v6), (13, .int .i64 v7), (37, .bool v8)] H (r39_j1 kt0 v1 v2 v3 v4 v5 v6 v7 v8 H) := by
  unfold r39_j1
  refine f_if (fun h1 => ?_) (fun h1 => ?_)
  · skip
    refine f_know 37 rfl (bool_T h1) ?_
    refine f_condT rfl ?_
    refine f_seq ?_
    refine f_region ?_
    refine f_op rfl rfl (s_as (v := .sl ⟨true, 0, 0, 0, 0, 0⟩) rfl) ?_
    refine f_op rfl rfl (s_as (v := .int .i64 4) rfl) ?_
    refine f_nil ?_
    exact f_ret (.tmp rfl (.tmp rfl (.nil))) rfl
  · skip
    refine f_know 37 rfl (bool_F h1) ?_
    refine f_condF rfl ?_
    refine f_skip ?_
    refine f_region ?_
    refine f_op rfl rfl (s_mv (v := .sl v3) rfl) ?_
    refine o_bind ?_; intro x2 hx2
    refine o_bind ?_; intro x3 hx3
    refine o_bind ?_; intro x4 hx4
    refine f_op rfl rfl (s_loads Try.underlying46 rfl ty46 rfl (lds_cons (ldI_eq hx2) (lds_cons (ldI_eq hx3) (lds_cons (ldI_eq hx4) (lds_nil))))) ?_
    refine f_op rfl rfl (s_buildSlice (cs := [.int .i64 x2, .int .i64 x3, .int .i64 x4]) Try.underlying22 ty46 (by decide) (by decide) rfl (by decide) rfl) ?_
    refine o_bind ?_; intro x5 hx5
    refine f_op rfl rfl (s_ap rfl rfl Try.underlying22 Try.underlying22 ty46 rfl rfl rfl rfl rfl rfl rfl hx5) ?_
    refine f_op rfl rfl (s_as (v := .sl x5.1) rfl) ?_
    refine f_nil ?_
    refine f_inBlock ?_
    refine f_region ?_
    refine f_op rfl rfl (s_add rfl rfl) ?_
    refine f_op rfl rfl (s_mv (v := .int .i64 (w64 (v7 + 1))) rfl) ?_
    refine f_nil ?_
    refine f_inLoop ?_
    refine f_keep [1, 2, 8, 11, 12, 13] ?_
    exact hkt0 v1 v2 x5.1 v5 v6 (w64 (v7 + 1)) x5.2

theorem s39_l0 : ∀ (k_ : Nat) (v1 : Int) (v2 : Int) (v3 : Sl) (v4 : Sl) (v5 : Int) (v6 : Int) (H : Hp), Fin Try.prog Try.f39 ret39 44 (todoAt (bodyOf Try.f39) [1, 1, 0, 1, 0, 0] []) [(1, .int .i64 v1), (2, .int .i64 v2), (8, .sl v3), (11, .sl v4), (12, .int .i64 v5), (13, .int .i64 v6)] H (r39_l0 k_ v1 v2 v3 v4 v5 v6 H) := by
  intro k_
  induction k_ with
  | zero => intro _ _ _ _ _ _ _; exact f_none
  | succ k_ ih =>
    intro v1 v2 v3 v4 v5 v6 H
    rw [r39_l0]
    refine f_seq ?_
    refine f_region ?_
    refine f_op rfl rfl (s_lss rfl rfl) ?_
    refine f_nil ?_
    refine f_seq ?_
    refine f_if (fun h1 => ?_) (fun h1 => ?_)
    · skip
      refine f_know 14 rfl (dec_true h1) ?_
      refine f_condT rfl ?_
      refine f_skip ?_
      refine f_seq ?_
      refine f_block ?_
      refine f_seq ?_
      refine f_region ?_
      refine o_ck fun g2 => ?_
      refine f_op rfl rfl (s_idx Try.underlying22 ty46 rfl rfl g2) ?_
      refine o_bind ?_; intro x3 hx3
      refine o_bind ?_; intro x4 hx4
      refine o_bind ?_; intro x5 hx5
      refine f_op rfl rfl (s_loads Try.underlying46 rfl ty46 rfl (lds_cons (ldI_eq hx3) (lds_cons (ldI_eq hx4) (lds_cons (ldI_eq hx5) (lds_nil))))) ?_
      refine f_op rfl rfl (s_alloc (zs := [.int .i64 0, .int .i64 0, .int .i64 0]) ty46 rfl rfl) ?_
      refine o_bind ?_; intro H6 hH6
      refine f_op rfl rfl (s_stores ty46 rfl rfl rfl rfl hH6 (Nat.le_of_eq (sts_mono hH6).symm)) ?_
      refine f_nil ?_
      refine f_seq ?_
      refine f_region ?_
      refine f_op rfl rfl (s_fieldAddr Try.underlying46 rfl ty3 rfl) ?_
      refine o_bind ?_; intro x7 hx7
      refine f_op rfl rfl (s_load Try.underlying3 rfl rfl (ldI_eq hx7)) ?_
      refine f_op rfl rfl (s_fieldAddr Try.underlying46 rfl ty3 rfl) ?_
      refine o_bind ?_; intro x8 hx8
      refine f_op rfl rfl (s_load Try.underlying3 rfl rfl (ldI_eq hx8)) ?_
      refine f_op rfl rfl (s_mv (v := .int .i64 v1) rfl) ?_
      refine f_op rfl rfl (s_mul rfl rfl) ?_
      refine f_op rfl rfl (s_fieldAddr Try.underlying46 rfl ty3 rfl) ?_
      refine o_bind ?_; intro x9 hx9
      refine f_op rfl rfl (s_load Try.underlying3 rfl rfl (ldI_eq hx9)) ?_
      refine f_op rfl rfl (s_mv (v := .int .i64 v2) rfl) ?_
      refine f_op rfl rfl (s_mul rfl rfl) ?_
      refine f_op rfl rfl (s_add rfl rfl) ?_
      refine f_op rfl rfl (s_add rfl rfl) ?_
      refine f_op rfl rfl (s_fieldAddr Try.underlying46 rfl ty3 rfl) ?_
      refine o_bind ?_; intro H10 hH10
      refine f_op rfl rfl (s_store (s := 1) ty3 rfl rfl rfl hH10) ?_
      refine f_nil ?_
      refine f_seq ?_
      refine f_seq ?_
      refine f_region ?_
      refine f_op rfl rfl (s_fieldAddr Try.underlying46 rfl ty3 rfl) ?_
      refine o_bind ?_; intro x11 hx11
      refine f_op rfl rfl (s_load Try.underlying3 rfl rfl (ldI_eq hx11)) ?_
      refine f_op rfl rfl (s_lss rfl rfl) ?_
      refine f_op rfl rfl (s_mv (v := .bool (decide (x11 < (-40)))) rfl) ?_
      refine o_if (fun h12 => ?_) (fun h12 => ?_)
      · skip
        refine o_know 33 rfl (dec_true h12) ?_
        refine f_no rfl rfl ?_
        refine f_no rfl rfl ?_
        refine f_no rfl rfl ?_
        refine f_op rfl rfl (s_pickT (v := .bool true) rfl rfl) ?_
        refine f_nil ?_
        refine f_keep [1, 2, 8, 10, 11, 12, 13, 37] ?_
        exact s39_j1 _ (fun v1_ v2_ v3_ v4_ v5_ v6_ H_ => ih v1_ v2_ v3_ v4_ v5_ v6_ H_) v1 v2 v3 H.n v4 v5 v6 true H10
      · skip
        refine o_know 33 rfl (dec_false h12) ?_
        refine f_op rfl rfl (s_fieldAddr Try.underlying46 rfl ty3 rfl) ?_
        refine o_bind ?_; intro x13 hx13
        refine f_op rfl rfl (s_load Try.underlying3 rfl rfl (ldI_eq hx13)) ?_
        refine f_op rfl rfl (s_gtr rfl rfl) ?_
        refine f_op rfl rfl (s_pickF (v := .bool (decide (40 < x13))) rfl rfl) ?_
        refine f_nil ?_
        refine f_keep [1, 2, 8, 10, 11, 12, 13, 37] ?_
        exact s39_j1 _ (fun v1_ v2_ v3_ v4_ v5_ v6_ H_ => ih v1_ v2_ v3_ v4_ v5_ v6_ H_) v1 v2 v3 H.n v4 v5 v6 (decide (40 < x13)) H10
    · skip
      refine f_know 14 rfl (dec_false h1) ?_
      refine f_condF rfl ?_
      refine f_exit rfl ?_
      refine f_seq ?_
      refine f_region ?_
      refine f_op rfl rfl (s_mv (v := .sl v3) rfl) ?_
      refine f_op rfl rfl (s_as (v := .sl v3) rfl) ?_
      refine f_op rfl rfl (s_as (v := .int .i64 0) rfl) ?_
      refine f_nil ?_
      exact f_ret (.tmp rfl (.tmp rfl (.nil))) rfl

theorem sim39 {a0 : Sl} {a1 : Int} {a2 : Int} {H : Hp} {p : (Sl × Int) × Hp} (h : r39 a0 a1 a2 H = some p) : CallSim Try.prog 39 [.sl a0, .int .i64 a1, .int .i64 a2] H (.tup [.sl p.1.1, .int .i64 p.1.2]) p.2 := by
  refine callSim (fn := Try.f39) (ret := ret39) Try.func39 rfl Try.ntmps39 rfl ?_ h
  unfold r39
  refine f_seq ?_
  refine f_region ?_
  refine f_op rfl rfl (s_as (v := .sl ⟨true, 0, 0, 0, 0, 0⟩) rfl) ?_
  refine f_op rfl rfl (s_as (v := .int .i64 0) rfl) ?_
  refine f_nil ?_
  refine f_seq ?_
  refine f_region ?_
  refine f_op rfl rfl (s_as (v := .sl ⟨true, 0, 0, 0, 0, 0⟩) rfl) ?_
  refine f_nil ?_
  refine f_seq ?_
  refine f_seq ?_
  refine f_region ?_
  refine f_op rfl rfl (s_mv (v := .sl a0) rfl) ?_
  refine f_op rfl rfl (s_lenS rfl Try.underlying22 rfl) ?_
  refine f_op rfl rfl (s_mv (v := .int .i64 0) rfl) ?_
  refine f_nil ?_
  refine f_block ?_
  refine f_loop ?_
  refine f_keep [1, 2, 8, 11, 12, 13] ?_
  exact s39_l0 FUEL a1 a2 ⟨true, 0, 0, 0, 0, 0⟩ a0 (a0.len : Int) 0 H

/- 6 congou/congoulaw02.CutsMoves -/
theorem ok6 : FnOk Try.prog 6 := ⟨⟨Try.f6, Try.func6, by kernel_rfl, rfl⟩⟩
theorem s6_j1 {app : App} (happ : AppSim Try.prog app) (v1 : Sl) (v2 : Int) (v3 : Int) (v4 : Sl) (v5 : Int) (v6 : Bool) (H : Hp) : Fin Try.prog Try.f6 ret6 165 (todoAt (bodyOf Try.f6) [1, 1, 1, 1, 1, 1, 1, 0, 1] []) [(0, .sl v1), (2, .int .i64 v2), (3, .int .i64 v3), (11, .sl v4), (12, .int .i64 v5), (141, .bool v6)] H (r6_j1 app v1 v2 v3 v4 v5 v6 H) := by
  unfold r6_j1
  refine f_if (fun h1 => ?_) (fun h1 => ?_)
  · skip
    refine f_know 141 rfl (bool_T h1) ?_
    refine f_condT rfl ?_
    refine f_seq ?_
    refine f_region ?_
    refine f_op rfl rfl (s_mv (v := .sl v4) rfl) ?_
    refine f_op rfl rfl (s_lenS rfl Try.underlying30 rfl) ?_
    refine f_op rfl rfl (s_eql rfl rfl) ?_
    refine f_op rfl rfl (s_mv (v := .bool (decide ((v4.len : Int) = 0))) rfl) ?_
    refine o_if (fun h2 => ?_) (fun h2 => ?_)
    · skip
      refine o_know 145 rfl (dec_true h2) ?_
      refine f_op rfl rfl (s_mv (v := .int .i64 v5) rfl) ?_
      refine f_op rfl rfl (s_eql rfl rfl) ?_
      refine f_op rfl rfl (s_pickT (v := .bool (decide (v5 = 2))) rfl rfl) ?_
      refine f_op rfl rfl (s_as (v := .bool (decide (v5 = 2))) rfl) ?_
      refine f_nil ?_
      exact f_ret (.tmp rfl (.nil)) rfl
    · skip
      refine o_know 145 rfl (dec_false h2) ?_
      refine f_no rfl rfl ?_
      refine f_no rfl rfl ?_
      refine f_op rfl rfl (s_pickF (v := .bool false) rfl rfl) ?_
      refine f_op rfl rfl (s_as (v := .bool false) rfl) ?_
      refine f_nil ?_
      exact f_ret (.tmp rfl (.nil)) rfl
  · skip
    refine f_know 141 rfl (bool_F h1) ?_
    refine f_condF rfl ?_
    refine f_skip ?_
    refine f_seq ?_
    refine f_region ?_
    refine f_op rfl rfl (s_mv (v := .sl v1) rfl) ?_
    refine f_op rfl rfl (s_mv (v := .int .i64 v2) rfl) ?_
    refine f_op rfl rfl (s_mv (v := .int .i64 v3) rfl) ?_
    refine o_bind ?_; intro p3 hp3
    refine f_op rfl rfl (s_callF rfl ok39 (sim39 hp3)) ?_
    refine f_op rfl rfl (s_mv (v := .tup [.sl p3.1.1, .int .i64 p3.1.2]) rfl) ?_
    refine f_op rfl rfl (s_extract (r := .sl p3.1.1) rfl rfl) ?_
    refine f_op rfl rfl (s_extract (r := .int .i64 p3.1.2) rfl rfl) ?_
    refine f_op rfl rfl (s_as (v := .sl p3.1.1) rfl) ?_
    refine f_op rfl rfl (s_as (v := .int .i64 p3.1.2) rfl) ?_
    refine f_nil ?_
    refine f_seq ?_
    refine f_region ?_
    refine f_op rfl rfl (s_mv (v := .sl v4) rfl) ?_
    refine o_bind ?_; intro p4 hp4
    refine f_op rfl rfl (s_callF rfl ok36 (sim36 hp4)) ?_
    refine f_op rfl rfl (s_mv (v := .sl p3.1.1) rfl) ?_
    refine o_bind ?_; intro p5 hp5
    refine f_op rfl rfl (s_callF rfl ok35 (sim35 hp5)) ?_
    refine f_op rfl rfl (s_mv (v := .bool p5.1) rfl) ?_
    refine o_if (fun h6 => ?_) (fun h6 => ?_)
    · skip
      refine o_know 160 rfl (bool_T h6) ?_
      refine f_op rfl rfl (s_mv (v := .int .i64 v5) rfl) ?_
      refine f_op rfl rfl (s_mv (v := .int .i64 p3.1.2) rfl) ?_
      refine f_op rfl rfl (s_eql rfl rfl) ?_
      refine f_op rfl rfl (s_pickT (v := .bool (decide (v5 = p3.1.2))) rfl rfl) ?_
      refine f_op rfl rfl (s_as (v := .bool (decide (v5 = p3.1.2))) rfl) ?_
      refine f_nil ?_
      exact f_ret (.tmp rfl (.nil)) rfl
    · skip
      refine o_know 160 rfl (bool_F h6) ?_
      refine f_no rfl rfl ?_
      refine f_no rfl rfl ?_
      refine f_no rfl rfl ?_
      refine f_op rfl rfl (s_pickF (v := .bool false) rfl rfl) ?_
      refine f_op rfl rfl (s_as (v := .bool false) rfl) ?_
      refine f_nil ?_
      exact f_ret (.tmp rfl (.nil)) rfl

theorem s6_j5 {app : App} (happ : AppSim Try.prog app) (v1 : Sl) (v2 : Int) (v3 : Int) (v4 : Sl) (v5 : Int) (H : Hp) : Fin Try.prog Try.f6 ret6 165 (todoAt (bodyOf Try.f6) [1, 1, 1, 1, 1, 1, 1] []) [(0, .sl v1), (2, .int .i64 v2), (3, .int .i64 v3), (11, .sl v4), (12, .int .i64 v5)] H (r6_j5 app v1 v2 v3 v4 v5 H) := by
  unfold r6_j5
  refine f_seq ?_
  refine f_seq ?_
  refine f_region ?_
  refine f_op rfl rfl (s_mv (v := .int .i64 v2) rfl) ?_
  refine f_op rfl rfl (s_lss rfl rfl) ?_
  refine f_op rfl rfl (s_mv (v := .bool (decide (v2 < (-5)))) rfl) ?_
  refine o_if (fun h1 => ?_) (fun h1 => ?_)
  · skip
    refine o_know 130 rfl (dec_true h1) ?_
    refine f_no rfl rfl ?_
    refine f_no rfl rfl ?_
    refine f_op rfl rfl (s_pickT (v := .bool true) rfl rfl) ?_
    refine f_op rfl rfl (s_mv (v := .bool true) rfl) ?_
    refine f_no rfl rfl ?_
    refine f_no rfl rfl ?_
    refine f_op rfl rfl (s_pickT (v := .bool true) rfl rfl) ?_
    refine f_op rfl rfl (s_mv (v := .bool true) rfl) ?_
    refine f_no rfl rfl ?_
    refine f_no rfl rfl ?_
    refine f_op rfl rfl (s_pickT (v := .bool true) rfl rfl) ?_
    refine f_nil ?_
    refine f_keep [0, 2, 3, 11, 12, 141] ?_
    exact s6_j1 happ v1 v2 v3 v4 v5 true H
  · skip
    refine o_know 130 rfl (dec_false h1) ?_
    refine f_op rfl rfl (s_mv (v := .int .i64 v2) rfl) ?_
    refine f_op rfl rfl (s_gtr rfl rfl) ?_
    refine f_op rfl rfl (s_pickF (v := .bool (decide (5 < v2))) rfl rfl) ?_
    refine f_op rfl rfl (s_mv (v := .bool (decide (5 < v2))) rfl) ?_
    refine o_if (fun h2 => ?_) (fun h2 => ?_)
    · skip
      refine o_know 134 rfl (dec_true h2) ?_
      refine f_no rfl rfl ?_
      refine f_no rfl rfl ?_
      refine f_op rfl rfl (s_pickT (v := .bool true) rfl rfl) ?_
      refine f_op rfl rfl (s_mv (v := .bool true) rfl) ?_
      refine f_no rfl rfl ?_
      refine f_no rfl rfl ?_
      refine f_op rfl rfl (s_pickT (v := .bool true) rfl rfl) ?_
      refine f_nil ?_
      refine f_keep [0, 2, 3, 11, 12, 141] ?_
      exact s6_j1 happ v1 v2 v3 v4 v5 true H
    · skip
      refine o_know 134 rfl (dec_false h2) ?_
      refine f_op rfl rfl (s_mv (v := .int .i64 v3) rfl) ?_
      refine f_op rfl rfl (s_lss rfl rfl) ?_
      refine f_op rfl rfl (s_pickF (v := .bool (decide (v3 < (-5)))) rfl rfl) ?_
      refine f_op rfl rfl (s_mv (v := .bool (decide (v3 < (-5)))) rfl) ?_
      refine o_if (fun h3 => ?_) (fun h3 => ?_)
      · skip
        refine o_know 138 rfl (dec_true h3) ?_
        refine f_no rfl rfl ?_
        refine f_no rfl rfl ?_
        refine f_op rfl rfl (s_pickT (v := .bool true) rfl rfl) ?_
        refine f_nil ?_
        refine f_keep [0, 2, 3, 11, 12, 141] ?_
        exact s6_j1 happ v1 v2 v3 v4 v5 true H
      · skip
        refine o_know 138 rfl (dec_false h3) ?_
        refine f_op rfl rfl (s_mv (v := .int .i64 v3) rfl) ?_
        refine f_op rfl rfl (s_gtr rfl rfl) ?_
        refine f_op rfl rfl (s_pickF (v := .bool (decide (5 < v3))) rfl rfl) ?_
        refine f_nil ?_
        refine f_keep [0, 2, 3, 11, 12, 141] ?_
        exact s6_j1 happ v1 v2 v3 v4 v5 (decide (5 < v3)) H

theorem s6_j2 {app : App} (happ : AppSim Try.prog app) (v1 : Sl) (v2 : Int) (v3 : Int) (v4 : Sl) (v5 : Int) (v6 : Bool) (H : Hp) : Fin Try.prog Try.f6 ret6 165 (todoAt (bodyOf Try.f6) [1, 1, 1, 1, 1, 1, 0, 1, 0, 1] []) [(0, .sl v1), (2, .int .i64 v2), (3, .int .i64 v3), (11, .sl v4), (12, .int .i64 v5), (107, .bool v6)] H (r6_j2 app v1 v2 v3 v4 v5 v6 H) := by
  unfold r6_j2
  refine f_if (fun h1 => ?_) (fun h1 => ?_)
  · skip
    refine f_know 107 rfl (bool_T h1) ?_
    refine f_condT rfl ?_
    refine f_seq ?_
    refine f_region ?_
    refine f_op rfl rfl (s_as (v := .bool false) rfl) ?_
    refine f_nil ?_
    exact f_ret (.tmp rfl (.nil)) rfl
  · skip
    refine f_know 107 rfl (bool_F h1) ?_
    refine f_condF rfl ?_
    refine f_skip ?_
    refine f_keep [0, 2, 3, 11, 12] ?_
    exact s6_j5 happ v1 v2 v3 v4 v5 H

theorem s6_j4 {app : App} (happ : AppSim Try.prog app) (v1 : Sl) (v2 : Int) (v3 : Int) (v4 : Sl) (v5 : Int) (v6 : Bool) (H : Hp) : Fin Try.prog Try.f6 ret6 165 (todoAt (bodyOf Try.f6) [1, 1, 1, 1, 1, 1, 0, 1, 1, 1, 1] []) [(0, .sl v1), (2, .int .i64 v2), (3, .int .i64 v3), (11, .sl v4), (12, .int .i64 v5), (127, .bool v6)] H (r6_j4 app v1 v2 v3 v4 v5 v6 H) := by
  unfold r6_j4
  refine f_if (fun h1 => ?_) (fun h1 => ?_)
  · skip
    refine f_know 127 rfl (bool_T h1) ?_
    refine f_condT rfl ?_
    refine f_seq ?_
    refine f_region ?_
    refine f_op rfl rfl (s_as (v := .bool false) rfl) ?_
    refine f_nil ?_
    exact f_ret (.tmp rfl (.nil)) rfl
  · skip
    refine f_know 127 rfl (bool_F h1) ?_
    refine f_condF rfl ?_
    refine f_skip ?_
    refine f_keep [0, 2, 3, 11, 12] ?_
    exact s6_j5 happ v1 v2 v3 v4 v5 H

theorem s6_j3 {app : App} (happ : AppSim Try.prog app) (v1 : Sl) (v2 : Int) (v3 : Int) (v4 : Nat) (v5 : Nat) (v6 : Int) (v7 : Sl) (v8 : Int) (v9 : Bool) (H : Hp) : Fin Try.prog Try.f6 ret6 165 (todoAt (bodyOf Try.f6) [1, 1, 1, 1, 1, 1, 0, 1] []) [(0, .sl v1), (2, .int .i64 v2), (3, .int .i64 v3), (5, .ptr v4 0), (9, .ptr v5 0), (10, .int .i64 v6), (11, .sl v7), (12, .int .i64 v8), (100, .bool v9)] H (r6_j3 app v1 v2 v3 v4 v5 v6 v7 v8 v9 H) := by
  unfold r6_j3
  refine f_if (fun h1 => ?_) (fun h1 => ?_)
  · skip
    refine f_know 100 rfl (bool_T h1) ?_
    refine f_condT rfl ?_
    refine f_seq ?_
    refine f_region ?_
    refine o_bind ?_; intro x2 hx2
    refine o_bind ?_; intro x3 hx3
    refine o_bind ?_; intro x4 hx4
    refine f_op rfl rfl (s_loads Try.underlying47 rfl ty47 rfl (lds_cons (ldI_eq hx2) (lds_cons (ldI_eq hx3) (lds_cons (ldI_eq hx4) (lds_nil))))) ?_
    refine f_op rfl rfl (s_build (cs := [.int .i64 0, .int .i64 0, .int .i64 0]) Try.underlying47 ty47 rfl pl47 rfl) ?_
    refine f_op rfl rfl (s_neAgg eg47 rfl rfl (eq3 Try.underlying47 Try.underlying3 Try.underlying3 Try.underlying3 (by decide) (by decide) (by decide) rfl rfl rfl sih47 x2 x3 x4 0 0 0)) ?_
    refine f_op rfl rfl (s_mv (v := .bool (!((x2 == 0) && ((x3 == 0) && (x4 == 0))))) rfl) ?_
    refine o_if (fun h5 => ?_) (fun h5 => ?_)
    · skip
      refine o_know 104 rfl (bool_notT h5) ?_
      refine f_op rfl rfl (s_mv (v := .int .i64 v6) rfl) ?_
      refine f_op rfl rfl (s_neq rfl rfl) ?_
      refine f_op rfl rfl (s_pickF (v := .bool (decide (v6 ≠ 2))) rfl rfl) ?_
      refine f_nil ?_
      refine f_keep [0, 2, 3, 11, 12, 107] ?_
      exact s6_j2 happ v1 v2 v3 v7 v8 (decide (v6 ≠ 2)) H
    · skip
      refine o_know 104 rfl (bool_notF h5) ?_
      refine f_no rfl rfl ?_
      refine f_no rfl rfl ?_
      refine f_op rfl rfl (s_pickT (v := .bool true) rfl rfl) ?_
      refine f_nil ?_
      refine f_keep [0, 2, 3, 11, 12, 107] ?_
      exact s6_j2 happ v1 v2 v3 v7 v8 true H
  · skip
    refine f_know 100 rfl (bool_F h1) ?_
    refine f_condF rfl ?_
    refine f_seq ?_
    refine f_region ?_
    refine f_op rfl rfl (s_mv (v := .sl v1) rfl) ?_
    refine o_bind ?_; intro x6 hx6
    refine o_bind ?_; intro x7 hx7
    refine f_op rfl rfl (s_loads Try.underlying43 rfl ty43 rfl (lds_cons (ldI_eq hx6) (lds_cons (ldI_eq hx7) (lds_nil)))) ?_
    refine o_bind ?_; intro p8 hp8
    refine f_op rfl rfl (s_callF rfl ok38 (sim38 hp8)) ?_
    refine f_op rfl rfl (s_mv (v := .tup [.agg [.int .i64 p8.1.1, .int .i64 p8.1.2.1, .int .i64 p8.1.2.2.1], .int .i64 p8.1.2.2.2]) rfl) ?_
    refine f_op rfl rfl (s_extract (r := .agg [.int .i64 p8.1.1, .int .i64 p8.1.2.1, .int .i64 p8.1.2.2.1]) rfl rfl) ?_
    refine f_op rfl rfl (s_extract (r := .int .i64 p8.1.2.2.2) rfl rfl) ?_
    refine f_op rfl rfl (s_alloc (zs := [.int .i64 0, .int .i64 0, .int .i64 0]) ty46 rfl rfl) ?_
    refine o_bind ?_; intro H9 hH9
    refine f_op rfl rfl (s_stores ty46 rfl rfl rfl rfl hH9 (Nat.le_of_eq (sts_mono hH9).symm)) ?_
    refine f_op rfl rfl (s_as (v := .int .i64 p8.1.2.2.2) rfl) ?_
    refine f_nil ?_
    refine f_seq ?_
    refine f_region ?_
    refine o_bind ?_; intro x10 hx10
    refine o_bind ?_; intro x11 hx11
    refine o_bind ?_; intro x12 hx12
    refine f_op rfl rfl (s_loads Try.underlying47 rfl ty47 rfl (lds_cons (ldI_eq hx10) (lds_cons (ldI_eq hx11) (lds_cons (ldI_eq hx12) (lds_nil))))) ?_
    refine f_op rfl rfl (s_fieldAddr Try.underlying46 rfl ty3 rfl) ?_
    refine o_bind ?_; intro x13 hx13
    refine f_op rfl rfl (s_load Try.underlying3 rfl rfl (ldI_eq hx13)) ?_
    refine f_op rfl rfl (s_fieldAddr Try.underlying46 rfl ty3 rfl) ?_
    refine o_bind ?_; intro x14 hx14
    refine f_op rfl rfl (s_load Try.underlying3 rfl rfl (ldI_eq hx14)) ?_
    refine f_op rfl rfl (s_fieldAddr Try.underlying46 rfl ty3 rfl) ?_
    refine o_bind ?_; intro x15 hx15
    refine f_op rfl rfl (s_load Try.underlying3 rfl rfl (ldI_eq hx15)) ?_
    refine f_op rfl rfl (s_build (cs := [.int .i64 x13, .int .i64 x14, .int .i64 x15]) Try.underlying47 ty47 rfl pl47 rfl) ?_
    refine f_op rfl rfl (s_neAgg eg47 rfl rfl (eq3 Try.underlying47 Try.underlying3 Try.underlying3 Try.underlying3 (by decide) (by decide) (by decide) rfl rfl rfl sih47 x10 x11 x12 x13 x14 x15)) ?_
    refine f_op rfl rfl (s_mv (v := .bool (!((x10 == x13) && ((x11 == x14) && (x12 == x15))))) rfl) ?_
    refine o_if (fun h16 => ?_) (fun h16 => ?_)
    · skip
      refine o_know 123 rfl (bool_notT h16) ?_
      refine f_op rfl rfl (s_mv (v := .int .i64 v6) rfl) ?_
      refine f_op rfl rfl (s_mv (v := .int .i64 p8.1.2.2.2) rfl) ?_
      refine f_op rfl rfl (s_neq rfl rfl) ?_
      refine f_op rfl rfl (s_pickF (v := .bool (decide (v6 ≠ p8.1.2.2.2))) rfl rfl) ?_
      refine f_nil ?_
      refine f_keep [0, 2, 3, 11, 12, 127] ?_
      exact s6_j4 happ v1 v2 v3 v7 v8 (decide (v6 ≠ p8.1.2.2.2)) H9
    · skip
      refine o_know 123 rfl (bool_notF h16) ?_
      refine f_no rfl rfl ?_
      refine f_no rfl rfl ?_
      refine f_no rfl rfl ?_
      refine f_op rfl rfl (s_pickT (v := .bool true) rfl rfl) ?_
      refine f_nil ?_
      refine f_keep [0, 2, 3, 11, 12, 127] ?_
      exact s6_j4 happ v1 v2 v3 v7 v8 true H9

theorem s6_j0 {app : App} (happ : AppSim Try.prog app) (v1 : Sl) (v2 : Int) (v3 : Int) (v4 : Nat) (v5 : Nat) (v6 : Int) (v7 : Sl) (v8 : Int) (v9 : Bool) (H : Hp) : Fin Try.prog Try.f6 ret6 165 (todoAt (bodyOf Try.f6) [1, 1, 1, 1, 1, 0, 1] []) [(0, .sl v1), (2, .int .i64 v2), (3, .int .i64 v3), (5, .ptr v4 0), (9, .ptr v5 0), (10, .int .i64 v6), (11, .sl v7), (12, .int .i64 v8), (82, .bool v9)] H (r6_j0 app v1 v2 v3 v4 v5 v6 v7 v8 v9 H) := by
  unfold r6_j0
  refine f_if (fun h1 => ?_) (fun h1 => ?_)
  · skip
    refine f_know 82 rfl (bool_T h1) ?_
    refine f_condT rfl ?_
    refine f_seq ?_
    refine f_region ?_
    refine f_op rfl rfl (s_as (v := .bool false) rfl) ?_
    refine f_nil ?_
    exact f_ret (.tmp rfl (.nil)) rfl
  · skip
    refine f_know 82 rfl (bool_F h1) ?_
    refine f_condF rfl ?_
    refine f_skip ?_
    refine f_seq ?_
    refine f_seq ?_
    refine f_region ?_
    refine f_op rfl rfl (s_idxA Try.underlying43 ty3 rfl rfl (by decide)) ?_
    refine o_bind ?_; intro x2 hx2
    refine f_op rfl rfl (s_load Try.underlying3 rfl rfl (ldI_eq hx2)) ?_
    refine f_op rfl rfl (s_lss rfl rfl) ?_
    refine f_op rfl rfl (s_mv (v := .bool (decide (x2 < (-100)))) rfl) ?_
    refine o_if (fun h3 => ?_) (fun h3 => ?_)
    · skip
      refine o_know 86 rfl (dec_true h3) ?_
      refine f_no rfl rfl ?_
      refine f_no rfl rfl ?_
      refine f_no rfl rfl ?_
      refine f_op rfl rfl (s_pickT (v := .bool true) rfl rfl) ?_
      refine f_op rfl rfl (s_mv (v := .bool true) rfl) ?_
      refine f_no rfl rfl ?_
      refine f_no rfl rfl ?_
      refine f_no rfl rfl ?_
      refine f_op rfl rfl (s_pickT (v := .bool true) rfl rfl) ?_
      refine f_op rfl rfl (s_mv (v := .bool true) rfl) ?_
      refine f_no rfl rfl ?_
      refine f_no rfl rfl ?_
      refine f_no rfl rfl ?_
      refine f_op rfl rfl (s_pickT (v := .bool true) rfl rfl) ?_
      refine f_nil ?_
      refine f_keep [0, 2, 3, 5, 9, 10, 11, 12, 100] ?_
      exact s6_j3 happ v1 v2 v3 v4 v5 v6 v7 v8 true H
    · skip
      refine o_know 86 rfl (dec_false h3) ?_
      refine f_op rfl rfl (s_idxA Try.underlying43 ty3 rfl rfl (by decide)) ?_
      refine o_bind ?_; intro x4 hx4
      refine f_op rfl rfl (s_load Try.underlying3 rfl rfl (ldI_eq hx4)) ?_
      refine f_op rfl rfl (s_gtr rfl rfl) ?_
      refine f_op rfl rfl (s_pickF (v := .bool (decide (100 < x4))) rfl rfl) ?_
      refine f_op rfl rfl (s_mv (v := .bool (decide (100 < x4))) rfl) ?_
      refine o_if (fun h5 => ?_) (fun h5 => ?_)
      · skip
        refine o_know 91 rfl (dec_true h5) ?_
        refine f_no rfl rfl ?_
        refine f_no rfl rfl ?_
        refine f_no rfl rfl ?_
        refine f_op rfl rfl (s_pickT (v := .bool true) rfl rfl) ?_
        refine f_op rfl rfl (s_mv (v := .bool true) rfl) ?_
        refine f_no rfl rfl ?_
        refine f_no rfl rfl ?_
        refine f_no rfl rfl ?_
        refine f_op rfl rfl (s_pickT (v := .bool true) rfl rfl) ?_
        refine f_nil ?_
        refine f_keep [0, 2, 3, 5, 9, 10, 11, 12, 100] ?_
        exact s6_j3 happ v1 v2 v3 v4 v5 v6 v7 v8 true H
      · skip
        refine o_know 91 rfl (dec_false h5) ?_
        refine f_op rfl rfl (s_idxA Try.underlying43 ty3 rfl rfl (by decide)) ?_
        refine o_bind ?_; intro x6 hx6
        refine f_op rfl rfl (s_load Try.underlying3 rfl rfl (ldI_eq hx6)) ?_
        refine f_op rfl rfl (s_lss rfl rfl) ?_
        refine f_op rfl rfl (s_pickF (v := .bool (decide (x6 < (-100)))) rfl rfl) ?_
        refine f_op rfl rfl (s_mv (v := .bool (decide (x6 < (-100)))) rfl) ?_
        refine o_if (fun h7 => ?_) (fun h7 => ?_)
        · skip
          refine o_know 96 rfl (dec_true h7) ?_
          refine f_no rfl rfl ?_
          refine f_no rfl rfl ?_
          refine f_no rfl rfl ?_
          refine f_op rfl rfl (s_pickT (v := .bool true) rfl rfl) ?_
          refine f_nil ?_
          refine f_keep [0, 2, 3, 5, 9, 10, 11, 12, 100] ?_
          exact s6_j3 happ v1 v2 v3 v4 v5 v6 v7 v8 true H
        · skip
          refine o_know 96 rfl (dec_false h7) ?_
          refine f_op rfl rfl (s_idxA Try.underlying43 ty3 rfl rfl (by decide)) ?_
          refine o_bind ?_; intro x8 hx8
          refine f_op rfl rfl (s_load Try.underlying3 rfl rfl (ldI_eq hx8)) ?_
          refine f_op rfl rfl (s_gtr rfl rfl) ?_
          refine f_op rfl rfl (s_pickF (v := .bool (decide (100 < x8))) rfl rfl) ?_
          refine f_nil ?_
          refine f_keep [0, 2, 3, 5, 9, 10, 11, 12, 100] ?_
          exact s6_j3 happ v1 v2 v3 v4 v5 v6 v7 v8 (decide (100 < x8)) H

theorem sim6 {app : App} (happ : AppSim Try.prog app) {a0 : Sl} {a1_0 : Int} {a1_1 : Int} {a2 : Int} {a3 : Int} {H : Hp} {p : Bool × Hp} (h : r6 app a0 a1_0 a1_1 a2 a3 H = some p) : CallSim Try.prog 6 [.sl a0, .agg [.int .i64 a1_0, .int .i64 a1_1], .int .i64 a2, .int .i64 a3] H (.bool p.1) p.2 := by
  refine callSim (fn := Try.f6) (ret := ret6) Try.func6 rfl Try.ntmps6 rfl ?_ h
  unfold r6
  refine f_seq ?_
  refine f_region ?_
  refine f_op rfl rfl (s_box (v := .agg [.int .i64 a1_0, .int .i64 a1_1]) rfl rfl) ?_
  refine f_op rfl rfl (s_as (v := .bool false) rfl) ?_
  refine o_hp ?_; intro H1 hH1
  refine f_nil ?_
  refine f_seq ?_
  refine f_bind ?_; intro p2 hp2
  refine f_bind ?_; intro x3 hx3
  refine f_bind ?_; intro x4 hx4
  refine f_bind ?_; intro p5 hp5
  refine f_bind ?_; intro H6 hH6
  refine f_ck fun g7 => ?_
  refine f_ck fun g8 => ?_
  refine f_drawF (Φ := fun H_ => H_.ld H.n 0 = some (.int .i64 x3) ∧ H_.ld H.n (0 + 1) = some (.int .i64 x4)) (lim := 3) [0, 2, 0, 2, 0, 0, 0, 2, 2, 0] [false, false, false, false, false, false, false, true, false, false] 7 8 (Trc.pure rfl rfl rfl (.inl fun _ => s_mv (v := .sl a0) rfl) (Trc.eff rfl rfl rfl (fun _ => ⟨ldI_eq g7, ldI_eq g8⟩) (s_callF rfl ok18 (sim18 hp2)) (Trc.pure rfl rfl rfl (.inr ⟨by decide +kernel, fun _ hp_ => s_loads Try.underlying43 rfl ty43 rfl (lds_cons hp_.1 (lds_cons hp_.2 (lds_nil)))⟩) (Trc.eff rfl rfl rfl (fun _ => ⟨ldI_eq hx3, ldI_eq hx4⟩) (s_callF rfl ok32 (sim32 happ hp5)) (Trc.pure rfl rfl rfl (.inl fun _ => s_mv (v := .tup [.agg [.int .i64 p5.1.1, .int .i64 p5.1.2.1, .int .i64 p5.1.2.2.1], .int .i64 p5.1.2.2.2]) rfl) (Trc.pure rfl rfl rfl (.inl fun _ => s_extract (r := .agg [.int .i64 p5.1.1, .int .i64 p5.1.2.1, .int .i64 p5.1.2.2.1]) rfl rfl) (Trc.pure rfl rfl rfl (.inl fun _ => s_extract (r := .int .i64 p5.1.2.2.2) rfl rfl) (Trc.fl .p rfl rfl rfl (fun h_ => absurd h_ (by decide +kernel)) rfl (by rfl) (fun _ => s_alloc (zs := [.int .i64 0, .int .i64 0, .int .i64 0]) ty47 rfl rfl) (Trc.eff rfl rfl rfl (fun h_ => absurd h_ (by decide +kernel)) (s_stores ty47 rfl rfl rfl rfl hH6 (Nat.le_of_eq (sts_mono hH6).symm)) (Trc.pure rfl rfl rfl (.inl fun _ => s_as (v := .int .i64 p5.1.2.2.2) rfl) (Trc.nil (fun h_ => absurd h_ (by decide +kernel))))))))))))) rfl rfl (by decide +kernel) mixed ?_
  refine f_seq ?_
  refine f_region ?_
  refine f_op rfl rfl (s_mv (v := .sl a0) rfl) ?_
  refine o_bind ?_; intro p9 hp9
  refine f_op rfl rfl (s_callF rfl ok18 (sim18 hp9)) ?_
  refine f_op rfl rfl (s_mv (v := .int .i64 a2) rfl) ?_
  refine f_op rfl rfl (s_mv (v := .int .i64 a3) rfl) ?_
  refine o_bind ?_; intro p10 hp10
  refine f_op rfl rfl (s_callF rfl ok33 (sim33 happ hp10)) ?_
  refine f_op rfl rfl (s_mv (v := .tup [.sl p10.1.1, .int .i64 p10.1.2]) rfl) ?_
  refine f_op rfl rfl (s_extract (r := .sl p10.1.1) rfl rfl) ?_
  refine f_op rfl rfl (s_extract (r := .int .i64 p10.1.2) rfl rfl) ?_
  refine f_op rfl rfl (s_as (v := .sl p10.1.1) rfl) ?_
  refine f_op rfl rfl (s_as (v := .int .i64 p10.1.2) rfl) ?_
  refine f_nil ?_
  refine f_seq ?_
  refine f_region ?_
  refine f_op rfl rfl (s_mv (v := .sl a0) rfl) ?_
  refine o_bind ?_; intro p11 hp11
  refine f_op rfl rfl (s_callF rfl ok18 (sim18 hp11)) ?_
  refine o_bind ?_; intro p12 hp12
  refine f_op rfl rfl (s_callF rfl ok34 (sim34 happ hp12)) ?_
  refine f_op rfl rfl (s_mv (v := .tup [.sl p12.1.1, .int .i64 p12.1.2]) rfl) ?_
  refine f_op rfl rfl (s_extract (r := .sl p12.1.1) rfl rfl) ?_
  refine f_op rfl rfl (s_extract (r := .int .i64 p12.1.2) rfl rfl) ?_
  refine f_op rfl rfl (s_as (v := .sl p12.1.1) rfl) ?_
  refine f_op rfl rfl (s_as (v := .int .i64 p12.1.2) rfl) ?_
  refine f_nil ?_
  refine f_seq ?_
  refine f_seq ?_
  refine f_region ?_
  refine f_op rfl rfl (s_mv (v := .sl a0) rfl) ?_
  refine o_bind ?_; intro p13 hp13
  refine f_op rfl rfl (s_callF rfl ok19 (sim19 hp13)) ?_
  refine f_op rfl rfl (s_not rfl) ?_
  refine f_nil ?_
  refine f_if (fun h14 => ?_) (fun h14 => ?_)
  · skip
    refine f_know 42 rfl (bool_notT h14) ?_
    refine f_condF rfl ?_
    refine f_skip ?_
    refine f_seq ?_
    refine f_seq ?_
    refine f_region ?_
    refine f_op rfl rfl (s_mv (v := .sl p12.1.1) rfl) ?_
    refine o_bind ?_; intro p15 hp15
    refine f_op rfl rfl (s_callF rfl ok36 (sim36 hp15)) ?_
    refine f_op rfl rfl (s_mv (v := .sl a0) rfl) ?_
    refine o_bind ?_; intro p16 hp16
    refine f_op rfl rfl (s_callF rfl ok37 (sim37 hp16)) ?_
    refine o_bind ?_; intro p17 hp17
    refine f_op rfl rfl (s_callF rfl ok35 (sim35 hp17)) ?_
    refine f_op rfl rfl (s_not rfl) ?_
    refine f_op rfl rfl (s_mv (v := .bool (!p17.1)) rfl) ?_
    refine o_if (fun h18 => ?_) (fun h18 => ?_)
    · skip
      refine o_know 75 rfl (bool_notT h18) ?_
      refine f_op rfl rfl (s_mv (v := .int .i64 p12.1.2) rfl) ?_
      refine f_op rfl rfl (s_neq rfl rfl) ?_
      refine f_op rfl rfl (s_pickF (v := .bool (decide (p12.1.2 ≠ 0))) rfl rfl) ?_
      refine f_op rfl rfl (s_mv (v := .bool (decide (p12.1.2 ≠ 0))) rfl) ?_
      refine o_if (fun h19 => ?_) (fun h19 => ?_)
      · skip
        refine o_know 79 rfl (dec_true h19) ?_
        refine f_no rfl rfl ?_
        refine f_no rfl rfl ?_
        refine f_op rfl rfl (s_pickT (v := .bool true) rfl rfl) ?_
        refine f_nil ?_
        refine f_keep [0, 2, 3, 5, 9, 10, 11, 12, 82] ?_
        exact s6_j0 happ a0 a2 a3 H.n p5.2.n p5.1.2.2.2 p10.1.1 p10.1.2 true p17.2
      · skip
        refine o_know 79 rfl (dec_false h19) ?_
        refine o_bind ?_; intro p20 hp20
        refine o_bind ?_; intro x21 hx21
        refine f_op rfl rfl (s_callA happ rfl hp20) ?_
        refine o_know 80 rfl (asB_eq hx21) ?_
        refine f_op rfl rfl (s_not rfl) ?_
        refine f_op rfl rfl (s_pickF (v := .bool (!x21)) rfl rfl) ?_
        refine f_nil ?_
        refine f_keep [0, 2, 3, 5, 9, 10, 11, 12, 82] ?_
        exact s6_j0 happ a0 a2 a3 H.n p5.2.n p5.1.2.2.2 p10.1.1 p10.1.2 (!x21) p20.2
    · skip
      refine o_know 75 rfl (bool_notF h18) ?_
      refine f_no rfl rfl ?_
      refine f_no rfl rfl ?_
      refine f_op rfl rfl (s_pickT (v := .bool true) rfl rfl) ?_
      refine f_op rfl rfl (s_mv (v := .bool true) rfl) ?_
      refine f_no rfl rfl ?_
      refine f_no rfl rfl ?_
      refine f_op rfl rfl (s_pickT (v := .bool true) rfl rfl) ?_
      refine f_nil ?_
      refine f_keep [0, 2, 3, 5, 9, 10, 11, 12, 82] ?_
      exact s6_j0 happ a0 a2 a3 H.n p5.2.n p5.1.2.2.2 p10.1.1 p10.1.2 true p17.2
  · skip
    refine f_know 42 rfl (bool_notF h14) ?_
    refine f_condT rfl ?_
    refine f_seq ?_
    refine f_region ?_
    refine o_bind ?_; intro x22 hx22
    refine o_bind ?_; intro x23 hx23
    refine o_bind ?_; intro x24 hx24
    refine f_op rfl rfl (s_loads Try.underlying47 rfl ty47 rfl (lds_cons (ldI_eq hx22) (lds_cons (ldI_eq hx23) (lds_cons (ldI_eq hx24) (lds_nil))))) ?_
    refine f_op rfl rfl (s_build (cs := [.int .i64 0, .int .i64 0, .int .i64 0]) Try.underlying47 ty47 rfl pl47 rfl) ?_
    refine f_op rfl rfl (s_eqAgg eg47 rfl rfl (eq3 Try.underlying47 Try.underlying3 Try.underlying3 Try.underlying3 (by decide) (by decide) (by decide) rfl rfl rfl sih47 x22 x23 x24 0 0 0)) ?_
    refine f_op rfl rfl (s_mv (v := .bool ((x22 == 0) && ((x23 == 0) && (x24 == 0)))) rfl) ?_
    refine o_if (fun h25 => ?_) (fun h25 => ?_)
    · skip
      refine o_know 46 rfl (bool_T h25) ?_
      refine f_op rfl rfl (s_mv (v := .sl p10.1.1) rfl) ?_
      refine f_op rfl rfl (s_lenS rfl Try.underlying30 rfl) ?_
      refine f_op rfl rfl (s_mv (v := .sl p12.1.1) rfl) ?_
      refine f_op rfl rfl (s_lenS rfl Try.underlying30 rfl) ?_
      refine f_op rfl rfl (s_add rfl rfl) ?_
      refine f_op rfl rfl (s_eql rfl rfl) ?_
      refine f_op rfl rfl (s_pickT (v := .bool (decide ((w64 ((p10.1.1.len : Int) + (p12.1.1.len : Int))) = 0))) rfl rfl) ?_
      refine f_op rfl rfl (s_mv (v := .bool (decide ((w64 ((p10.1.1.len : Int) + (p12.1.1.len : Int))) = 0))) rfl) ?_
      refine o_if (fun h26 => ?_) (fun h26 => ?_)
      · skip
        refine o_know 54 rfl (dec_true h26) ?_
        refine f_op rfl rfl (s_mv (v := .int .i64 p5.1.2.2.2) rfl) ?_
        refine f_op rfl rfl (s_eql rfl rfl) ?_
        refine f_op rfl rfl (s_pickT (v := .bool (decide (p5.1.2.2.2 = 2))) rfl rfl) ?_
        refine f_op rfl rfl (s_mv (v := .bool (decide (p5.1.2.2.2 = 2))) rfl) ?_
        refine o_if (fun h27 => ?_) (fun h27 => ?_)
        · skip
          refine o_know 58 rfl (dec_true h27) ?_
          refine f_op rfl rfl (s_mv (v := .int .i64 p10.1.2) rfl) ?_
          refine f_op rfl rfl (s_eql rfl rfl) ?_
          refine f_op rfl rfl (s_pickT (v := .bool (decide (p10.1.2 = 2))) rfl rfl) ?_
          refine f_op rfl rfl (s_mv (v := .bool (decide (p10.1.2 = 2))) rfl) ?_
          refine o_if (fun h28 => ?_) (fun h28 => ?_)
          · skip
            refine o_know 62 rfl (dec_true h28) ?_
            refine f_op rfl rfl (s_mv (v := .int .i64 p12.1.2) rfl) ?_
            refine f_op rfl rfl (s_eql rfl rfl) ?_
            refine f_op rfl rfl (s_pickT (v := .bool (decide (p12.1.2 = 2))) rfl rfl) ?_
            refine f_op rfl rfl (s_mv (v := .bool (decide (p12.1.2 = 2))) rfl) ?_
            refine o_if (fun h29 => ?_) (fun h29 => ?_)
            · skip
              refine o_know 66 rfl (dec_true h29) ?_
              refine o_bind ?_; intro p30 hp30
              refine o_bind ?_; intro x31 hx31
              refine f_op rfl rfl (s_callA happ rfl hp30) ?_
              refine o_know 67 rfl (asB_eq hx31) ?_
              refine f_op rfl rfl (s_pickT (v := .bool x31) rfl rfl) ?_
              refine f_op rfl rfl (s_as (v := .bool x31) rfl) ?_
              refine f_nil ?_
              exact f_ret (.tmp rfl (.nil)) rfl
            · skip
              refine o_know 66 rfl (dec_false h29) ?_
              refine f_no rfl rfl ?_
              refine f_op rfl rfl (s_pickF (v := .bool false) rfl rfl) ?_
              refine f_op rfl rfl (s_as (v := .bool false) rfl) ?_
              refine f_nil ?_
              exact f_ret (.tmp rfl (.nil)) rfl
          · skip
            refine o_know 62 rfl (dec_false h28) ?_
            refine f_no rfl rfl ?_
            refine f_no rfl rfl ?_
            refine f_op rfl rfl (s_pickF (v := .bool false) rfl rfl) ?_
            refine f_op rfl rfl (s_mv (v := .bool false) rfl) ?_
            refine f_no rfl rfl ?_
            refine f_op rfl rfl (s_pickF (v := .bool false) rfl rfl) ?_
            refine f_op rfl rfl (s_as (v := .bool false) rfl) ?_
            refine f_nil ?_
            exact f_ret (.tmp rfl (.nil)) rfl
        · skip
          refine o_know 58 rfl (dec_false h27) ?_
          refine f_no rfl rfl ?_
          refine f_no rfl rfl ?_
          refine f_op rfl rfl (s_pickF (v := .bool false) rfl rfl) ?_
          refine f_op rfl rfl (s_mv (v := .bool false) rfl) ?_
          refine f_no rfl rfl ?_
          refine f_no rfl rfl ?_
          refine f_op rfl rfl (s_pickF (v := .bool false) rfl rfl) ?_
          refine f_op rfl rfl (s_mv (v := .bool false) rfl) ?_
          refine f_no rfl rfl ?_
          refine f_op rfl rfl (s_pickF (v := .bool false) rfl rfl) ?_
          refine f_op rfl rfl (s_as (v := .bool false) rfl) ?_
          refine f_nil ?_
          exact f_ret (.tmp rfl (.nil)) rfl
      · skip
        refine o_know 54 rfl (dec_false h26) ?_
        refine f_no rfl rfl ?_
        refine f_no rfl rfl ?_
        refine f_op rfl rfl (s_pickF (v := .bool false) rfl rfl) ?_
        refine f_op rfl rfl (s_mv (v := .bool false) rfl) ?_
        refine f_no rfl rfl ?_
        refine f_no rfl rfl ?_
        refine f_op rfl rfl (s_pickF (v := .bool false) rfl rfl) ?_
        refine f_op rfl rfl (s_mv (v := .bool false) rfl) ?_
        refine f_no rfl rfl ?_
        refine f_no rfl rfl ?_
        refine f_op rfl rfl (s_pickF (v := .bool false) rfl rfl) ?_
        refine f_op rfl rfl (s_mv (v := .bool false) rfl) ?_
        refine f_no rfl rfl ?_
        refine f_op rfl rfl (s_pickF (v := .bool false) rfl rfl) ?_
        refine f_op rfl rfl (s_as (v := .bool false) rfl) ?_
        refine f_nil ?_
        exact f_ret (.tmp rfl (.nil)) rfl
    · skip
      refine o_know 46 rfl (bool_F h25) ?_
      refine f_no rfl rfl ?_
      refine f_no rfl rfl ?_
      refine f_no rfl rfl ?_
      refine f_no rfl rfl ?_
      refine f_no rfl rfl ?_
      refine f_no rfl rfl ?_
      refine f_op rfl rfl (s_pickF (v := .bool false) rfl rfl) ?_
      refine f_op rfl rfl (s_mv (v := .bool false) rfl) ?_
      refine f_no rfl rfl ?_
      refine f_no rfl rfl ?_
      refine f_op rfl rfl (s_pickF (v := .bool false) rfl rfl) ?_
      refine f_op rfl rfl (s_mv (v := .bool false) rfl) ?_
      refine f_no rfl rfl ?_
      refine f_no rfl rfl ?_
      refine f_op rfl rfl (s_pickF (v := .bool false) rfl rfl) ?_
      refine f_op rfl rfl (s_mv (v := .bool false) rfl) ?_
      refine f_no rfl rfl ?_
      refine f_no rfl rfl ?_
      refine f_op rfl rfl (s_pickF (v := .bool false) rfl rfl) ?_
      refine f_op rfl rfl (s_mv (v := .bool false) rfl) ?_
      refine f_no rfl rfl ?_
      refine f_op rfl rfl (s_pickF (v := .bool false) rfl rfl) ?_
      refine f_op rfl rfl (s_as (v := .bool false) rfl) ?_
      refine f_nil ?_
      exact f_ret (.tmp rfl (.nil)) rfl

/- 97 congou/cuts.cross -/
theorem ok97 : FnOk Try.prog 97 := ⟨⟨Try.f97, Try.func97, by kernel_rfl, rfl⟩⟩
theorem sim97 {a0 : Int} {a1 : Int} {a2 : Int} {a3 : Int} {H : Hp} {p : Int × Hp} (h : r97 a0 a1 a2 a3 H = some p) : CallSim Try.prog 97 [.int .i64 a0, .int .i64 a1, .int .i64 a2, .int .i64 a3] H (.int .i64 p.1) p.2 := by
  refine callSim (fn := Try.f97) (ret := ret97) Try.func97 rfl Try.ntmps97 rfl ?_ h
  unfold r97
  refine f_seq ?_
  refine f_region ?_
  refine f_op rfl rfl (s_as (v := .int .i64 0) rfl) ?_
  refine f_nil ?_
  refine f_seq ?_
  refine f_region ?_
  refine f_op rfl rfl (s_mv (v := .int .i64 a0) rfl) ?_
  refine f_op rfl rfl (s_mv (v := .int .i64 a3) rfl) ?_
  refine f_op rfl rfl (s_mul rfl rfl) ?_
  refine f_op rfl rfl (s_mv (v := .int .i64 a1) rfl) ?_
  refine f_op rfl rfl (s_mv (v := .int .i64 a2) rfl) ?_
  refine f_op rfl rfl (s_mul rfl rfl) ?_
  refine f_op rfl rfl (s_sub rfl rfl) ?_
  refine f_op rfl rfl (s_as (v := .int .i64 (w64 ((w64 (a0 * a3)) - (w64 (a1 * a2))))) rfl) ?_
  refine f_nil ?_
  exact f_ret (.tmp rfl (.nil)) rfl

/- 96 (congou/cuts.Side).meet -/
theorem ok96 : FnOk Try.prog 96 := ⟨⟨Try.f96, Try.func96, by kernel_rfl, rfl⟩⟩
theorem sim96 {a0_0 : Int} {a0_1 : Int} {a0_2 : Int} {a1_0 : Int} {a1_1 : Int} {a1_2 : Int} {H : Hp} {p : (Int × Int × Int × Int × Bool) × Hp} (h : r96 a0_0 a0_1 a0_2 a1_0 a1_1 a1_2 H = some p) : CallSim Try.prog 96 [.agg [.int .i64 a0_0, .int .i64 a0_1, .int .i64 a0_2], .agg [.int .i64 a1_0, .int .i64 a1_1, .int .i64 a1_2]] H (.tup [.agg [.int .i64 p.1.1, .int .i64 p.1.2.1, .int .i64 p.1.2.2.1, .int .i64 p.1.2.2.2.1], .bool p.1.2.2.2.2]) p.2 := by
  refine callSim (fn := Try.f96) (ret := ret96) Try.func96 rfl Try.ntmps96 rfl ?_ h
  unfold r96
  refine f_seq ?_
  refine f_region ?_
  refine f_op rfl rfl (s_box (v := .agg [.int .i64 a0_0, .int .i64 a0_1, .int .i64 a0_2]) rfl rfl) ?_
  refine f_op rfl rfl (s_box (v := .agg [.int .i64 a1_0, .int .i64 a1_1, .int .i64 a1_2]) rfl rfl) ?_
  refine f_op rfl rfl (s_alloc (zs := [.int .i64 0, .int .i64 0, .int .i64 0, .int .i64 0]) ty32 rfl rfl) ?_
  refine f_op rfl rfl (s_as (v := .bool false) rfl) ?_
  refine o_hp ?_; intro H1 hH1
  refine f_nil ?_
  refine f_seq ?_
  refine f_region ?_
  refine f_op rfl rfl (s_fieldAddr Try.underlying47 rfl ty3 rfl) ?_
  refine o_bind ?_; intro x2 hx2
  refine f_op rfl rfl (s_load Try.underlying3 rfl rfl (ldI_eq hx2)) ?_
  refine f_op rfl rfl (s_fieldAddr Try.underlying47 rfl ty3 rfl) ?_
  refine o_bind ?_; intro x3 hx3
  refine f_op rfl rfl (s_load Try.underlying3 rfl rfl (ldI_eq hx3)) ?_
  refine f_op rfl rfl (s_fieldAddr Try.underlying47 rfl ty3 rfl) ?_
  refine o_bind ?_; intro x4 hx4
  refine f_op rfl rfl (s_load Try.underlying3 rfl rfl (ldI_eq hx4)) ?_
  refine f_op rfl rfl (s_fieldAddr Try.underlying47 rfl ty3 rfl) ?_
  refine o_bind ?_; intro x5 hx5
  refine f_op rfl rfl (s_load Try.underlying3 rfl rfl (ldI_eq hx5)) ?_
  refine o_bind ?_; intro p6 hp6
  refine f_op rfl rfl (s_callO rfl ok97 (sim97 hp6) rfl rfl) ?_
  refine f_op rfl rfl (s_as (v := .int .i64 p6.1) rfl) ?_
  refine f_nil ?_
  refine f_seq ?_
  refine f_seq ?_
  refine f_region ?_
  refine f_op rfl rfl (s_mv (v := .int .i64 p6.1) rfl) ?_
  refine f_op rfl rfl (s_eql rfl rfl) ?_
  refine f_nil ?_
  refine f_if (fun h7 => ?_) (fun h7 => ?_)
  · skip
    refine f_know 17 rfl (dec_true h7) ?_
    refine f_condT rfl ?_
    refine f_seq ?_
    refine f_region ?_
    refine f_op rfl rfl (s_build (cs := [.int .i64 0, .int .i64 0, .int .i64 0, .int .i64 0]) Try.underlying32 ty32 rfl pl32 rfl) ?_
    refine o_bind ?_; intro H8 hH8
    refine f_op rfl rfl (s_stores ty32 rfl rfl rfl rfl hH8 (Nat.le_of_eq (sts_mono hH8).symm)) ?_
    refine f_op rfl rfl (s_as (v := .bool false) rfl) ?_
    refine f_nil ?_
    refine f_bind ?_; intro x9 hx9
    refine f_bind ?_; intro x10 hx10
    refine f_bind ?_; intro x11 hx11
    refine f_bind ?_; intro x12 hx12
    exact f_ret (.cells Try.underlying32 rfl sz32 rfl (lds_cons (ldI_eq hx9) (lds_cons (ldI_eq hx10) (lds_cons (ldI_eq hx11) (lds_cons (ldI_eq hx12) (lds_nil))))) (.tmp rfl (.nil))) rfl
  · skip
    refine f_know 17 rfl (dec_false h7) ?_
    refine f_condF rfl ?_
    refine f_skip ?_
    refine f_seq ?_
    refine f_bind ?_; intro x13 hx13
    refine f_bind ?_; intro x14 hx14
    refine f_bind ?_; intro x15 hx15
    refine f_bind ?_; intro x16 hx16
    refine f_bind ?_; intro p17 hp17
    refine f_bind ?_; intro x18 hx18
    refine f_bind ?_; intro x19 hx19
    refine f_bind ?_; intro x20 hx20
    refine f_bind ?_; intro x21 hx21
    refine f_bind ?_; intro p22 hp22
    refine f_bind ?_; intro H23 hH23
    refine f_draw (Φ := fun _ => True) (lim := 1000000) [0, 1, 0, 1, 0, 0, 1, 0, 1, 0, 0, 0, 0, 0, 1, 0, 1, 0, 0, 1, 0, 1, 0, 0, 0, 0, 0, 2, 0] (Trc.pure rfl rfl rfl (.inl fun _ => s_fieldAddr Try.underlying47 rfl ty3 rfl) (Trc.read rfl rfl rfl (s_load Try.underlying3 rfl rfl (ldI_eq hx13)) (Trc.pure rfl rfl rfl (.inl fun _ => s_fieldAddr Try.underlying47 rfl ty3 rfl) (Trc.read rfl rfl rfl (s_load Try.underlying3 rfl rfl (ldI_eq hx14)) (Trc.pure rfl rfl rfl (.inl fun _ => s_mul rfl rfl) (Trc.pure rfl rfl rfl (.inl fun _ => s_fieldAddr Try.underlying47 rfl ty3 rfl) (Trc.read rfl rfl rfl (s_load Try.underlying3 rfl rfl (ldI_eq hx15)) (Trc.pure rfl rfl rfl (.inl fun _ => s_fieldAddr Try.underlying47 rfl ty3 rfl) (Trc.read rfl rfl rfl (s_load Try.underlying3 rfl rfl (ldI_eq hx16)) (Trc.pure rfl rfl rfl (.inl fun _ => s_mul rfl rfl) (Trc.pure rfl rfl rfl (.inl fun _ => s_sub rfl rfl) (Trc.pure rfl rfl rfl (.inl fun _ => s_mv (v := .int .i64 p6.1) rfl) (Trc.pure rfl rfl rfl (.inl fun _ => s_callO rfl ok100 (sim100 hp17) rfl rfl) (Trc.pure rfl rfl rfl (.inl fun _ => s_fieldAddr Try.underlying47 rfl ty3 rfl) (Trc.read rfl rfl rfl (s_load Try.underlying3 rfl rfl (ldI_eq hx18)) (Trc.pure rfl rfl rfl (.inl fun _ => s_fieldAddr Try.underlying47 rfl ty3 rfl) (Trc.read rfl rfl rfl (s_load Try.underlying3 rfl rfl (ldI_eq hx19)) (Trc.pure rfl rfl rfl (.inl fun _ => s_mul rfl rfl) (Trc.pure rfl rfl rfl (.inl fun _ => s_fieldAddr Try.underlying47 rfl ty3 rfl) (Trc.read rfl rfl rfl (s_load Try.underlying3 rfl rfl (ldI_eq hx20)) (Trc.pure rfl rfl rfl (.inl fun _ => s_fieldAddr Try.underlying47 rfl ty3 rfl) (Trc.read rfl rfl rfl (s_load Try.underlying3 rfl rfl (ldI_eq hx21)) (Trc.pure rfl rfl rfl (.inl fun _ => s_mul rfl rfl) (Trc.pure rfl rfl rfl (.inl fun _ => s_sub rfl rfl) (Trc.pure rfl rfl rfl (.inl fun _ => s_mv (v := .int .i64 p6.1) rfl) (Trc.pure rfl rfl rfl (.inl fun _ => s_callO rfl ok100 (sim100 hp22) rfl rfl) (Trc.pure rfl rfl rfl (.inl fun _ => s_build (cs := [.int .i64 p17.1.1, .int .i64 p17.1.2, .int .i64 p22.1.1, .int .i64 p22.1.2]) Try.underlying32 ty32 rfl pl32 rfl) (Trc.eff rfl rfl rfl (fun _ => trivial) (s_stores ty32 rfl rfl rfl rfl hH23 (Nat.le_of_eq (sts_mono hH23).symm)) (Trc.pure rfl rfl rfl (.inl fun _ => s_as (v := .bool true) rfl) (Trc.nil (fun _ => trivial))))))))))))))))))))))))))))))) rfl (by decide +kernel) mixed ?_
    refine f_bind ?_; intro x24 hx24
    refine f_bind ?_; intro x25 hx25
    refine f_bind ?_; intro x26 hx26
    refine f_bind ?_; intro x27 hx27
    exact f_ret (.cells Try.underlying32 rfl sz32 rfl (lds_cons (ldI_eq hx24) (lds_cons (ldI_eq hx25) (lds_cons (ldI_eq hx26) (lds_cons (ldI_eq hx27) (lds_nil))))) (.tmp rfl (.nil))) rfl

end Go.Lt.P2
