/- PRINTED BY A PROGRAM OF OURS: what each function that 'ChestPages' reaches computes on the abstract heap, and that the translated code does just that. Nothing is asked of the input. -/
import Derived.Test.YtnigfapfghgmnaaGreatDoorG4P6
set_option linter.unusedVariables false
set_option linter.unusedSimpArgs false
set_option maxRecDepth 100000
set_option maxHeartbeats 4000000
namespace Go.Lt.P10
open Go Go.Lt Go.Proofs
/- 87 congou/shares.Gap -/
theorem ok87 : FnOk Tryz.prog 87 := ⟨⟨Tryz.f87, Tryz.func87, by kernel_rfl, rfl⟩⟩
theorem s87_l1 (kt0 : Sl → Int → Sl → Int → Int → Hp → Option ((Int × Int) × Hp)) (hkt0 : ∀ (v1 : Sl) (v2 : Int) (v3 : Sl) (v4 : Int) (v5 : Int) (H : Hp), Fin Tryz.prog Tryz.f87 ret87 40 (todoAt (bodyOf Tryz.f87) [1, 1, 1, 0, 1, 0, 0] []) [(0, .sl v1), (4, .int .i64 v2), (13, .sl v3), (14, .int .i64 v4), (15, .int .i64 v5)] H (kt0 v1 v2 v3 v4 v5 H)) : ∀ (k_ : Nat) (v1 : Sl) (v2 : Int) (v3 : Int) (v4 : Sl) (v5 : Int) (v6 : Int) (v7 : Sl) (v8 : Int) (v9 : Int) (H : Hp), Fin Tryz.prog Tryz.f87 ret87 40 (todoAt (bodyOf Tryz.f87) [1, 1, 1, 0, 1, 0, 0, 1, 1, 0, 0, 1, 1, 0, 0] []) [(0, .sl v1), (4, .int .i64 v2), (6, .int .i64 v3), (13, .sl v4), (14, .int .i64 v5), (15, .int .i64 v6), (22, .sl v7), (23, .int .i64 v8), (24, .int .i64 v9)] H (r87_l1 kt0 k_ v1 v2 v3 v4 v5 v6 v7 v8 v9 H) := by
  intro k_
  induction k_ with
  | zero => intro _ _ _ _ _ _ _ _ _ _; exact f_none
  | succ k_ ih =>
    intro v1 v2 v3 v4 v5 v6 v7 v8 v9 H
    rw [r87_l1]
    refine f_seq ?_
    refine f_region ?_
    refine f_op rfl rfl (s_lss rfl rfl) ?_
    refine f_nil ?_
    refine f_seq ?_
    refine f_if (fun h1 => ?_) (fun h1 => ?_)
    · skip
      refine f_know 25 rfl (dec_true h1) ?_
      refine f_condT rfl ?_
      refine f_skip ?_
      refine f_seq ?_
      refine f_block ?_
      refine f_seq ?_
      refine f_region ?_
      refine o_ck fun g2 => ?_
      refine f_op rfl rfl (s_idx Tryz.underlying30 ty3 rfl rfl g2) ?_
      refine o_bind ?_; intro x3 hx3
      refine f_op rfl rfl (s_load Tryz.underlying3 rfl rfl (ldI_eq hx3)) ?_
      refine f_op rfl rfl (s_as (v := .int .i64 x3) rfl) ?_
      refine f_nil ?_
      refine f_region ?_
      refine f_op rfl rfl (s_mv (v := .int .i64 v2) rfl) ?_
      refine f_op rfl rfl (s_mv (v := .int .i64 v3) rfl) ?_
      refine f_op rfl rfl (s_mv (v := .int .i64 x3) rfl) ?_
      refine f_op rfl rfl (s_sub rfl rfl) ?_
      refine f_op rfl rfl (s_mv (v := .int .i64 x3) rfl) ?_
      refine f_op rfl rfl (s_mv (v := .int .i64 v3) rfl) ?_
      refine f_op rfl rfl (s_sub rfl rfl) ?_
      refine f_op rfl rfl (s_max2 rfl rfl) ?_
      refine f_op rfl rfl (s_add rfl rfl) ?_
      refine f_op rfl rfl (s_as (v := .int .i64 (w64 (v2 + (if (w64 (v3 - x3)) < (w64 (x3 - v3)) then (w64 (x3 - v3)) else (w64 (v3 - x3)))))) rfl) ?_
      refine f_nil ?_
      refine f_inBlock ?_
      refine f_region ?_
      refine f_op rfl rfl (s_add rfl rfl) ?_
      refine f_op rfl rfl (s_mv (v := .int .i64 (w64 (v9 + 1))) rfl) ?_
      refine f_nil ?_
      refine f_inLoop ?_
      refine f_keep [0, 4, 6, 13, 14, 15, 22, 23, 24] ?_
      exact ih v1 (w64 (v2 + (if (w64 (v3 - x3)) < (w64 (x3 - v3)) then (w64 (x3 - v3)) else (w64 (v3 - x3))))) v3 v4 v5 v6 v7 v8 (w64 (v9 + 1)) H
    · skip
      refine f_know 25 rfl (dec_false h1) ?_
      refine f_condF rfl ?_
      refine f_exit rfl ?_
      refine f_inBlock ?_
      refine f_region ?_
      refine f_op rfl rfl (s_add rfl rfl) ?_
      refine f_op rfl rfl (s_mv (v := .int .i64 (w64 (v6 + 1))) rfl) ?_
      refine f_nil ?_
      refine f_inLoop ?_
      refine f_keep [0, 4, 13, 14, 15] ?_
      exact hkt0 v1 v2 v4 v5 (w64 (v6 + 1)) H

theorem s87_l0 : ∀ (k_ : Nat) (v1 : Sl) (v2 : Int) (v3 : Sl) (v4 : Int) (v5 : Int) (H : Hp), Fin Tryz.prog Tryz.f87 ret87 40 (todoAt (bodyOf Tryz.f87) [1, 1, 1, 0, 1, 0, 0] []) [(0, .sl v1), (4, .int .i64 v2), (13, .sl v3), (14, .int .i64 v4), (15, .int .i64 v5)] H (r87_l0 k_ v1 v2 v3 v4 v5 H) := by
  intro k_
  induction k_ with
  | zero => intro _ _ _ _ _ _; exact f_none
  | succ k_ ih =>
    intro v1 v2 v3 v4 v5 H
    rw [r87_l0]
    refine f_seq ?_
    refine f_region ?_
    refine f_op rfl rfl (s_lss rfl rfl) ?_
    refine f_nil ?_
    refine f_seq ?_
    refine f_if (fun h1 => ?_) (fun h1 => ?_)
    · skip
      refine f_know 16 rfl (dec_true h1) ?_
      refine f_condT rfl ?_
      refine f_skip ?_
      refine f_seq ?_
      refine f_block ?_
      refine f_seq ?_
      refine f_region ?_
      refine f_op rfl rfl (s_mv (v := .int .i64 v5) rfl) ?_
      refine o_ck fun g2 => ?_
      refine f_op rfl rfl (s_idx Tryz.underlying30 ty3 rfl rfl g2) ?_
      refine o_bind ?_; intro x3 hx3
      refine f_op rfl rfl (s_load Tryz.underlying3 rfl rfl (ldI_eq hx3)) ?_
      refine f_op rfl rfl (s_as (v := .int .i64 v5) rfl) ?_
      refine f_op rfl rfl (s_as (v := .int .i64 x3) rfl) ?_
      refine f_nil ?_
      refine f_seq ?_
      refine f_region ?_
      refine f_op rfl rfl (s_mv (v := .sl v1) rfl) ?_
      refine f_op rfl rfl (s_mv (v := .int .i64 v5) rfl) ?_
      refine o_ck fun g4 => ?_
      refine f_op rfl rfl (s_slice Tryz.underlying30 ty3 rfl rfl rfl g4.1 g4.2) ?_
      refine f_op rfl rfl (s_lenS rfl Tryz.underlying30 rfl) ?_
      refine f_op rfl rfl (s_mv (v := .int .i64 0) rfl) ?_
      refine f_nil ?_
      refine f_block ?_
      refine f_loop ?_
      refine f_keep [0, 4, 6, 13, 14, 15, 22, 23, 24] ?_
      exact s87_l1 _ (fun v1_ v2_ v3_ v4_ v5_ H_ => ih v1_ v2_ v3_ v4_ v5_ H_) FUEL v1 v2 x3 v3 v4 v5 (v1.cut 1 (0 : Int).toNat (v5 : Int).toNat) ((v1.cut 1 (0 : Int).toNat (v5 : Int).toNat).len : Int) 0 H
    · skip
      refine f_know 16 rfl (dec_false h1) ?_
      refine f_condF rfl ?_
      refine f_exit rfl ?_
      refine f_seq ?_
      refine f_region ?_
      refine f_op rfl rfl (s_mv (v := .int .i64 v2) rfl) ?_
      refine f_op rfl rfl (s_as (v := .int .i64 v2) rfl) ?_
      refine f_op rfl rfl (s_as (v := .int .i64 0) rfl) ?_
      refine f_nil ?_
      exact f_ret (.tmp rfl (.tmp rfl (.nil))) rfl

theorem sim87 {a0 : Sl} {H : Hp} {p : (Int × Int) × Hp} (h : r87 a0 H = some p) : CallSim Tryz.prog 87 [.sl a0] H (.tup [.int .i64 p.1.1, .int .i64 p.1.2]) p.2 := by
  refine callSim (fn := Tryz.f87) (ret := ret87) Tryz.func87 rfl Tryz.ntmps87 rfl ?_ h
  unfold r87
  refine f_seq ?_
  refine f_region ?_
  refine f_op rfl rfl (s_as (v := .int .i64 0) rfl) ?_
  refine f_op rfl rfl (s_as (v := .int .i64 0) rfl) ?_
  refine f_nil ?_
  refine f_seq ?_
  refine f_seq ?_
  refine f_region ?_
  refine f_op rfl rfl (s_mv (v := .sl a0) rfl) ?_
  refine f_op rfl rfl (s_buildSlice (cs := [.sl a0]) Tryz.underlying122 ty30 (by decide) (by decide) rfl (by decide) rfl) ?_
  refine o_bind ?_; intro p1 hp1
  refine f_op rfl rfl (s_callF rfl ok103 (sim103 hp1)) ?_
  refine f_op rfl rfl (s_not rfl) ?_
  refine f_nil ?_
  refine f_if (fun h2 => ?_) (fun h2 => ?_)
  · skip
    refine f_know 12 rfl (bool_notT h2) ?_
    refine f_condF rfl ?_
    refine f_skip ?_
    refine f_seq ?_
    refine f_region ?_
    refine f_op rfl rfl (s_as (v := .int .i64 0) rfl) ?_
    refine f_nil ?_
    refine f_seq ?_
    refine f_seq ?_
    refine f_region ?_
    refine f_op rfl rfl (s_mv (v := .sl a0) rfl) ?_
    refine f_op rfl rfl (s_lenS rfl Tryz.underlying30 rfl) ?_
    refine f_op rfl rfl (s_mv (v := .int .i64 0) rfl) ?_
    refine f_nil ?_
    refine f_block ?_
    refine f_loop ?_
    refine f_keep [0, 4, 13, 14, 15] ?_
    exact s87_l0 FUEL a0 0 a0 (a0.len : Int) 0 p1.2
  · skip
    refine f_know 12 rfl (bool_notF h2) ?_
    refine f_condT rfl ?_
    refine f_seq ?_
    refine f_region ?_
    refine f_op rfl rfl (s_as (v := .int .i64 0) rfl) ?_
    refine f_op rfl rfl (s_as (v := .int .i64 2) rfl) ?_
    refine f_nil ?_
    exact f_ret (.tmp rfl (.tmp rfl (.nil))) rfl

/- 60 (*congou/chest.state).gap -/
theorem ok60 : FnOk Tryz.prog 60 := ⟨⟨Tryz.f60, Tryz.func60, by kernel_rfl, rfl⟩⟩
theorem sim60 {app : App} (happ : AppSim Tryz.prog app) {a0b : Nat} {a0o : Nat} {a1_0 : Sl} {a1_1 : Sl} {H : Hp} {p : (Sl × Int) × Hp} (h : r60 app a0b a0o a1_0 a1_1 H = some p) : CallSim Tryz.prog 60 [.ptr a0b a0o, .agg [.sl a1_0, .sl a1_1]] H (.tup [.sl p.1.1, .int .i64 p.1.2]) p.2 := by
  refine callSim (fn := Tryz.f60) (ret := ret60) Tryz.func60 rfl Tryz.ntmps60 rfl ?_ h
  unfold r60
  refine f_seq ?_
  refine f_region ?_
  refine f_op rfl rfl (s_box (v := .agg [.sl a1_0, .sl a1_1]) rfl rfl) ?_
  refine f_op rfl rfl (s_as (v := .sl ⟨true, 0, 0, 0, 0, 0⟩) rfl) ?_
  refine f_op rfl rfl (s_as (v := .int .i64 0) rfl) ?_
  refine o_hp ?_; intro H1 hH1
  refine f_nil ?_
  refine f_seq ?_
  refine f_seq ?_
  refine f_region ?_
  refine f_op rfl rfl (s_mv (v := .ptr a0b a0o) rfl) ?_
  refine f_op rfl rfl (s_nilCheck rfl) ?_
  refine f_op rfl rfl (s_fieldAddr Tryz.underlying69 rfl ty64 rfl) ?_
  refine o_bind ?_; intro x2 hx2
  refine f_op rfl rfl (s_load Tryz.underlying64 rfl rfl (ldSl_eq hx2)) ?_
  refine f_op rfl rfl (s_lenS rfl Tryz.underlying64 rfl) ?_
  refine f_op rfl rfl (s_eql rfl rfl) ?_
  refine f_nil ?_
  refine f_if (fun h3 => ?_) (fun h3 => ?_)
  · skip
    refine f_know 13 rfl (dec_true h3) ?_
    refine f_condT rfl ?_
    refine f_seq ?_
    refine f_region ?_
    refine f_op rfl rfl (s_as (v := .sl ⟨true, 0, 0, 0, 0, 0⟩) rfl) ?_
    refine f_op rfl rfl (s_as (v := .int .i64 4) rfl) ?_
    refine f_nil ?_
    exact f_ret (.tmp rfl (.tmp rfl (.nil))) rfl
  · skip
    refine f_know 13 rfl (dec_false h3) ?_
    refine f_condF rfl ?_
    refine f_skip ?_
    refine f_seq ?_
    refine f_region ?_
    refine f_op rfl rfl (s_mv (v := .ptr a0b a0o) rfl) ?_
    refine o_bind ?_; intro p4 hp4
    refine f_op rfl rfl (s_callF rfl ok76 (sim76 hp4)) ?_
    refine o_bind ?_; intro p5 hp5
    refine f_op rfl rfl (s_callF rfl ok87 (sim87 hp5)) ?_
    refine f_op rfl rfl (s_mv (v := .tup [.int .i64 p5.1.1, .int .i64 p5.1.2]) rfl) ?_
    refine f_op rfl rfl (s_extract (r := .int .i64 p5.1.1) rfl rfl) ?_
    refine f_op rfl rfl (s_extract (r := .int .i64 p5.1.2) rfl rfl) ?_
    refine f_op rfl rfl (s_as (v := .int .i64 p5.1.1) rfl) ?_
    refine f_op rfl rfl (s_as (v := .int .i64 p5.1.2) rfl) ?_
    refine f_nil ?_
    refine f_seq ?_
    refine f_region ?_
    refine f_op rfl rfl (s_mv (v := .int .i64 p5.1.1) rfl) ?_
    refine f_op rfl rfl (s_buildSlice (cs := [.int .i64 p5.1.1]) Tryz.underlying30 ty3 (by decide) (by decide) rfl (by decide) rfl) ?_
    refine o_bind ?_; intro p6 hp6
    refine f_op rfl rfl (s_callF rfl ok57 (sim57 happ hp6)) ?_
    refine f_op rfl rfl (s_mv (v := .int .i64 p5.1.2) rfl) ?_
    refine f_op rfl rfl (s_as (v := .sl p6.1) rfl) ?_
    refine f_op rfl rfl (s_as (v := .int .i64 p5.1.2) rfl) ?_
    refine f_nil ?_
    exact f_ret (.tmp rfl (.tmp rfl (.nil))) rfl

/- 102 (*congou/chest.state).find$1 -/
theorem ok102 : FnOk Tryz.prog 102 := ⟨⟨Tryz.f102, Tryz.func102, by kernel_rfl, rfl⟩⟩
theorem sim102 {a0_0 : ByteArray} {a0_1 : Int} {c0 : Nat} {H : Hp} {p : Bool × Hp} (h : r102 a0_0 a0_1 c0 H = some p) : CallSim Tryz.prog 102 [.agg [.str a0_0, .int .i64 a0_1], .ptr c0 0] H (.bool p.1) p.2 := by
  refine callSim (fn := Tryz.f102) (ret := ret102) Tryz.func102 rfl Tryz.ntmps102 rfl ?_ h
  unfold r102
  refine f_seq ?_
  refine f_region ?_
  refine f_op rfl rfl (s_box (v := .agg [.str a0_0, .int .i64 a0_1]) rfl rfl) ?_
  refine f_op rfl rfl (s_as (v := .bool false) rfl) ?_
  refine o_hp ?_; intro H1 hH1
  refine f_nil ?_
  refine f_seq ?_
  refine f_region ?_
  refine f_op rfl rfl (s_fieldAddr Tryz.underlying93 rfl ty9 rfl) ?_
  refine o_bind ?_; intro x2 hx2
  refine f_op rfl rfl (s_load Tryz.underlying9 rfl rfl (ldStr_eq hx2)) ?_
  refine o_bind ?_; intro x3 hx3
  refine f_op rfl rfl (s_load Tryz.underlying9 rfl rfl (ldStr_eq hx3)) ?_
  refine f_op rfl rfl (s_eqStr rfl rfl) ?_
  refine f_op rfl rfl (s_as (v := .bool (strEq x2 x3)) rfl) ?_
  refine f_nil ?_
  exact f_ret (.tmp rfl (.nil)) rfl

end Go.Lt.P10
