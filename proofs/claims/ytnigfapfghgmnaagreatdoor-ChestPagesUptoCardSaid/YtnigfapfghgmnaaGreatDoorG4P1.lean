/- PRINTED BY A PROGRAM OF OURS: what each function that 'ChestPages' reaches computes on the abstract heap, and that the translated code does just that. Nothing is asked of the input. -/
import Derived.Test.YtnigfapfghgmnaaGreatDoorG4P0
set_option linter.unusedVariables false
set_option linter.unusedSimpArgs false
set_option maxRecDepth 100000
set_option maxHeartbeats 4000000
namespace Go.Lt.P10
open Go Go.Lt Go.Proofs
/- 110 congou/chest.isLine$1 -/
theorem ok110 : FnOk Tryz.prog 110 := ⟨⟨Tryz.f110, Tryz.func110, by kernel_rfl, rfl⟩⟩
theorem sim110 {a0 : Int} {H : Hp} {p : Bool × Hp} (h : r110 a0 H = some p) : CallSim Tryz.prog 110 [.int .u8 a0] H (.bool p.1) p.2 := by
  refine callSim (fn := Tryz.f110) (ret := ret110) Tryz.func110 rfl Tryz.ntmps110 rfl ?_ h
  unfold r110
  refine f_seq ?_
  refine f_region ?_
  refine f_op rfl rfl (s_as (v := .bool false) rfl) ?_
  refine f_nil ?_
  refine f_seq ?_
  refine f_region ?_
  refine f_op rfl rfl (s_mv (v := .int .u8 a0) rfl) ?_
  refine f_op rfl rfl (s_lss rfl rfl) ?_
  refine f_op rfl rfl (s_mv (v := .bool (decide (a0 < 32))) rfl) ?_
  refine o_if (fun h1 => ?_) (fun h1 => ?_)
  · skip
    refine o_know 5 rfl (dec_true h1) ?_
    refine f_no rfl rfl ?_
    refine f_no rfl rfl ?_
    refine f_op rfl rfl (s_pickT (v := .bool true) rfl rfl) ?_
    refine f_op rfl rfl (s_as (v := .bool true) rfl) ?_
    refine f_nil ?_
    exact f_ret (.tmp rfl (.nil)) rfl
  · skip
    refine o_know 5 rfl (dec_false h1) ?_
    refine f_op rfl rfl (s_mv (v := .int .u8 a0) rfl) ?_
    refine f_op rfl rfl (s_gtr rfl rfl) ?_
    refine f_op rfl rfl (s_pickF (v := .bool (decide (126 < a0))) rfl rfl) ?_
    refine f_op rfl rfl (s_as (v := .bool (decide (126 < a0))) rfl) ?_
    refine f_nil ?_
    exact f_ret (.tmp rfl (.nil)) rfl

/- 80 congou/chest.isLine -/
theorem ok80 : FnOk Tryz.prog 80 := ⟨⟨Tryz.f80, Tryz.func80, by kernel_rfl, rfl⟩⟩
theorem sim80 {app : App} (happ : AppSim Tryz.prog app) {a0 : ByteArray} {H : Hp} {p : Bool × Hp} (h : r80 app a0 H = some p) : CallSim Tryz.prog 80 [.str a0] H (.bool p.1) p.2 := by
  refine callSim (fn := Tryz.f80) (ret := ret80) Tryz.func80 rfl Tryz.ntmps80 rfl ?_ h
  unfold r80
  refine f_seq ?_
  refine f_region ?_
  refine f_op rfl rfl (s_as (v := .bool false) rfl) ?_
  refine f_nil ?_
  refine f_seq ?_
  refine f_region ?_
  refine f_op rfl rfl (s_mv (v := .str a0) rfl) ?_
  refine f_op rfl rfl (s_lenStr rfl Tryz.underlying9 rfl) ?_
  refine f_op rfl rfl (s_leq rfl rfl) ?_
  refine f_op rfl rfl (s_mv (v := .bool (decide ((a0.size : Int) ≤ 60))) rfl) ?_
  refine o_if (fun h1 => ?_) (fun h1 => ?_)
  · skip
    refine o_know 6 rfl (dec_true h1) ?_
    refine f_op rfl rfl (s_mv (v := .str a0) rfl) ?_
    refine o_bind ?_; intro p2 hp2
    refine f_op rfl rfl (s_callF rfl ok79 (sim79 hp2)) ?_
    refine o_bind ?_; intro p3 hp3
    refine f_op rfl rfl (s_callF rfl ok108 (sim108 hp3)) ?_
    refine f_op rfl rfl (s_not rfl) ?_
    refine f_op rfl rfl (s_pickT (v := .bool (!p3.1)) rfl rfl) ?_
    refine f_op rfl rfl (s_mv (v := .bool (!p3.1)) rfl) ?_
    refine o_if (fun h4 => ?_) (fun h4 => ?_)
    · skip
      refine o_know 12 rfl (bool_notT h4) ?_
      refine f_no rfl rfl ?_
      refine f_no rfl rfl ?_
      refine f_no rfl rfl ?_
      refine f_no rfl rfl ?_
      refine f_op rfl rfl (s_pickF (v := .bool false) rfl rfl) ?_
      refine f_op rfl rfl (s_as (v := .bool false) rfl) ?_
      refine f_nil ?_
      exact f_ret (.tmp rfl (.nil)) rfl
    · skip
      refine o_know 12 rfl (bool_notF h4) ?_
      refine f_op rfl rfl (s_mv (v := .str a0) rfl) ?_
      refine f_op rfl rfl (s_strBytes Tryz.underlying9 Tryz.underlying40 Tryz.underlying5 rfl) ?_
      refine o_bind ?_; intro p5 hp5
      refine f_op rfl rfl (s_callF rfl ok109 (sim109 happ hp5)) ?_
      refine f_op rfl rfl (s_not rfl) ?_
      refine f_op rfl rfl (s_pickT (v := .bool (!p5.1)) rfl rfl) ?_
      refine f_op rfl rfl (s_as (v := .bool (!p5.1)) rfl) ?_
      refine f_nil ?_
      exact f_ret (.tmp rfl (.nil)) rfl
  · skip
    refine o_know 6 rfl (dec_false h1) ?_
    refine f_no rfl rfl ?_
    refine f_no rfl rfl ?_
    refine f_no rfl rfl ?_
    refine f_no rfl rfl ?_
    refine f_op rfl rfl (s_pickF (v := .bool false) rfl rfl) ?_
    refine f_op rfl rfl (s_mv (v := .bool false) rfl) ?_
    refine f_no rfl rfl ?_
    refine f_no rfl rfl ?_
    refine f_no rfl rfl ?_
    refine f_no rfl rfl ?_
    refine f_op rfl rfl (s_pickF (v := .bool false) rfl rfl) ?_
    refine f_op rfl rfl (s_as (v := .bool false) rfl) ?_
    refine f_nil ?_
    exact f_ret (.tmp rfl (.nil)) rfl

/- 81 congou/chest.isName -/
theorem ok81 : FnOk Tryz.prog 81 := ⟨⟨Tryz.f81, Tryz.func81, by kernel_rfl, rfl⟩⟩
theorem s81_j1 (kt0 : ByteArray → Nat → Hp → Option (Bool × Hp)) (hkt0 : ∀ (v1 : ByteArray) (v2 : Nat) (H : Hp), Fin Tryz.prog Tryz.f81 ret81 23 (todoAt (bodyOf Tryz.f81) [1, 0, 1, 0, 0] []) [(0, .str v1), (6, .ptr v2 0)] H (kt0 v1 v2 H)) (v1 : ByteArray) (v2 : Nat) (v3 : Bool) (H : Hp) : Fin Tryz.prog Tryz.f81 ret81 23 (todoAt (bodyOf Tryz.f81) [1, 0, 1, 0, 0, 1, 1, 0, 1, 1] []) [(0, .str v1), (6, .ptr v2 0), (15, .bool v3)] H (r81_j1 kt0 v1 v2 v3 H) := by
  unfold r81_j1
  refine f_if (fun h1 => ?_) (fun h1 => ?_)
  · skip
    refine f_know 15 rfl (bool_T h1) ?_
    refine f_condT rfl ?_
    refine f_seq ?_
    refine f_region ?_
    refine f_op rfl rfl (s_as (v := .bool false) rfl) ?_
    refine f_nil ?_
    exact f_ret (.tmp rfl (.nil)) rfl
  · skip
    refine f_know 15 rfl (bool_F h1) ?_
    refine f_condF rfl ?_
    refine f_skip ?_
    refine f_inBlock ?_
    refine f_inLoop ?_
    refine f_keep [0, 6] ?_
    exact hkt0 v1 v2 H

theorem s81_l0 : ∀ (k_ : Nat) (v1 : ByteArray) (v2 : Nat) (H : Hp), Fin Tryz.prog Tryz.f81 ret81 23 (todoAt (bodyOf Tryz.f81) [1, 0, 1, 0, 0] []) [(0, .str v1), (6, .ptr v2 0)] H (r81_l0 k_ v1 v2 H) := by
  intro k_
  induction k_ with
  | zero => intro _ _ _; exact f_none
  | succ k_ ih =>
    intro v1 v2 H
    rw [r81_l0]
    refine f_seq ?_
    refine f_region ?_
    refine o_bind ?_; intro x1 hx1
    refine f_op rfl rfl (s_nextStr rfl rfl hx1) ?_
    refine f_op rfl rfl (s_next0 rfl) ?_
    refine f_nil ?_
    refine f_seq ?_
    refine f_if (fun h2 => ?_) (fun h2 => ?_)
    · skip
      refine f_know 8 rfl (bool_T h2) ?_
      refine f_condT rfl ?_
      refine f_skip ?_
      refine f_block ?_
      refine f_seq ?_
      refine f_region ?_
      refine o_bind ?_; intro x3 hx3
      refine f_op rfl rfl (s_next2 rfl hx3) ?_
      refine f_op rfl rfl (s_as (v := .int .i32 x3.2) rfl) ?_
      refine f_nil ?_
      refine f_seq ?_
      refine f_region ?_
      refine f_op rfl rfl (s_mv (v := .int .i32 x3.2) rfl) ?_
      refine f_op rfl rfl (s_lss rfl rfl) ?_
      refine f_op rfl rfl (s_mv (v := .bool (decide (x3.2 < 97))) rfl) ?_
      refine o_if (fun h4 => ?_) (fun h4 => ?_)
      · skip
        refine o_know 12 rfl (dec_true h4) ?_
        refine f_no rfl rfl ?_
        refine f_no rfl rfl ?_
        refine f_op rfl rfl (s_pickT (v := .bool true) rfl rfl) ?_
        refine f_nil ?_
        refine f_keep [0, 6, 15] ?_
        exact s81_j1 _ (fun v1_ v2_ H_ => ih v1_ v2_ H_) v1 v2 true x1.2
      · skip
        refine o_know 12 rfl (dec_false h4) ?_
        refine f_op rfl rfl (s_mv (v := .int .i32 x3.2) rfl) ?_
        refine f_op rfl rfl (s_gtr rfl rfl) ?_
        refine f_op rfl rfl (s_pickF (v := .bool (decide (122 < x3.2))) rfl rfl) ?_
        refine f_nil ?_
        refine f_keep [0, 6, 15] ?_
        exact s81_j1 _ (fun v1_ v2_ H_ => ih v1_ v2_ H_) v1 v2 (decide (122 < x3.2)) x1.2
    · skip
      refine f_know 8 rfl (bool_F h2) ?_
      refine f_condF rfl ?_
      refine f_exit rfl ?_
      refine f_seq ?_
      refine f_region ?_
      refine f_op rfl rfl (s_mv (v := .str v1) rfl) ?_
      refine f_op rfl rfl (s_neStr rfl rfl) ?_
      refine f_op rfl rfl (s_mv (v := .bool (!(strEq v1 (ByteArray.mk #[])))) rfl) ?_
      refine o_if (fun h5 => ?_) (fun h5 => ?_)
      · skip
        refine o_know 18 rfl (bool_notT h5) ?_
        refine f_no rfl rfl ?_
        refine f_no rfl rfl ?_
        refine f_no rfl rfl ?_
        refine f_op rfl rfl (s_pickF (v := .bool false) rfl rfl) ?_
        refine f_op rfl rfl (s_as (v := .bool false) rfl) ?_
        refine f_nil ?_
        exact f_ret (.tmp rfl (.nil)) rfl
      · skip
        refine o_know 18 rfl (bool_notF h5) ?_
        refine f_op rfl rfl (s_mv (v := .str v1) rfl) ?_
        refine f_op rfl rfl (s_lenStr rfl Tryz.underlying9 rfl) ?_
        refine f_op rfl rfl (s_leq rfl rfl) ?_
        refine f_op rfl rfl (s_pickT (v := .bool (decide ((v1.size : Int) ≤ 8))) rfl rfl) ?_
        refine f_op rfl rfl (s_as (v := .bool (decide ((v1.size : Int) ≤ 8))) rfl) ?_
        refine f_nil ?_
        exact f_ret (.tmp rfl (.nil)) rfl

theorem sim81 {a0 : ByteArray} {H : Hp} {p : Bool × Hp} (h : r81 a0 H = some p) : CallSim Tryz.prog 81 [.str a0] H (.bool p.1) p.2 := by
  refine callSim (fn := Tryz.f81) (ret := ret81) Tryz.func81 rfl Tryz.ntmps81 rfl ?_ h
  unfold r81
  refine f_seq ?_
  refine f_region ?_
  refine f_op rfl rfl (s_as (v := .bool false) rfl) ?_
  refine f_nil ?_
  refine f_seq ?_
  refine f_seq ?_
  refine f_region ?_
  refine f_op rfl rfl (s_mv (v := .str a0) rfl) ?_
  refine f_op rfl rfl (s_rangeStr Tryz.underlying9 rfl) ?_
  refine o_hp ?_; intro H1 hH1
  refine f_nil ?_
  refine f_block ?_
  refine f_loop ?_
  refine f_keep [0, 6] ?_
  exact s81_l0 FUEL a0 H.n H1

/- 82 congou/chest.number -/
theorem ok82 : FnOk Tryz.prog 82 := ⟨⟨Tryz.f82, Tryz.func82, by kernel_rfl, rfl⟩⟩
theorem sim82 {app : App} (happ : AppSim Tryz.prog app) {a0 : ByteArray} {H : Hp} {p : (Int × Bool) × Hp} (h : r82 app a0 H = some p) : CallSim Tryz.prog 82 [.str a0] H (.tup [.int .i64 p.1.1, .bool p.1.2]) p.2 := by
  refine callSim (fn := Tryz.f82) (ret := ret82) Tryz.func82 rfl Tryz.ntmps82 rfl ?_ h
  unfold r82
  refine f_seq ?_
  refine f_region ?_
  refine f_op rfl rfl (s_as (v := .int .i64 0) rfl) ?_
  refine f_op rfl rfl (s_as (v := .bool false) rfl) ?_
  refine f_nil ?_
  refine f_seq ?_
  refine f_region ?_
  refine f_op rfl rfl (s_mv (v := .str a0) rfl) ?_
  refine o_bind ?_; intro p1 hp1
  refine o_bind ?_; intro x2 hx2
  refine o_ck fun g3 => ?_
  refine o_bind ?_; intro x4 hx4
  refine o_bind ?_; intro x5 hx5
  refine o_bind ?_; intro x6 hx6
  refine f_op rfl rfl (s_callA happ rfl hp1) ?_
  refine o_know 8 rfl (tupOf2 hx2 g3 (gete hx4 (asI_eq hx5)) (gete hx6 (rfl))) ?_
  refine f_op rfl rfl (s_mv (v := .tup [.int .i64 x5, x6]) rfl) ?_
  refine f_op rfl rfl (s_extract (r := .int .i64 x5) rfl rfl) ?_
  refine f_op rfl rfl (s_extract (r := x6) rfl rfl) ?_
  refine f_op rfl rfl (s_as (v := .int .i64 x5) rfl) ?_
  refine f_op rfl rfl (s_as (v := x6) rfl) ?_
  refine f_nil ?_
  refine f_seq ?_
  refine f_region ?_
  refine f_op rfl rfl (s_mv (v := .int .i64 x5) rfl) ?_
  refine f_op rfl rfl (s_mv (v := x6) rfl) ?_
  refine o_bind ?_; intro x7 hx7
  refine f_op rfl rfl (s_eqIfN Tryz.underlying95 rfl rfl trivial hx7) ?_
  refine f_op rfl rfl (s_mv (v := .bool (!x7)) rfl) ?_
  refine o_if (fun h8 => ?_) (fun h8 => ?_)
  · skip
    refine o_know 14 rfl (bool_notT h8) ?_
    refine f_no rfl rfl ?_
    refine f_no rfl rfl ?_
    refine f_op rfl rfl (s_pickF (v := .bool false) rfl rfl) ?_
    refine f_op rfl rfl (s_mv (v := .bool false) rfl) ?_
    refine f_no rfl rfl ?_
    refine f_no rfl rfl ?_
    refine f_no rfl rfl ?_
    refine f_op rfl rfl (s_pickF (v := .bool false) rfl rfl) ?_
    refine f_op rfl rfl (s_mv (v := .bool false) rfl) ?_
    refine f_no rfl rfl ?_
    refine f_no rfl rfl ?_
    refine f_no rfl rfl ?_
    refine f_no rfl rfl ?_
    refine f_op rfl rfl (s_pickF (v := .bool false) rfl rfl) ?_
    refine f_op rfl rfl (s_as (v := .int .i64 x5) rfl) ?_
    refine f_op rfl rfl (s_as (v := .bool false) rfl) ?_
    refine f_nil ?_
    exact f_ret (.tmp rfl (.tmp rfl (.nil))) rfl
  · skip
    refine o_know 14 rfl (bool_notF h8) ?_
    refine f_op rfl rfl (s_mv (v := .int .i64 x5) rfl) ?_
    refine f_op rfl rfl (s_geq rfl rfl) ?_
    refine f_op rfl rfl (s_pickT (v := .bool (decide (0 ≤ x5))) rfl rfl) ?_
    refine f_op rfl rfl (s_mv (v := .bool (decide (0 ≤ x5))) rfl) ?_
    refine o_if (fun h9 => ?_) (fun h9 => ?_)
    · skip
      refine o_know 18 rfl (dec_true h9) ?_
      refine f_op rfl rfl (s_mv (v := .str a0) rfl) ?_
      refine f_op rfl rfl (s_lenStr rfl Tryz.underlying9 rfl) ?_
      refine f_op rfl rfl (s_leq rfl rfl) ?_
      refine f_op rfl rfl (s_pickT (v := .bool (decide ((a0.size : Int) ≤ 3))) rfl rfl) ?_
      refine f_op rfl rfl (s_mv (v := .bool (decide ((a0.size : Int) ≤ 3))) rfl) ?_
      refine o_if (fun h10 => ?_) (fun h10 => ?_)
      · skip
        refine o_know 23 rfl (dec_true h10) ?_
        refine f_op rfl rfl (s_mv (v := .int .i64 x5) rfl) ?_
        refine o_bind ?_; intro p11 hp11
        refine o_bind ?_; intro x12 hx12
        refine f_op rfl rfl (s_callA happ rfl hp11) ?_
        refine o_know 25 rfl (asStr_eq hx12) ?_
        refine f_op rfl rfl (s_mv (v := .str a0) rfl) ?_
        refine f_op rfl rfl (s_eqStr rfl rfl) ?_
        refine f_op rfl rfl (s_pickT (v := .bool (strEq x12 a0)) rfl rfl) ?_
        refine f_op rfl rfl (s_as (v := .int .i64 x5) rfl) ?_
        refine f_op rfl rfl (s_as (v := .bool (strEq x12 a0)) rfl) ?_
        refine f_nil ?_
        exact f_ret (.tmp rfl (.tmp rfl (.nil))) rfl
      · skip
        refine o_know 23 rfl (dec_false h10) ?_
        refine f_no rfl rfl ?_
        refine f_no rfl rfl ?_
        refine f_no rfl rfl ?_
        refine f_no rfl rfl ?_
        refine f_op rfl rfl (s_pickF (v := .bool false) rfl rfl) ?_
        refine f_op rfl rfl (s_as (v := .int .i64 x5) rfl) ?_
        refine f_op rfl rfl (s_as (v := .bool false) rfl) ?_
        refine f_nil ?_
        exact f_ret (.tmp rfl (.tmp rfl (.nil))) rfl
    · skip
      refine o_know 18 rfl (dec_false h9) ?_
      refine f_no rfl rfl ?_
      refine f_no rfl rfl ?_
      refine f_no rfl rfl ?_
      refine f_op rfl rfl (s_pickF (v := .bool false) rfl rfl) ?_
      refine f_op rfl rfl (s_mv (v := .bool false) rfl) ?_
      refine f_no rfl rfl ?_
      refine f_no rfl rfl ?_
      refine f_no rfl rfl ?_
      refine f_no rfl rfl ?_
      refine f_op rfl rfl (s_pickF (v := .bool false) rfl rfl) ?_
      refine f_op rfl rfl (s_as (v := .int .i64 x5) rfl) ?_
      refine f_op rfl rfl (s_as (v := .bool false) rfl) ?_
      refine f_nil ?_
      exact f_ret (.tmp rfl (.tmp rfl (.nil))) rfl

/- 49 congou/chest.read -/
theorem ok49 : FnOk Tryz.prog 49 := ⟨⟨Tryz.f49, Tryz.func49, by kernel_rfl, rfl⟩⟩
theorem s49_j2 {app : App} (happ : AppSim Tryz.prog app) (kt1 : ByteArray → Nat → Sl → Int → Int → Hp → Option ((Sl × Sl × Bool) × Hp)) (hkt1 : ∀ (v1 : ByteArray) (v2 : Nat) (v3 : Sl) (v4 : Int) (v5 : Int) (H : Hp), Fin Tryz.prog Tryz.f49 ret49 59 (todoAt (bodyOf Tryz.f49) [1, 1, 1, 0, 1, 0, 0] []) [(0, .str v1), (4, .ptr v2 0), (24, .sl v3), (25, .int .i64 v4), (26, .int .i64 v5)] H (kt1 v1 v2 v3 v4 v5 H)) (v1 : ByteArray) (v2 : Nat) (v3 : Bool) (v4 : Sl) (v5 : Int) (v6 : Int) (H : Hp) : Fin Tryz.prog Tryz.f49 ret49 59 (todoAt (bodyOf Tryz.f49) [1, 1, 1, 0, 1, 0, 0, 1, 1, 0, 0, 1, 1] []) [(0, .str v1), (4, .ptr v2 0), (5, .bool v3), (24, .sl v4), (25, .int .i64 v5), (26, .int .i64 v6)] H (r49_j2 app kt1 v1 v2 v3 v4 v5 v6 H) := by
  unfold r49_j2
  refine f_seq ?_
  refine f_region ?_
  refine f_op rfl rfl (s_mv (v := .bool v3) rfl) ?_
  refine f_op rfl rfl (s_not rfl) ?_
  refine f_nil ?_
  refine f_if (fun h1 => ?_) (fun h1 => ?_)
  · skip
    refine f_know 55 rfl (bool_notT h1) ?_
    refine f_condF rfl ?_
    refine f_skip ?_
    refine f_inBlock ?_
    refine f_region ?_
    refine f_op rfl rfl (s_add rfl rfl) ?_
    refine f_op rfl rfl (s_mv (v := .int .i64 (w64 (v6 + 1))) rfl) ?_
    refine f_nil ?_
    refine f_inLoop ?_
    refine f_keep [0, 4, 24, 25, 26] ?_
    exact hkt1 v1 v2 v4 v5 (w64 (v6 + 1)) H
  · skip
    refine f_know 55 rfl (bool_notF h1) ?_
    refine f_condT rfl ?_
    refine f_seq ?_
    refine f_region ?_
    refine f_op rfl rfl (s_build (cs := [.sl ⟨true, 0, 0, 0, 0, 0⟩, .sl ⟨true, 0, 0, 0, 0, 0⟩]) Tryz.underlying84 ty84 rfl pl84 rfl) ?_
    refine o_bind ?_; intro H2 hH2
    refine f_op rfl rfl (s_stores ty84 rfl rfl rfl rfl hH2 (Nat.le_of_eq (sts_mono hH2).symm)) ?_
    refine f_op rfl rfl (s_as (v := .bool false) rfl) ?_
    refine f_nil ?_
    refine f_bind ?_; intro x3 hx3
    refine f_bind ?_; intro x4 hx4
    exact f_ret (.cells Tryz.underlying84 rfl sz84 rfl (lds_cons (ldSl_eq hx3) (lds_cons (ldSl_eq hx4) (lds_nil))) (.tmp rfl (.nil))) rfl

theorem s49_l1 {app : App} (happ : AppSim Tryz.prog app) : ∀ (k_ : Nat) (v1 : ByteArray) (v2 : Nat) (v3 : Sl) (v4 : Int) (v5 : Int) (H : Hp), Fin Tryz.prog Tryz.f49 ret49 59 (todoAt (bodyOf Tryz.f49) [1, 1, 1, 0, 1, 0, 0] []) [(0, .str v1), (4, .ptr v2 0), (24, .sl v3), (25, .int .i64 v4), (26, .int .i64 v5)] H (r49_l1 app k_ v1 v2 v3 v4 v5 H) := by
  intro k_
  induction k_ with
  | zero => intro _ _ _ _ _ _; exact f_none
  | succ k_ ih =>
    intro v1 v2 v3 v4 v5 H
    rw [r49_l1]
    refine f_seq ?_
    refine f_region ?_
    refine f_op rfl rfl (s_lss rfl rfl) ?_
    refine f_nil ?_
    refine f_seq ?_
    refine f_if (fun h1 => ?_) (fun h1 => ?_)
    · skip
      refine f_know 27 rfl (dec_true h1) ?_
      refine f_condT rfl ?_
      refine f_skip ?_
      refine f_seq ?_
      refine f_block ?_
      refine f_seq ?_
      refine f_region ?_
      refine f_op rfl rfl (s_mv (v := .int .i64 v5) rfl) ?_
      refine o_ck fun g2 => ?_
      refine f_op rfl rfl (s_idx Tryz.underlying38 ty9 rfl rfl g2) ?_
      refine o_bind ?_; intro x3 hx3
      refine f_op rfl rfl (s_load Tryz.underlying9 rfl rfl (ldStr_eq hx3)) ?_
      refine f_op rfl rfl (s_as (v := .int .i64 v5) rfl) ?_
      refine f_op rfl rfl (s_as (v := .str x3) rfl) ?_
      refine f_nil ?_
      refine f_seq ?_
      refine f_seq ?_
      refine f_region ?_
      refine f_op rfl rfl (s_mv (v := .str v1) rfl) ?_
      refine f_op rfl rfl (s_mv (v := .int .i64 v5) rfl) ?_
      refine o_ck fun g4 => ?_
      refine f_op rfl rfl (s_indexStr Tryz.underlying9 rfl rfl g4) ?_
      refine f_op rfl rfl (s_eql rfl rfl) ?_
      refine f_nil ?_
      refine f_if (fun h5 => ?_) (fun h5 => ?_)
      · skip
        refine f_know 34 rfl (dec_true h5) ?_
        refine f_condT rfl ?_
        refine f_seq ?_
        refine f_region ?_
        refine f_op rfl rfl (s_fieldAddr Tryz.underlying84 rfl ty38 rfl) ?_
        refine o_bind ?_; intro x6 hx6
        refine f_op rfl rfl (s_load Tryz.underlying38 rfl rfl (ldSl_eq hx6)) ?_
        refine f_op rfl rfl (s_mv (v := .str x3) rfl) ?_
        refine f_op rfl rfl (s_buildSlice (cs := [.str x3]) Tryz.underlying38 ty9 (by decide) (by decide) rfl (by decide) rfl) ?_
        refine o_bind ?_; intro x7 hx7
        refine f_op rfl rfl (s_ap rfl rfl Tryz.underlying38 Tryz.underlying38 ty9 rfl rfl rfl rfl rfl rfl rfl hx7) ?_
        refine f_op rfl rfl (s_fieldAddr Tryz.underlying84 rfl ty38 rfl) ?_
        refine o_bind ?_; intro H8 hH8
        refine f_op rfl rfl (s_store (s := 1) ty38 rfl rfl rfl hH8) ?_
        refine f_nil ?_
        refine f_region ?_
        refine f_op rfl rfl (s_mv (v := .str x3) rfl) ?_
        refine o_bind ?_; intro p9 hp9
        refine f_op rfl rfl (s_callF rfl ok81 (sim81 hp9)) ?_
        refine f_op rfl rfl (s_as (v := .bool p9.1) rfl) ?_
        refine f_nil ?_
        refine f_keep [0, 4, 5, 24, 25, 26] ?_
        exact s49_j2 happ _ (fun v1_ v2_ v3_ v4_ v5_ H_ => ih v1_ v2_ v3_ v4_ v5_ H_) v1 v2 p9.1 v3 v4 v5 p9.2
      · skip
        refine f_know 34 rfl (dec_false h5) ?_
        refine f_condF rfl ?_
        refine f_seq ?_
        refine f_region ?_
        refine f_op rfl rfl (s_as (v := .int .i64 0) rfl) ?_
        refine f_nil ?_
        refine f_seq ?_
        refine f_region ?_
        refine f_op rfl rfl (s_mv (v := .str x3) rfl) ?_
        refine o_bind ?_; intro p10 hp10
        refine f_op rfl rfl (s_callF rfl ok82 (sim82 happ hp10)) ?_
        refine f_op rfl rfl (s_mv (v := .tup [.int .i64 p10.1.1, .bool p10.1.2]) rfl) ?_
        refine f_op rfl rfl (s_extract (r := .int .i64 p10.1.1) rfl rfl) ?_
        refine f_op rfl rfl (s_extract (r := .bool p10.1.2) rfl rfl) ?_
        refine f_op rfl rfl (s_as (v := .int .i64 p10.1.1) rfl) ?_
        refine f_op rfl rfl (s_as (v := .bool p10.1.2) rfl) ?_
        refine f_nil ?_
        refine f_region ?_
        refine f_op rfl rfl (s_fieldAddr Tryz.underlying84 rfl ty30 rfl) ?_
        refine o_bind ?_; intro x11 hx11
        refine f_op rfl rfl (s_load Tryz.underlying30 rfl rfl (ldSl_eq hx11)) ?_
        refine f_op rfl rfl (s_mv (v := .int .i64 p10.1.1) rfl) ?_
        refine f_op rfl rfl (s_buildSlice (cs := [.int .i64 p10.1.1]) Tryz.underlying30 ty3 (by decide) (by decide) rfl (by decide) rfl) ?_
        refine o_bind ?_; intro x12 hx12
        refine f_op rfl rfl (s_ap rfl rfl Tryz.underlying30 Tryz.underlying30 ty3 rfl rfl rfl rfl rfl rfl rfl hx12) ?_
        refine f_op rfl rfl (s_fieldAddr Tryz.underlying84 rfl ty30 rfl) ?_
        refine o_bind ?_; intro H13 hH13
        refine f_op rfl rfl (s_store (s := 1) ty30 rfl rfl rfl hH13) ?_
        refine f_nil ?_
        refine f_keep [0, 4, 5, 24, 25, 26] ?_
        exact s49_j2 happ _ (fun v1_ v2_ v3_ v4_ v5_ H_ => ih v1_ v2_ v3_ v4_ v5_ H_) v1 v2 p10.1.2 v3 v4 v5 H13
    · skip
      refine f_know 27 rfl (dec_false h1) ?_
      refine f_condF rfl ?_
      refine f_exit rfl ?_
      refine f_seq ?_
      refine f_region ?_
      refine o_bind ?_; intro x14 hx14
      refine o_bind ?_; intro x15 hx15
      refine f_op rfl rfl (s_loads Tryz.underlying84 rfl ty84 rfl (lds_cons (ldSl_eq hx14) (lds_cons (ldSl_eq hx15) (lds_nil)))) ?_
      refine o_bind ?_; intro H16 hH16
      refine f_op rfl rfl (s_stores ty84 rfl rfl rfl rfl hH16 (Nat.le_of_eq (sts_mono hH16).symm)) ?_
      refine f_op rfl rfl (s_as (v := .bool true) rfl) ?_
      refine f_nil ?_
      refine f_bind ?_; intro x17 hx17
      refine f_bind ?_; intro x18 hx18
      exact f_ret (.cells Tryz.underlying84 rfl sz84 rfl (lds_cons (ldSl_eq hx17) (lds_cons (ldSl_eq hx18) (lds_nil))) (.tmp rfl (.nil))) rfl

theorem s49_j0 {app : App} (happ : AppSim Tryz.prog app) (v1 : ByteArray) (v2 : Nat) (v3 : Sl) (v4 : Bool) (H : Hp) : Fin Tryz.prog Tryz.f49 ret49 59 (todoAt (bodyOf Tryz.f49) [1, 1, 0, 1] []) [(0, .str v1), (4, .ptr v2 0), (6, .sl v3), (22, .bool v4)] H (r49_j0 app v1 v2 v3 v4 H) := by
  unfold r49_j0
  refine f_if (fun h1 => ?_) (fun h1 => ?_)
  · skip
    refine f_know 22 rfl (bool_T h1) ?_
    refine f_condT rfl ?_
    refine f_seq ?_
    refine f_region ?_
    refine f_op rfl rfl (s_build (cs := [.sl ⟨true, 0, 0, 0, 0, 0⟩, .sl ⟨true, 0, 0, 0, 0, 0⟩]) Tryz.underlying84 ty84 rfl pl84 rfl) ?_
    refine o_bind ?_; intro H2 hH2
    refine f_op rfl rfl (s_stores ty84 rfl rfl rfl rfl hH2 (Nat.le_of_eq (sts_mono hH2).symm)) ?_
    refine f_op rfl rfl (s_as (v := .bool false) rfl) ?_
    refine f_nil ?_
    refine f_bind ?_; intro x3 hx3
    refine f_bind ?_; intro x4 hx4
    exact f_ret (.cells Tryz.underlying84 rfl sz84 rfl (lds_cons (ldSl_eq hx3) (lds_cons (ldSl_eq hx4) (lds_nil))) (.tmp rfl (.nil))) rfl
  · skip
    refine f_know 22 rfl (bool_F h1) ?_
    refine f_condF rfl ?_
    refine f_skip ?_
    refine f_seq ?_
    refine f_seq ?_
    refine f_region ?_
    refine f_op rfl rfl (s_mv (v := .sl v3) rfl) ?_
    refine f_op rfl rfl (s_lenS rfl Tryz.underlying38 rfl) ?_
    refine f_op rfl rfl (s_mv (v := .int .i64 0) rfl) ?_
    refine f_nil ?_
    refine f_block ?_
    refine f_loop ?_
    refine f_keep [0, 4, 24, 25, 26] ?_
    exact s49_l1 happ FUEL v1 v2 v3 (v3.len : Int) 0 H

theorem sim49 {app : App} (happ : AppSim Tryz.prog app) {a0 : ByteArray} {a1 : ByteArray} {H : Hp} {p : (Sl × Sl × Bool) × Hp} (h : r49 app a0 a1 H = some p) : CallSim Tryz.prog 49 [.str a0, .str a1] H (.tup [.agg [.sl p.1.1, .sl p.1.2.1], .bool p.1.2.2]) p.2 := by
  refine callSim (fn := Tryz.f49) (ret := ret49) Tryz.func49 rfl Tryz.ntmps49 rfl ?_ h
  unfold r49
  refine f_seq ?_
  refine f_region ?_
  refine f_op rfl rfl (s_alloc (zs := [.sl ⟨true, 0, 0, 0, 0, 0⟩, .sl ⟨true, 0, 0, 0, 0, 0⟩]) ty84 rfl rfl) ?_
  refine f_op rfl rfl (s_as (v := .bool false) rfl) ?_
  refine o_hp ?_; intro H1 hH1
  refine f_nil ?_
  refine f_seq ?_
  refine f_region ?_
  refine f_op rfl rfl (s_mv (v := .str a1) rfl) ?_
  refine o_bind ?_; intro p2 hp2
  refine f_op rfl rfl (s_callF rfl ok79 (sim79 hp2)) ?_
  refine o_ck fun g3 => ?_
  refine f_op rfl rfl (s_slice Tryz.underlying38 ty9 rfl rfl rfl g3.1 g3.2) ?_
  refine f_op rfl rfl (s_as (v := .sl (p2.1.cut 1 (1 : Int).toNat ((p2.1.len : Int) : Int).toNat)) rfl) ?_
  refine f_nil ?_
  refine f_seq ?_
  refine f_seq ?_
  refine f_region ?_
  refine f_op rfl rfl (s_mv (v := .sl (p2.1.cut 1 (1 : Int).toNat ((p2.1.len : Int) : Int).toNat)) rfl) ?_
  refine f_op rfl rfl (s_lenS rfl Tryz.underlying38 rfl) ?_
  refine f_op rfl rfl (s_mv (v := .str a0) rfl) ?_
  refine f_op rfl rfl (s_lenStr rfl Tryz.underlying9 rfl) ?_
  refine f_op rfl rfl (s_neq rfl rfl) ?_
  refine f_op rfl rfl (s_mv (v := .bool (decide (((p2.1.cut 1 (1 : Int).toNat ((p2.1.len : Int) : Int).toNat).len : Int) ≠ (a0.size : Int)))) rfl) ?_
  refine o_if (fun h4 => ?_) (fun h4 => ?_)
  · skip
    refine o_know 18 rfl (dec_true h4) ?_
    refine f_no rfl rfl ?_
    refine f_no rfl rfl ?_
    refine f_no rfl rfl ?_
    refine f_op rfl rfl (s_pickT (v := .bool true) rfl rfl) ?_
    refine f_nil ?_
    refine f_keep [0, 4, 6, 22] ?_
    exact s49_j0 happ a0 H.n (p2.1.cut 1 (1 : Int).toNat ((p2.1.len : Int) : Int).toNat) true p2.2
  · skip
    refine o_know 18 rfl (dec_false h4) ?_
    refine f_op rfl rfl (s_mv (v := .str a1) rfl) ?_
    refine o_bind ?_; intro p5 hp5
    refine f_op rfl rfl (s_callF rfl ok80 (sim80 happ hp5)) ?_
    refine f_op rfl rfl (s_not rfl) ?_
    refine f_op rfl rfl (s_pickF (v := .bool (!p5.1)) rfl rfl) ?_
    refine f_nil ?_
    refine f_keep [0, 4, 6, 22] ?_
    exact s49_j0 happ a0 H.n (p2.1.cut 1 (1 : Int).toNat ((p2.1.len : Int) : Int).toNat) (!p5.1) p5.2

/- 34 (*congou/chest.state).do -/
theorem ok34 : FnOk Tryz.prog 34 := ⟨⟨Tryz.f34, Tryz.func34, by kernel_rfl, rfl⟩⟩
theorem s34_j0 {app : App} (happ : AppSim Tryz.prog app) (v1 : Nat) (v2 : Nat) (v3 : ByteArray) (v4 : ByteArray) (v5 : Nat) (v6 : Nat) (v7 : ByteArray) (v8 : AV) (H : Hp) : Fin Tryz.prog Tryz.f34 ret34 64 (todoAt (bodyOf Tryz.f34) [1, 1, 1, 1, 1] []) [(0, .ptr v1 v2), (1, .str v3), (7, .str v4), (10, .ptr v5 v6), (11, .str v7), (12, v8)] H (r34_j0 app v1 v2 v3 v4 v5 v6 v7 v8 H) := by
  unfold r34_j0
  refine f_seq ?_
  refine f_region ?_
  refine f_op rfl rfl (s_mv (v := .str v7) rfl) ?_
  refine f_op rfl rfl (s_mv (v := .str v3) rfl) ?_
  refine o_bind ?_; intro p1 hp1
  refine f_op rfl rfl (s_callF rfl ok49 (sim49 happ hp1)) ?_
  refine f_op rfl rfl (s_mv (v := .tup [.agg [.sl p1.1.1, .sl p1.1.2.1], .bool p1.1.2.2]) rfl) ?_
  refine f_op rfl rfl (s_extract (r := .agg [.sl p1.1.1, .sl p1.1.2.1]) rfl rfl) ?_
  refine f_op rfl rfl (s_extract (r := .bool p1.1.2.2) rfl rfl) ?_
  refine f_op rfl rfl (s_alloc (zs := [.sl ⟨true, 0, 0, 0, 0, 0⟩, .sl ⟨true, 0, 0, 0, 0, 0⟩]) ty84 rfl rfl) ?_
  refine o_bind ?_; intro H2 hH2
  refine f_op rfl rfl (s_stores ty84 rfl rfl rfl rfl hH2 (Nat.le_of_eq (sts_mono hH2).symm)) ?_
  refine f_op rfl rfl (s_as (v := .bool p1.1.2.2) rfl) ?_
  refine f_nil ?_
  refine f_seq ?_
  refine f_seq ?_
  refine f_region ?_
  refine f_op rfl rfl (s_mv (v := .bool p1.1.2.2) rfl) ?_
  refine f_op rfl rfl (s_not rfl) ?_
  refine f_nil ?_
  refine f_if (fun h3 => ?_) (fun h3 => ?_)
  · skip
    refine f_know 53 rfl (bool_notT h3) ?_
    refine f_condF rfl ?_
    refine f_skip ?_
    refine f_seq ?_
    refine f_seq ?_
    refine f_region ?_
    refine f_op rfl rfl (s_mv (v := v8) rfl) ?_
    refine o_bind ?_; intro x4 hx4
    refine o_bind ?_; intro x5 hx5
    refine f_op rfl rfl (s_loads Tryz.underlying84 rfl ty84 rfl (lds_cons (ldSl_eq hx4) (lds_cons (ldSl_eq hx5) (lds_nil)))) ?_
    refine o_bind ?_; intro p6 hp6
    refine o_bind ?_; intro x7 hx7
    refine f_op rfl rfl (s_callv happ rfl rfl hp6) ?_
    refine o_know 57 rfl (asI_eq hx7) ?_
    refine f_op rfl rfl (s_as (v := .int .i64 x7) rfl) ?_
    refine f_nil ?_
    refine f_seq ?_
    refine f_region ?_
    refine f_op rfl rfl (s_mv (v := .int .i64 x7) rfl) ?_
    refine f_op rfl rfl (s_neq rfl rfl) ?_
    refine f_nil ?_
    refine f_if (fun h8 => ?_) (fun h8 => ?_)
    · skip
      refine f_know 59 rfl (dec_true h8) ?_
      refine f_condT rfl ?_
      refine f_seq ?_
      refine f_region ?_
      refine f_op rfl rfl (s_mv (v := .ptr v1 v2) rfl) ?_
      refine f_op rfl rfl (s_mv (v := .int .i64 x7) rfl) ?_
      refine f_op rfl rfl (s_as (v := .ptr v1 v2) rfl) ?_
      refine f_op rfl rfl (s_as (v := .str (ByteArray.mk #[])) rfl) ?_
      refine f_op rfl rfl (s_as (v := .int .i64 x7) rfl) ?_
      refine f_nil ?_
      exact f_ret (.tmp rfl (.tmp rfl (.tmp rfl (.nil)))) rfl
    · skip
      refine f_know 59 rfl (dec_false h8) ?_
      refine f_condF rfl ?_
      refine f_skip ?_
      refine f_seq ?_
      refine f_region ?_
      refine f_op rfl rfl (s_mv (v := .ptr v5 v6) rfl) ?_
      refine f_op rfl rfl (s_mv (v := .str v4) rfl) ?_
      refine f_op rfl rfl (s_as (v := .ptr v5 v6) rfl) ?_
      refine f_op rfl rfl (s_as (v := .str v4) rfl) ?_
      refine f_op rfl rfl (s_as (v := .int .i64 0) rfl) ?_
      refine f_nil ?_
      exact f_ret (.tmp rfl (.tmp rfl (.tmp rfl (.nil)))) rfl
  · skip
    refine f_know 53 rfl (bool_notF h3) ?_
    refine f_condT rfl ?_
    refine f_seq ?_
    refine f_region ?_
    refine f_op rfl rfl (s_mv (v := .ptr v1 v2) rfl) ?_
    refine f_op rfl rfl (s_as (v := .ptr v1 v2) rfl) ?_
    refine f_op rfl rfl (s_as (v := .str (ByteArray.mk #[])) rfl) ?_
    refine f_op rfl rfl (s_as (v := .int .i64 3) rfl) ?_
    refine f_nil ?_
    exact f_ret (.tmp rfl (.tmp rfl (.tmp rfl (.nil)))) rfl

theorem sim34 {app : App} (happ : AppSim Tryz.prog app) {a0b : Nat} {a0o : Nat} {a1 : ByteArray} {H : Hp} {p : (Nat × Nat × ByteArray × Int) × Hp} (h : r34 app a0b a0o a1 H = some p) : CallSim Tryz.prog 34 [.ptr a0b a0o, .str a1] H (.tup [.ptr p.1.1 p.1.2.1, .str p.1.2.2.1, .int .i64 p.1.2.2.2]) p.2 := by
  refine callSim (fn := Tryz.f34) (ret := ret34) Tryz.func34 rfl Tryz.ntmps34 rfl ?_ h
  unfold r34
  refine f_seq ?_
  refine f_region ?_
  refine f_op rfl rfl (s_as (v := .nilptr) rfl) ?_
  refine f_op rfl rfl (s_as (v := .str (ByteArray.mk #[])) rfl) ?_
  refine f_op rfl rfl (s_as (v := .int .i64 0) rfl) ?_
  refine f_nil ?_
  refine f_seq ?_
  refine f_region ?_
  refine f_op rfl rfl (s_mv (v := .str a1) rfl) ?_
  refine o_bind ?_; intro p1 hp1
  refine f_op rfl rfl (s_callF rfl ok42 (sim42 hp1)) ?_
  refine f_op rfl rfl (s_mv (v := .tup [.str p1.1.1, .str p1.1.2.1, .bool p1.1.2.2]) rfl) ?_
  refine f_op rfl rfl (s_extract (r := .str p1.1.1) rfl rfl) ?_
  refine f_op rfl rfl (s_extract (r := .str p1.1.2.1) rfl rfl) ?_
  refine f_op rfl rfl (s_extract (r := .bool p1.1.2.2) rfl rfl) ?_
  refine f_op rfl rfl (s_as (v := .str p1.1.1) rfl) ?_
  refine f_op rfl rfl (s_as (v := .str p1.1.2.1) rfl) ?_
  refine f_op rfl rfl (s_as (v := .bool p1.1.2.2) rfl) ?_
  refine f_nil ?_
  refine f_seq ?_
  refine f_region ?_
  refine f_op rfl rfl (s_mv (v := .ptr a0b a0o) rfl) ?_
  refine o_bind ?_; intro p2 hp2
  refine f_op rfl rfl (s_callF rfl ok43 (sim43 hp2)) ?_
  refine f_op rfl rfl (s_as (v := .ptr p2.1.1 p2.1.2) rfl) ?_
  refine f_nil ?_
  refine f_seq ?_
  refine f_region ?_
  refine f_op rfl rfl (s_mv (v := .ptr p2.1.1 p2.1.2) rfl) ?_
  refine f_op rfl rfl (s_makeFunc rfl rfl) ?_
  refine f_op rfl rfl (s_as (v := .str (ByteArray.mk #[])) rfl) ?_
  refine f_op rfl rfl (s_as (v := .fn 44 [.ptr p2.1.1 p2.1.2] []) rfl) ?_
  refine f_nil ?_
  refine f_seq ?_
  refine f_seq ?_
  refine f_region ?_
  refine f_op rfl rfl (s_mv (v := .str p1.1.1) rfl) ?_
  refine f_nil ?_
  refine f_block ?_
  refine f_seq ?_
  refine f_region ?_
  refine f_op rfl rfl (s_eqStr rfl rfl) ?_
  refine f_op rfl rfl (s_as (v := .bool (strEq p1.1.1 (ByteArray.mk #[108, 101, 97, 102]))) rfl) ?_
  refine f_nil ?_
  refine f_if (fun h3 => ?_) (fun h3 => ?_)
  · skip
    refine f_know 28 rfl (bool_T h3) ?_
    refine f_condT rfl ?_
    refine f_region ?_
    refine f_op rfl rfl (s_as (v := .str (ByteArray.mk #[110, 100])) rfl) ?_
    refine f_nil ?_
    refine f_inBlock ?_
    refine f_keep [0, 1, 7, 10, 11, 12] ?_
    exact s34_j0 happ a0b a0o a1 p1.1.1 p2.1.1 p2.1.2 (ByteArray.mk #[110, 100]) (.fn 44 [.ptr p2.1.1 p2.1.2] []) p2.2
  · skip
    refine f_know 28 rfl (bool_F h3) ?_
    refine f_condF rfl ?_
    refine f_seq ?_
    refine f_region ?_
    refine f_op rfl rfl (s_eqStr rfl rfl) ?_
    refine f_op rfl rfl (s_as (v := .bool (strEq p1.1.1 (ByteArray.mk #[103, 105, 118, 101]))) rfl) ?_
    refine f_nil ?_
    refine f_if (fun h4 => ?_) (fun h4 => ?_)
    · skip
      refine f_know 30 rfl (bool_T h4) ?_
      refine f_condT rfl ?_
      refine f_region ?_
      refine f_op rfl rfl (s_mv (v := .ptr p2.1.1 p2.1.2) rfl) ?_
      refine f_op rfl rfl (s_makeFunc rfl rfl) ?_
      refine f_op rfl rfl (s_as (v := .str (ByteArray.mk #[110, 110, 100])) rfl) ?_
      refine f_op rfl rfl (s_as (v := .fn 45 [.ptr p2.1.1 p2.1.2] []) rfl) ?_
      refine f_nil ?_
      refine f_inBlock ?_
      refine f_keep [0, 1, 7, 10, 11, 12] ?_
      exact s34_j0 happ a0b a0o a1 p1.1.1 p2.1.1 p2.1.2 (ByteArray.mk #[110, 110, 100]) (.fn 45 [.ptr p2.1.1 p2.1.2] []) p2.2
    · skip
      refine f_know 30 rfl (bool_F h4) ?_
      refine f_condF rfl ?_
      refine f_seq ?_
      refine f_region ?_
      refine f_op rfl rfl (s_eqStr rfl rfl) ?_
      refine f_op rfl rfl (s_as (v := .bool (strEq p1.1.1 (ByteArray.mk #[111, 114, 100, 101, 114]))) rfl) ?_
      refine f_nil ?_
      refine f_if (fun h5 => ?_) (fun h5 => ?_)
      · skip
        refine f_know 34 rfl (bool_T h5) ?_
        refine f_condT rfl ?_
        refine f_region ?_
        refine f_op rfl rfl (s_mv (v := .ptr p2.1.1 p2.1.2) rfl) ?_
        refine f_op rfl rfl (s_makeFunc rfl rfl) ?_
        refine f_op rfl rfl (s_as (v := .str (ByteArray.mk #[110])) rfl) ?_
        refine f_op rfl rfl (s_as (v := .fn 46 [.ptr p2.1.1 p2.1.2] []) rfl) ?_
        refine f_nil ?_
        refine f_inBlock ?_
        refine f_keep [0, 1, 7, 10, 11, 12] ?_
        exact s34_j0 happ a0b a0o a1 p1.1.1 p2.1.1 p2.1.2 (ByteArray.mk #[110]) (.fn 46 [.ptr p2.1.1 p2.1.2] []) p2.2
      · skip
        refine f_know 34 rfl (bool_F h5) ?_
        refine f_condF rfl ?_
        refine f_seq ?_
        refine f_region ?_
        refine f_op rfl rfl (s_eqStr rfl rfl) ?_
        refine f_op rfl rfl (s_as (v := .bool (strEq p1.1.1 (ByteArray.mk #[116, 97, 115, 116, 101]))) rfl) ?_
        refine f_nil ?_
        refine f_if (fun h6 => ?_) (fun h6 => ?_)
        · skip
          refine f_know 38 rfl (bool_T h6) ?_
          refine f_condT rfl ?_
          refine f_region ?_
          refine f_op rfl rfl (s_mv (v := .ptr p2.1.1 p2.1.2) rfl) ?_
          refine f_op rfl rfl (s_makeFunc rfl rfl) ?_
          refine f_op rfl rfl (s_as (v := .str (ByteArray.mk #[100, 100])) rfl) ?_
          refine f_op rfl rfl (s_as (v := .fn 47 [.ptr p2.1.1 p2.1.2] []) rfl) ?_
          refine f_nil ?_
          refine f_inBlock ?_
          refine f_keep [0, 1, 7, 10, 11, 12] ?_
          exact s34_j0 happ a0b a0o a1 p1.1.1 p2.1.1 p2.1.2 (ByteArray.mk #[100, 100]) (.fn 47 [.ptr p2.1.1 p2.1.2] []) p2.2
        · skip
          refine f_know 38 rfl (bool_F h6) ?_
          refine f_condF rfl ?_
          refine f_seq ?_
          refine f_region ?_
          refine f_op rfl rfl (s_eqStr rfl rfl) ?_
          refine f_op rfl rfl (s_as (v := .bool (strEq p1.1.1 (ByteArray.mk #[111, 102, 102, 101, 114]))) rfl) ?_
          refine f_nil ?_
          refine f_if (fun h7 => ?_) (fun h7 => ?_)
          · skip
            refine f_know 42 rfl (bool_T h7) ?_
            refine f_condT rfl ?_
            refine f_region ?_
            refine f_op rfl rfl (s_mv (v := .ptr p2.1.1 p2.1.2) rfl) ?_
            refine f_op rfl rfl (s_makeFunc rfl rfl) ?_
            refine f_op rfl rfl (s_as (v := .str (ByteArray.mk #[100, 100])) rfl) ?_
            refine f_op rfl rfl (s_as (v := .fn 48 [.ptr p2.1.1 p2.1.2] []) rfl) ?_
            refine f_nil ?_
            refine f_inBlock ?_
            refine f_keep [0, 1, 7, 10, 11, 12] ?_
            exact s34_j0 happ a0b a0o a1 p1.1.1 p2.1.1 p2.1.2 (ByteArray.mk #[100, 100]) (.fn 48 [.ptr p2.1.1 p2.1.2] []) p2.2
          · skip
            refine f_know 42 rfl (bool_F h7) ?_
            refine f_condF rfl ?_
            refine f_seq ?_
            refine f_region ?_
            refine f_op rfl rfl (s_mv (v := .ptr a0b a0o) rfl) ?_
            refine f_op rfl rfl (s_as (v := .ptr a0b a0o) rfl) ?_
            refine f_op rfl rfl (s_as (v := .str (ByteArray.mk #[])) rfl) ?_
            refine f_op rfl rfl (s_as (v := .int .i64 3) rfl) ?_
            refine f_nil ?_
            exact f_ret (.tmp rfl (.tmp rfl (.tmp rfl (.nil)))) rfl

/- 50 slices.IndexFunc[[]congou/chest.page,congou/chest.page] -/
theorem ok50 : FnOk Tryz.prog 50 := ⟨⟨Tryz.f50, Tryz.func50, by kernel_rfl, rfl⟩⟩
theorem s50_l0 {app : App} (happ : AppSim Tryz.prog app) : ∀ (k_ : Nat) (v1 : Sl) (v2 : AV) (v3 : Int) (v4 : Int) (H : Hp), Fin Tryz.prog Tryz.f50 ret50 19 (todoAt (bodyOf Tryz.f50) [1, 0, 1, 0, 0] []) [(0, .sl v1), (1, v2), (7, .int .i64 v3), (8, .int .i64 v4)] H (r50_l0 app k_ v1 v2 v3 v4 H) := by
  intro k_
  induction k_ with
  | zero => intro _ _ _ _ _; exact f_none
  | succ k_ ih =>
    intro v1 v2 v3 v4 H
    rw [r50_l0]
    refine f_seq ?_
    refine f_region ?_
    refine f_op rfl rfl (s_lss rfl rfl) ?_
    refine f_nil ?_
    refine f_seq ?_
    refine f_if (fun h1 => ?_) (fun h1 => ?_)
    · skip
      refine f_know 9 rfl (dec_true h1) ?_
      refine f_condT rfl ?_
      refine f_skip ?_
      refine f_seq ?_
      refine f_block ?_
      refine f_seq ?_
      refine f_region ?_
      refine f_op rfl rfl (s_mv (v := .int .i64 v4) rfl) ?_
      refine f_op rfl rfl (s_as (v := .int .i64 v4) rfl) ?_
      refine f_nil ?_
      refine f_seq ?_
      refine f_region ?_
      refine f_op rfl rfl (s_mv (v := v2) rfl) ?_
      refine f_op rfl rfl (s_mv (v := .sl v1) rfl) ?_
      refine f_op rfl rfl (s_mv (v := .int .i64 v4) rfl) ?_
      refine o_ck fun g2 => ?_
      refine f_op rfl rfl (s_idx Tryz.underlying54 ty71 rfl rfl g2) ?_
      refine o_bind ?_; intro x3 hx3
      refine o_bind ?_; intro x4 hx4
      refine o_bind ?_; intro x5 hx5
      refine f_op rfl rfl (s_loads Tryz.underlying71 rfl ty71 rfl (lds_cons (ldStr_eq hx3) (lds_cons (ldI_eq hx4) (lds_cons (ldP_eq hx5) (lds_nil))))) ?_
      refine o_bind ?_; intro p6 hp6
      refine o_bind ?_; intro x7 hx7
      refine f_op rfl rfl (s_callv happ rfl rfl hp6) ?_
      refine o_know 16 rfl (asB_eq hx7) ?_
      refine f_nil ?_
      refine f_if (fun h8 => ?_) (fun h8 => ?_)
      · skip
        refine f_know 16 rfl (bool_T h8) ?_
        refine f_condT rfl ?_
        refine f_seq ?_
        refine f_region ?_
        refine f_op rfl rfl (s_mv (v := .int .i64 v4) rfl) ?_
        refine f_op rfl rfl (s_as (v := .int .i64 v4) rfl) ?_
        refine f_nil ?_
        exact f_ret (.tmp rfl (.nil)) rfl
      · skip
        refine f_know 16 rfl (bool_F h8) ?_
        refine f_condF rfl ?_
        refine f_skip ?_
        refine f_inBlock ?_
        refine f_region ?_
        refine f_op rfl rfl (s_add rfl rfl) ?_
        refine f_op rfl rfl (s_mv (v := .int .i64 (w64 (v4 + 1))) rfl) ?_
        refine f_nil ?_
        refine f_inLoop ?_
        refine f_keep [0, 1, 7, 8] ?_
        exact ih v1 v2 v3 (w64 (v4 + 1)) p6.2
    · skip
      refine f_know 9 rfl (dec_false h1) ?_
      refine f_condF rfl ?_
      refine f_exit rfl ?_
      refine f_seq ?_
      refine f_region ?_
      refine f_op rfl rfl (s_as (v := .int .i64 (-1)) rfl) ?_
      refine f_nil ?_
      exact f_ret (.tmp rfl (.nil)) rfl

theorem sim50 {app : App} (happ : AppSim Tryz.prog app) {a0 : Sl} {a1 : AV} {H : Hp} {p : Int × Hp} (h : r50 app a0 a1 H = some p) : CallSim Tryz.prog 50 [.sl a0, a1] H (.int .i64 p.1) p.2 := by
  refine callSim (fn := Tryz.f50) (ret := ret50) Tryz.func50 rfl Tryz.ntmps50 rfl ?_ h
  unfold r50
  refine f_seq ?_
  refine f_region ?_
  refine f_op rfl rfl (s_as (v := .int .i64 0) rfl) ?_
  refine f_nil ?_
  refine f_seq ?_
  refine f_seq ?_
  refine f_region ?_
  refine f_op rfl rfl (s_mv (v := .sl a0) rfl) ?_
  refine f_op rfl rfl (s_lenS rfl Tryz.underlying54 rfl) ?_
  refine f_op rfl rfl (s_mv (v := .int .i64 0) rfl) ?_
  refine f_nil ?_
  refine f_block ?_
  refine f_loop ?_
  refine f_keep [0, 1, 7, 8] ?_
  exact s50_l0 happ FUEL a0 a1 (a0.len : Int) 0 H

/- 35 (*congou/chest.Chest).child -/
theorem ok35 : FnOk Tryz.prog 35 := ⟨⟨Tryz.f35, Tryz.func35, by kernel_rfl, rfl⟩⟩
theorem sim35 {app : App} (happ : AppSim Tryz.prog app) {a0b : Nat} {a0o : Nat} {a1 : Int} {a2 : ByteArray} {H : Hp} {p : Int × Hp} (h : r35 app a0b a0o a1 a2 H = some p) : CallSim Tryz.prog 35 [.ptr a0b a0o, .int .i64 a1, .str a2] H (.int .i64 p.1) p.2 := by
  refine callSim (fn := Tryz.f35) (ret := ret35) Tryz.func35 rfl Tryz.ntmps35 rfl ?_ h
  unfold r35
  refine f_seq ?_
  refine f_region ?_
  refine f_op rfl rfl (s_box1 (v := .int .i64 a1) rfl rfl) ?_
  refine f_op rfl rfl (s_box1 (v := .str a2) rfl rfl) ?_
  refine f_op rfl rfl (s_as (v := .int .i64 0) rfl) ?_
  refine o_hp ?_; intro H1 hH1
  refine f_nil ?_
  refine f_seq ?_
  refine f_region ?_
  refine f_op rfl rfl (s_mv (v := .ptr a0b a0o) rfl) ?_
  refine f_op rfl rfl (s_nilCheck rfl) ?_
  refine f_op rfl rfl (s_fieldAddr Tryz.underlying56 rfl ty54 rfl) ?_
  refine o_bind ?_; intro x2 hx2
  refine f_op rfl rfl (s_load Tryz.underlying54 rfl rfl (ldSl_eq hx2)) ?_
  refine f_op rfl rfl (s_makeFunc rfl rfl) ?_
  refine o_bind ?_; intro p3 hp3
  refine f_op rfl rfl (s_callF rfl ok50 (sim50 happ hp3)) ?_
  refine f_op rfl rfl (s_as (v := .int .i64 p3.1) rfl) ?_
  refine f_nil ?_
  exact f_ret (.tmp rfl (.nil)) rfl

/- 18 (*congou/chest.Chest).Do -/
theorem ok18 : FnOk Tryz.prog 18 := ⟨⟨Tryz.f18, Tryz.func18, by kernel_rfl, rfl⟩⟩
theorem s18_j0 {app : App} (happ : AppSim Tryz.prog app) (v1 : Nat) (v2 : Nat) (v3 : ByteArray) (v4 : Int) (H : Hp) : Fin Tryz.prog Tryz.f18 ret18 66 (todoAt (bodyOf Tryz.f18) [1, 1, 1, 1, 1, 1] []) [(0, .ptr v1 v2), (7, .str v3), (9, .int .i64 v4)] H (r18_j0 app v1 v2 v3 v4 H) := by
  unfold r18_j0
  refine f_seq ?_
  refine f_region ?_
  refine f_op rfl rfl (s_mv (v := .ptr v1 v2) rfl) ?_
  refine f_op rfl rfl (s_mv (v := .int .i64 v4) rfl) ?_
  refine f_op rfl rfl (s_nilCheck rfl) ?_
  refine f_op rfl rfl (s_fieldAddr Tryz.underlying56 rfl ty3 rfl) ?_
  refine o_bind ?_; intro H1 hH1
  refine f_op rfl rfl (s_store (s := 1) ty3 rfl rfl rfl hH1) ?_
  refine f_nil ?_
  refine f_seq ?_
  refine f_region ?_
  refine f_op rfl rfl (s_mv (v := .str v3) rfl) ?_
  refine f_op rfl rfl (s_as (v := .str v3) rfl) ?_
  refine f_op rfl rfl (s_as (v := .int .i64 0) rfl) ?_
  refine f_nil ?_
  exact f_ret (.tmp rfl (.tmp rfl (.nil))) rfl

theorem sim18 {app : App} (happ : AppSim Tryz.prog app) {a0b : Nat} {a0o : Nat} {a1 : ByteArray} {H : Hp} {p : (ByteArray × Int) × Hp} (h : r18 app a0b a0o a1 H = some p) : CallSim Tryz.prog 18 [.ptr a0b a0o, .str a1] H (.tup [.str p.1.1, .int .i64 p.1.2]) p.2 := by
  refine callSim (fn := Tryz.f18) (ret := ret18) Tryz.func18 rfl Tryz.ntmps18 rfl ?_ h
  unfold r18
  refine f_seq ?_
  refine f_region ?_
  refine f_op rfl rfl (s_as (v := .str (ByteArray.mk #[])) rfl) ?_
  refine f_op rfl rfl (s_as (v := .int .i64 0) rfl) ?_
  refine f_nil ?_
  refine f_seq ?_
  refine f_seq ?_
  refine f_region ?_
  refine f_op rfl rfl (s_mv (v := .ptr a0b a0o) rfl) ?_
  refine o_bind ?_; intro p1 hp1
  refine f_op rfl rfl (s_callF rfl ok28 (sim28 hp1)) ?_
  refine f_nil ?_
  refine f_if (fun h2 => ?_) (fun h2 => ?_)
  · skip
    refine f_know 11 rfl (bool_T h2) ?_
    refine f_condT rfl ?_
    refine f_seq ?_
    refine f_region ?_
    refine f_op rfl rfl (s_as (v := .str (ByteArray.mk #[])) rfl) ?_
    refine f_op rfl rfl (s_as (v := .int .i64 1) rfl) ?_
    refine f_nil ?_
    exact f_ret (.tmp rfl (.tmp rfl (.nil))) rfl
  · skip
    refine f_know 11 rfl (bool_F h2) ?_
    refine f_condF rfl ?_
    refine f_skip ?_
    refine f_seq ?_
    refine f_region ?_
    refine f_op rfl rfl (s_mv (v := .ptr a0b a0o) rfl) ?_
    refine o_bind ?_; intro p3 hp3
    refine f_op rfl rfl (s_callF rfl ok33 (sim33 hp3)) ?_
    refine f_op rfl rfl (s_mv (v := .str a1) rfl) ?_
    refine o_bind ?_; intro p4 hp4
    refine f_op rfl rfl (s_callF rfl ok34 (sim34 happ hp4)) ?_
    refine f_op rfl rfl (s_mv (v := .tup [.ptr p4.1.1 p4.1.2.1, .str p4.1.2.2.1, .int .i64 p4.1.2.2.2]) rfl) ?_
    refine f_op rfl rfl (s_extract (r := .ptr p4.1.1 p4.1.2.1) rfl rfl) ?_
    refine f_op rfl rfl (s_extract (r := .str p4.1.2.2.1) rfl rfl) ?_
    refine f_op rfl rfl (s_extract (r := .int .i64 p4.1.2.2.2) rfl rfl) ?_
    refine f_op rfl rfl (s_as (v := .ptr p4.1.1 p4.1.2.1) rfl) ?_
    refine f_op rfl rfl (s_as (v := .str p4.1.2.2.1) rfl) ?_
    refine f_op rfl rfl (s_as (v := .int .i64 p4.1.2.2.2) rfl) ?_
    refine f_nil ?_
    refine f_seq ?_
    refine f_seq ?_
    refine f_region ?_
    refine f_op rfl rfl (s_mv (v := .int .i64 p4.1.2.2.2) rfl) ?_
    refine f_op rfl rfl (s_neq rfl rfl) ?_
    refine f_nil ?_
    refine f_if (fun h5 => ?_) (fun h5 => ?_)
    · skip
      refine f_know 21 rfl (dec_true h5) ?_
      refine f_condT rfl ?_
      refine f_seq ?_
      refine f_region ?_
      refine f_op rfl rfl (s_mv (v := .int .i64 p4.1.2.2.2) rfl) ?_
      refine f_op rfl rfl (s_as (v := .str (ByteArray.mk #[])) rfl) ?_
      refine f_op rfl rfl (s_as (v := .int .i64 p4.1.2.2.2) rfl) ?_
      refine f_nil ?_
      exact f_ret (.tmp rfl (.tmp rfl (.nil))) rfl
    · skip
      refine f_know 21 rfl (dec_false h5) ?_
      refine f_condF rfl ?_
      refine f_skip ?_
      refine f_seq ?_
      refine f_region ?_
      refine f_op rfl rfl (s_mv (v := .ptr a0b a0o) rfl) ?_
      refine f_op rfl rfl (s_mv (v := .ptr a0b a0o) rfl) ?_
      refine f_op rfl rfl (s_nilCheck rfl) ?_
      refine f_op rfl rfl (s_fieldAddr Tryz.underlying56 rfl ty3 rfl) ?_
      refine o_bind ?_; intro x6 hx6
      refine f_op rfl rfl (s_load Tryz.underlying3 rfl rfl (ldI_eq hx6)) ?_
      refine f_op rfl rfl (s_mv (v := .str a1) rfl) ?_
      refine o_bind ?_; intro p7 hp7
      refine f_op rfl rfl (s_callF rfl ok35 (sim35 happ hp7)) ?_
      refine f_op rfl rfl (s_as (v := .int .i64 p7.1) rfl) ?_
      refine f_nil ?_
      refine f_seq ?_
      refine f_block ?_
      refine f_seq ?_
      refine f_region ?_
      refine f_op rfl rfl (s_mv (v := .int .i64 p7.1) rfl) ?_
      refine f_op rfl rfl (s_geq rfl rfl) ?_
      refine f_op rfl rfl (s_as (v := .bool (decide (0 ≤ p7.1))) rfl) ?_
      refine f_nil ?_
      refine f_if (fun h8 => ?_) (fun h8 => ?_)
      · skip
        refine f_know 51 rfl (dec_true h8) ?_
        refine f_condT rfl ?_
        refine f_skip ?_
        refine f_inBlock ?_
        refine f_keep [0, 7, 9] ?_
        exact s18_j0 happ a0b a0o p4.1.2.2.1 p7.1 p7.2
      · skip
        refine f_know 51 rfl (dec_false h8) ?_
        refine f_condF rfl ?_
        refine f_seq ?_
        refine f_region ?_
        refine f_op rfl rfl (s_mv (v := .ptr a0b a0o) rfl) ?_
        refine f_op rfl rfl (s_nilCheck rfl) ?_
        refine f_op rfl rfl (s_fieldAddr Tryz.underlying56 rfl ty54 rfl) ?_
        refine o_bind ?_; intro x9 hx9
        refine f_op rfl rfl (s_load Tryz.underlying54 rfl rfl (ldSl_eq hx9)) ?_
        refine f_op rfl rfl (s_lenS rfl Tryz.underlying54 rfl) ?_
        refine f_op rfl rfl (s_eql rfl rfl) ?_
        refine f_op rfl rfl (s_as (v := .bool (decide ((x9.len : Int) = 200))) rfl) ?_
        refine f_nil ?_
        refine f_if (fun h10 => ?_) (fun h10 => ?_)
        · skip
          refine f_know 54 rfl (dec_true h10) ?_
          refine f_condT rfl ?_
          refine f_seq ?_
          refine f_region ?_
          refine f_op rfl rfl (s_as (v := .str (ByteArray.mk #[])) rfl) ?_
          refine f_op rfl rfl (s_as (v := .int .i64 7) rfl) ?_
          refine f_nil ?_
          exact f_ret (.tmp rfl (.tmp rfl (.nil))) rfl
        · skip
          refine f_know 54 rfl (dec_false h10) ?_
          refine f_condF rfl ?_
          refine f_seq ?_
          refine f_region ?_
          refine f_op rfl rfl (s_mv (v := .ptr a0b a0o) rfl) ?_
          refine f_op rfl rfl (s_nilCheck rfl) ?_
          refine f_op rfl rfl (s_fieldAddr Tryz.underlying56 rfl ty54 rfl) ?_
          refine o_bind ?_; intro x11 hx11
          refine f_op rfl rfl (s_load Tryz.underlying54 rfl rfl (ldSl_eq hx11)) ?_
          refine f_op rfl rfl (s_lenS rfl Tryz.underlying54 rfl) ?_
          refine f_op rfl rfl (s_as (v := .int .i64 (x11.len : Int)) rfl) ?_
          refine f_nil ?_
          refine f_bind ?_; intro x12 hx12
          refine f_bind ?_; intro x13 hx13
          refine f_bind ?_; intro x14 hx14
          refine f_bind ?_; intro H15 hH15
          refine f_ck fun g16 => ?_
          refine f_draw (Φ := fun H_ => H_.ld a0b (a0o + 0) = some (.sl x12)) (lim := 13) [0, 0, 0, 0, 0, 0, 0, 0, 0, 1, 0, 0, 2, 2, 0, 0, 2] (Trc.pure rfl rfl rfl (.inl fun _ => s_mv (v := .ptr a0b a0o) rfl) (Trc.pure rfl rfl rfl (.inl fun _ => s_mv (v := .ptr a0b a0o) rfl) (Trc.pure rfl rfl rfl (.inl fun _ => s_nilCheck rfl) (Trc.pure rfl rfl rfl (.inl fun _ => s_fieldAddr Tryz.underlying56 rfl ty54 rfl) (Trc.pure rfl rfl rfl (.inr ⟨by decide +kernel, fun _ hp_ => s_load Tryz.underlying54 rfl rfl hp_⟩) (Trc.pure rfl rfl rfl (.inl fun _ => s_mv (v := .str a1) rfl) (Trc.pure rfl rfl rfl (.inl fun _ => s_mv (v := .ptr a0b a0o) rfl) (Trc.pure rfl rfl rfl (.inl fun _ => s_nilCheck rfl) (Trc.pure rfl rfl rfl (.inl fun _ => s_fieldAddr Tryz.underlying56 rfl ty3 rfl) (Trc.read rfl rfl rfl (s_load Tryz.underlying3 rfl rfl (ldI_eq hx13)) (Trc.pure rfl rfl rfl (.inl fun _ => s_mv (v := .ptr p4.1.1 p4.1.2.1) rfl) (Trc.pure rfl rfl rfl (.inl fun _ => s_build (cs := [.str a1, .int .i64 x13, .ptr p4.1.1 p4.1.2.1]) Tryz.underlying71 ty71 rfl pl71 rfl) (Trc.eff rfl rfl rfl (fun _ => ldSl_eq hx12) (s_buildSlice (cs := [.str a1, .int .i64 x13, .ptr p4.1.1 p4.1.2.1]) Tryz.underlying54 ty71 (by decide) (by decide) rfl (by decide) rfl) (Trc.eff rfl rfl rfl (fun _ => ldSl_eq g16) (s_ap rfl rfl Tryz.underlying54 Tryz.underlying54 ty71 rfl rfl rfl rfl rfl rfl rfl hx14) (Trc.pure rfl rfl rfl (.inl fun _ => s_nilCheck rfl) (Trc.pure rfl rfl rfl (.inl fun _ => s_fieldAddr Tryz.underlying56 rfl ty54 rfl) (Trc.eff rfl rfl rfl (fun h_ => absurd h_ (by decide +kernel)) (s_store (s := 1) ty54 rfl rfl rfl hH15) (Trc.nil (fun h_ => absurd h_ (by decide +kernel)))))))))))))))))))) rfl (by decide +kernel) mixed ?_
          refine f_inBlock ?_
          refine f_keep [0, 7, 9] ?_
          exact s18_j0 happ a0b a0o p4.1.2.2.1 (x11.len : Int) H15

end Go.Lt.P10
