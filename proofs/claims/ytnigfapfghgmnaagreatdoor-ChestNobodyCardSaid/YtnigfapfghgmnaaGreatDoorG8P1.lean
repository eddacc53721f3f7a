/- PRINTED BY A PROGRAM OF OURS: what each function that 'ChestNobody' reaches computes on the abstract heap, and that the translated code does just that. Nothing is asked of the input. -/
import Derived.Test.YtnigfapfghgmnaaGreatDoorG8P0
set_option linter.unusedVariables false
set_option linter.unusedSimpArgs false
set_option maxRecDepth 100000
set_option maxHeartbeats 4000000
namespace Go.Lt.P10
open Go Go.Lt Go.Proofs
/- 158 strings.explode -/
theorem ok158 : FnOk Tryz.prog 158 := ⟨⟨Tryz.f158, Tryz.func158, by kernel_rfl, rfl⟩⟩
theorem s158_l0 {app : App} (happ : AppSim Tryz.prog app) : ∀ (k_ : Nat) (v1 : ByteArray) (v2 : Int) (v3 : Sl) (v4 : Int) (H : Hp), Fin Tryz.prog Tryz.f158 ret158 50 (todoAt (bodyOf Tryz.f158) [1, 1, 1, 1, 0, 1, 0, 0] []) [(0, .str v1), (1, .int .i64 v2), (6, .sl v3), (7, .int .i64 v4)] H (r158_l0 app k_ v1 v2 v3 v4 H) := by
  intro k_
  induction k_ with
  | zero => intro _ _ _ _ _; exact f_none
  | succ k_ ih =>
    intro v1 v2 v3 v4 H
    rw [r158_l0]
    refine f_seq ?_
    refine f_seq ?_
    refine f_region ?_
    refine f_op rfl rfl (s_mv (v := .int .i64 v4) rfl) ?_
    refine f_op rfl rfl (s_mv (v := .int .i64 v2) rfl) ?_
    refine f_op rfl rfl (s_sub rfl rfl) ?_
    refine f_op rfl rfl (s_lss rfl rfl) ?_
    refine f_nil ?_
    refine f_if (fun h1 => ?_) (fun h1 => ?_)
    · skip
      refine f_know 25 rfl (dec_true h1) ?_
      refine f_condT rfl ?_
      refine f_skip ?_
      refine f_seq ?_
      refine f_block ?_
      refine f_seq ?_
      refine f_region ?_
      refine f_op rfl rfl (s_mv (v := .str v1) rfl) ?_
      refine o_bind ?_; intro p2 hp2
      refine f_op rfl rfl (s_callF rfl ok219 (sim219 hp2)) ?_
      refine f_op rfl rfl (s_mv (v := .tup [.int .i32 p2.1.1, .int .i64 p2.1.2]) rfl) ?_
      refine f_op rfl rfl (s_extract (r := .int .i32 p2.1.1) rfl rfl) ?_
      refine f_op rfl rfl (s_extract (r := .int .i64 p2.1.2) rfl rfl) ?_
      refine f_op rfl rfl (s_as (v := .int .i32 p2.1.1) rfl) ?_
      refine f_op rfl rfl (s_as (v := .int .i64 p2.1.2) rfl) ?_
      refine f_nil ?_
      refine f_seq ?_
      refine f_region ?_
      refine f_op rfl rfl (s_mv (v := .sl v3) rfl) ?_
      refine f_op rfl rfl (s_mv (v := .int .i64 v4) rfl) ?_
      refine f_op rfl rfl (s_mv (v := .str v1) rfl) ?_
      refine f_op rfl rfl (s_mv (v := .int .i64 p2.1.2) rfl) ?_
      refine o_ck fun g3 => ?_
      refine f_op rfl rfl (s_sliceStr Tryz.underlying9 rfl rfl rfl g3) ?_
      refine o_ck fun g4 => ?_
      refine f_op rfl rfl (s_idx Tryz.underlying38 ty9 rfl rfl g4) ?_
      refine o_bind ?_; intro H5 hH5
      refine f_op rfl rfl (s_store (s := 1) ty9 rfl rfl rfl hH5) ?_
      refine f_nil ?_
      refine f_region ?_
      refine f_op rfl rfl (s_mv (v := .str v1) rfl) ?_
      refine f_op rfl rfl (s_mv (v := .int .i64 p2.1.2) rfl) ?_
      refine o_ck fun g6 => ?_
      refine f_op rfl rfl (s_sliceStr Tryz.underlying9 rfl rfl rfl g6) ?_
      refine f_op rfl rfl (s_as (v := .str (v1.extract (p2.1.2 : Int).toNat ((v1.size : Int) : Int).toNat)) rfl) ?_
      refine f_nil ?_
      refine f_inBlock ?_
      refine f_region ?_
      refine f_op rfl rfl (s_mv (v := .int .i64 v4) rfl) ?_
      refine f_op rfl rfl (s_add rfl rfl) ?_
      refine f_op rfl rfl (s_as (v := .int .i64 (w64 (v4 + 1))) rfl) ?_
      refine f_nil ?_
      refine f_inLoop ?_
      refine f_keep [0, 1, 6, 7] ?_
      exact ih (v1.extract (p2.1.2 : Int).toNat ((v1.size : Int) : Int).toNat) v2 v3 (w64 (v4 + 1)) H5
    · skip
      refine f_know 25 rfl (dec_false h1) ?_
      refine f_condF rfl ?_
      refine f_exit rfl ?_
      refine f_seq ?_
      refine f_seq ?_
      refine f_region ?_
      refine f_op rfl rfl (s_mv (v := .int .i64 v2) rfl) ?_
      refine f_op rfl rfl (s_gtr rfl rfl) ?_
      refine f_nil ?_
      refine f_if (fun h7 => ?_) (fun h7 => ?_)
      · skip
        refine f_know 43 rfl (dec_true h7) ?_
        refine f_condT rfl ?_
        refine f_region ?_
        refine f_op rfl rfl (s_mv (v := .sl v3) rfl) ?_
        refine f_op rfl rfl (s_mv (v := .int .i64 v2) rfl) ?_
        refine f_op rfl rfl (s_sub rfl rfl) ?_
        refine f_op rfl rfl (s_mv (v := .str v1) rfl) ?_
        refine o_ck fun g8 => ?_
        refine f_op rfl rfl (s_idx Tryz.underlying38 ty9 rfl rfl g8) ?_
        refine o_bind ?_; intro H9 hH9
        refine f_op rfl rfl (s_store (s := 1) ty9 rfl rfl rfl hH9) ?_
        refine f_nil ?_
        refine f_seq ?_
        refine f_region ?_
        refine f_op rfl rfl (s_mv (v := .sl v3) rfl) ?_
        refine f_op rfl rfl (s_as (v := .sl v3) rfl) ?_
        refine f_nil ?_
        exact f_ret (.tmp rfl (.nil)) rfl
      · skip
        refine f_know 43 rfl (dec_false h7) ?_
        refine f_condF rfl ?_
        refine f_skip ?_
        refine f_seq ?_
        refine f_region ?_
        refine f_op rfl rfl (s_mv (v := .sl v3) rfl) ?_
        refine f_op rfl rfl (s_as (v := .sl v3) rfl) ?_
        refine f_nil ?_
        exact f_ret (.tmp rfl (.nil)) rfl

theorem s158_j2 {app : App} (happ : AppSim Tryz.prog app) (v1 : ByteArray) (v2 : Int) (H : Hp) : Fin Tryz.prog Tryz.f158 ret158 50 (todoAt (bodyOf Tryz.f158) [1, 1, 1] []) [(0, .str v1), (1, .int .i64 v2)] H (r158_j2 app v1 v2 H) := by
  unfold r158_j2
  refine f_seq ?_
  refine f_region ?_
  refine f_op rfl rfl (s_mv (v := .int .i64 v2) rfl) ?_
  refine o_ck fun g1 => ?_
  refine f_op rfl rfl (s_makeSlice Tryz.underlying38 ty9 rfl rfl (by decide) (by decide) rfl rfl g1) ?_
  refine f_op rfl rfl (s_as (v := .sl ⟨false, H.n, 0, (v2 : Int).toNat, (v2 : Int).toNat, 0⟩) rfl) ?_
  refine o_hp ?_; intro H2 hH2
  refine f_nil ?_
  refine f_seq ?_
  refine f_seq ?_
  refine f_region ?_
  refine f_op rfl rfl (s_as (v := .int .i64 0) rfl) ?_
  refine f_nil ?_
  refine f_block ?_
  refine f_loop ?_
  refine f_keep [0, 1, 6, 7] ?_
  exact s158_l0 happ FUEL v1 v2 ⟨false, H.n, 0, (v2 : Int).toNat, (v2 : Int).toNat, 0⟩ 0 H2

theorem s158_j1 {app : App} (happ : AppSim Tryz.prog app) (v1 : ByteArray) (v2 : Int) (v3 : Int) (v4 : Bool) (H : Hp) : Fin Tryz.prog Tryz.f158 ret158 50 (todoAt (bodyOf Tryz.f158) [1, 1, 0, 1] []) [(0, .str v1), (1, .int .i64 v2), (5, .int .i64 v3), (18, .bool v4)] H (r158_j1 app v1 v2 v3 v4 H) := by
  unfold r158_j1
  refine f_if (fun h1 => ?_) (fun h1 => ?_)
  · skip
    refine f_know 18 rfl (bool_T h1) ?_
    refine f_condT rfl ?_
    refine f_region ?_
    refine f_op rfl rfl (s_mv (v := .int .i64 v3) rfl) ?_
    refine f_op rfl rfl (s_as (v := .int .i64 v3) rfl) ?_
    refine f_nil ?_
    refine f_keep [0, 1] ?_
    exact s158_j2 happ v1 v3 H
  · skip
    refine f_know 18 rfl (bool_F h1) ?_
    refine f_condF rfl ?_
    refine f_skip ?_
    refine f_keep [0, 1] ?_
    exact s158_j2 happ v1 v2 H

theorem sim158 {app : App} (happ : AppSim Tryz.prog app) {a0 : ByteArray} {a1 : Int} {H : Hp} {p : Sl × Hp} (h : r158 app a0 a1 H = some p) : CallSim Tryz.prog 158 [.str a0, .int .i64 a1] H (.sl p.1) p.2 := by
  refine callSim (fn := Tryz.f158) (ret := ret158) Tryz.func158 rfl Tryz.ntmps158 rfl ?_ h
  unfold r158
  refine f_seq ?_
  refine f_region ?_
  refine f_op rfl rfl (s_as (v := .sl ⟨true, 0, 0, 0, 0, 0⟩) rfl) ?_
  refine f_nil ?_
  refine f_seq ?_
  refine f_region ?_
  refine f_op rfl rfl (s_mv (v := .str a0) rfl) ?_
  refine o_bind ?_; intro p1 hp1
  refine o_bind ?_; intro x2 hx2
  refine f_op rfl rfl (s_callA happ rfl hp1) ?_
  refine o_know 11 rfl (asI_eq hx2) ?_
  refine f_op rfl rfl (s_as (v := .int .i64 x2) rfl) ?_
  refine f_nil ?_
  refine f_seq ?_
  refine f_seq ?_
  refine f_region ?_
  refine f_op rfl rfl (s_mv (v := .int .i64 a1) rfl) ?_
  refine f_op rfl rfl (s_lss rfl rfl) ?_
  refine f_op rfl rfl (s_mv (v := .bool (decide (a1 < 0))) rfl) ?_
  refine o_if (fun h3 => ?_) (fun h3 => ?_)
  · skip
    refine o_know 14 rfl (dec_true h3) ?_
    refine f_no rfl rfl ?_
    refine f_no rfl rfl ?_
    refine f_no rfl rfl ?_
    refine f_op rfl rfl (s_pickT (v := .bool true) rfl rfl) ?_
    refine f_nil ?_
    refine f_keep [0, 1, 5, 18] ?_
    exact s158_j1 happ a0 a1 x2 true p1.2
  · skip
    refine o_know 14 rfl (dec_false h3) ?_
    refine f_op rfl rfl (s_mv (v := .int .i64 a1) rfl) ?_
    refine f_op rfl rfl (s_mv (v := .int .i64 x2) rfl) ?_
    refine f_op rfl rfl (s_gtr rfl rfl) ?_
    refine f_op rfl rfl (s_pickF (v := .bool (decide (x2 < a1))) rfl rfl) ?_
    refine f_nil ?_
    refine f_keep [0, 1, 5, 18] ?_
    exact s158_j1 happ a0 a1 x2 (decide (x2 < a1)) p1.2

/- 160 strings.Index -/
theorem ok160 : FnOk Tryz.prog 160 := ⟨⟨Tryz.f160, Tryz.func160, by kernel_rfl, rfl⟩⟩
theorem sim160 {app : App} (happ : AppSim Tryz.prog app) {a0 : ByteArray} {a1 : ByteArray} {H : Hp} {p : Int × Hp} (h : r160 app a0 a1 H = some p) : CallSim Tryz.prog 160 [.str a0, .str a1] H (.int .i64 p.1) p.2 := by
  refine callSim (fn := Tryz.f160) (ret := ret160) Tryz.func160 rfl Tryz.ntmps160 rfl ?_ h
  unfold r160
  refine f_seq ?_
  refine f_region ?_
  refine f_op rfl rfl (s_as (v := .int .i64 0) rfl) ?_
  refine f_nil ?_
  refine f_seq ?_
  refine f_region ?_
  refine f_op rfl rfl (s_mv (v := .str a0) rfl) ?_
  refine f_op rfl rfl (s_mv (v := .str a1) rfl) ?_
  refine o_bind ?_; intro p1 hp1
  refine f_op rfl rfl (s_callF rfl ok100 (sim100 happ hp1)) ?_
  refine f_op rfl rfl (s_as (v := .int .i64 p1.1) rfl) ?_
  refine f_nil ?_
  exact f_ret (.tmp rfl (.nil)) rfl

/- 159 strings.Count -/
theorem ok159 : FnOk Tryz.prog 159 := ⟨⟨Tryz.f159, Tryz.func159, by kernel_rfl, rfl⟩⟩
theorem s159_l0 {app : App} (happ : AppSim Tryz.prog app) : ∀ (k_ : Nat) (v1 : ByteArray) (v2 : ByteArray) (v3 : Int) (H : Hp), Fin Tryz.prog Tryz.f159 ret159 34 (todoAt (bodyOf Tryz.f159) [1, 1, 1, 1, 0, 0] []) [(0, .str v1), (1, .str v2), (5, .int .i64 v3)] H (r159_l0 app k_ v1 v2 v3 H) := by
  intro k_
  induction k_ with
  | zero => intro _ _ _ _; exact f_none
  | succ k_ ih =>
    intro v1 v2 v3 H
    rw [r159_l0]
    refine f_block ?_
    refine f_seq ?_
    refine f_region ?_
    refine f_op rfl rfl (s_mv (v := .str v1) rfl) ?_
    refine f_op rfl rfl (s_mv (v := .str v2) rfl) ?_
    refine o_bind ?_; intro p1 hp1
    refine f_op rfl rfl (s_callF rfl ok160 (sim160 happ hp1)) ?_
    refine f_op rfl rfl (s_as (v := .int .i64 p1.1) rfl) ?_
    refine f_nil ?_
    refine f_seq ?_
    refine f_seq ?_
    refine f_region ?_
    refine f_op rfl rfl (s_mv (v := .int .i64 p1.1) rfl) ?_
    refine f_op rfl rfl (s_eql rfl rfl) ?_
    refine f_nil ?_
    refine f_if (fun h2 => ?_) (fun h2 => ?_)
    · skip
      refine f_know 24 rfl (dec_true h2) ?_
      refine f_condT rfl ?_
      refine f_seq ?_
      refine f_region ?_
      refine f_op rfl rfl (s_mv (v := .int .i64 v3) rfl) ?_
      refine f_op rfl rfl (s_as (v := .int .i64 v3) rfl) ?_
      refine f_nil ?_
      exact f_ret (.tmp rfl (.nil)) rfl
    · skip
      refine f_know 24 rfl (dec_false h2) ?_
      refine f_condF rfl ?_
      refine f_skip ?_
      refine f_seq ?_
      refine f_region ?_
      refine f_op rfl rfl (s_mv (v := .int .i64 v3) rfl) ?_
      refine f_op rfl rfl (s_add rfl rfl) ?_
      refine f_op rfl rfl (s_as (v := .int .i64 (w64 (v3 + 1))) rfl) ?_
      refine f_nil ?_
      refine f_region ?_
      refine f_op rfl rfl (s_mv (v := .str v1) rfl) ?_
      refine f_op rfl rfl (s_mv (v := .int .i64 p1.1) rfl) ?_
      refine f_op rfl rfl (s_mv (v := .str v2) rfl) ?_
      refine f_op rfl rfl (s_lenStr rfl Tryz.underlying9 rfl) ?_
      refine f_op rfl rfl (s_add rfl rfl) ?_
      refine o_ck fun g3 => ?_
      refine f_op rfl rfl (s_sliceStr Tryz.underlying9 rfl rfl rfl g3) ?_
      refine f_op rfl rfl (s_as (v := .str (v1.extract (w64 (p1.1 + (v2.size : Int)) : Int).toNat ((v1.size : Int) : Int).toNat)) rfl) ?_
      refine f_nil ?_
      refine f_inBlock ?_
      refine f_inLoop ?_
      refine f_keep [0, 1, 5] ?_
      exact ih (v1.extract (w64 (p1.1 + (v2.size : Int)) : Int).toNat ((v1.size : Int) : Int).toNat) v2 (w64 (v3 + 1)) p1.2

theorem sim159 {app : App} (happ : AppSim Tryz.prog app) {a0 : ByteArray} {a1 : ByteArray} {H : Hp} {p : Int × Hp} (h : r159 app a0 a1 H = some p) : CallSim Tryz.prog 159 [.str a0, .str a1] H (.int .i64 p.1) p.2 := by
  refine callSim (fn := Tryz.f159) (ret := ret159) Tryz.func159 rfl Tryz.ntmps159 rfl ?_ h
  unfold r159
  refine f_seq ?_
  refine f_region ?_
  refine f_op rfl rfl (s_as (v := .int .i64 0) rfl) ?_
  refine f_nil ?_
  refine f_seq ?_
  refine f_seq ?_
  refine f_region ?_
  refine f_op rfl rfl (s_mv (v := .str a1) rfl) ?_
  refine f_op rfl rfl (s_lenStr rfl Tryz.underlying9 rfl) ?_
  refine f_op rfl rfl (s_eql rfl rfl) ?_
  refine f_nil ?_
  refine f_if (fun h1 => ?_) (fun h1 => ?_)
  · skip
    refine f_know 9 rfl (dec_true h1) ?_
    refine f_condT rfl ?_
    refine f_seq ?_
    refine f_region ?_
    refine f_op rfl rfl (s_mv (v := .str a0) rfl) ?_
    refine o_bind ?_; intro p2 hp2
    refine o_bind ?_; intro x3 hx3
    refine f_op rfl rfl (s_callA happ rfl hp2) ?_
    refine o_know 11 rfl (asI_eq hx3) ?_
    refine f_op rfl rfl (s_add rfl rfl) ?_
    refine f_op rfl rfl (s_as (v := .int .i64 (w64 (x3 + 1))) rfl) ?_
    refine f_nil ?_
    exact f_ret (.tmp rfl (.nil)) rfl
  · skip
    refine f_know 9 rfl (dec_false h1) ?_
    refine f_condF rfl ?_
    refine f_skip ?_
    refine f_seq ?_
    refine f_seq ?_
    refine f_region ?_
    refine f_op rfl rfl (s_mv (v := .str a1) rfl) ?_
    refine f_op rfl rfl (s_lenStr rfl Tryz.underlying9 rfl) ?_
    refine f_op rfl rfl (s_eql rfl rfl) ?_
    refine f_nil ?_
    refine f_if (fun h4 => ?_) (fun h4 => ?_)
    · skip
      refine f_know 15 rfl (dec_true h4) ?_
      refine f_condT rfl ?_
      refine f_seq ?_
      refine f_region ?_
      refine f_op rfl rfl (s_mv (v := .str a0) rfl) ?_
      refine f_op rfl rfl (s_mv (v := .str a1) rfl) ?_
      refine o_ck fun g5 => ?_
      refine f_op rfl rfl (s_indexStr Tryz.underlying9 rfl rfl g5) ?_
      refine f_op rfl rfl (s_cntByte rfl ext220) ?_
      refine f_op rfl rfl (s_as (v := .int .i64 (strCnt a0 (bt a1 0))) rfl) ?_
      refine f_nil ?_
      exact f_ret (.tmp rfl (.nil)) rfl
    · skip
      refine f_know 15 rfl (dec_false h4) ?_
      refine f_condF rfl ?_
      refine f_skip ?_
      refine f_seq ?_
      refine f_region ?_
      refine f_op rfl rfl (s_as (v := .int .i64 0) rfl) ?_
      refine f_nil ?_
      refine f_block ?_
      refine f_loop ?_
      refine f_keep [0, 1, 5] ?_
      exact s159_l0 happ FUEL a0 a1 0 H

/- 107 strings.genSplit -/
theorem ok107 : FnOk Tryz.prog 107 := ⟨⟨Tryz.f107, Tryz.func107, by kernel_rfl, rfl⟩⟩
theorem s107_j2 {app : App} (happ : AppSim Tryz.prog app) (v1 : ByteArray) (v2 : Sl) (v3 : Int) (H : Hp) : Fin Tryz.prog Tryz.f107 ret107 66 (todoAt (bodyOf Tryz.f107) [1, 1, 1, 1, 1, 1, 1, 1, 1] []) [(0, .str v1), (9, .sl v2), (10, .int .i64 v3)] H (r107_j2 app v1 v2 v3 H) := by
  unfold r107_j2
  refine f_seq ?_
  refine f_region ?_
  refine f_op rfl rfl (s_mv (v := .sl v2) rfl) ?_
  refine f_op rfl rfl (s_mv (v := .int .i64 v3) rfl) ?_
  refine f_op rfl rfl (s_mv (v := .str v1) rfl) ?_
  refine o_ck fun g1 => ?_
  refine f_op rfl rfl (s_idx Tryz.underlying38 ty9 rfl rfl g1) ?_
  refine o_bind ?_; intro H2 hH2
  refine f_op rfl rfl (s_store (s := 1) ty9 rfl rfl rfl hH2) ?_
  refine f_nil ?_
  refine f_seq ?_
  refine f_region ?_
  refine f_op rfl rfl (s_mv (v := .sl v2) rfl) ?_
  refine f_op rfl rfl (s_mv (v := .int .i64 v3) rfl) ?_
  refine f_op rfl rfl (s_add rfl rfl) ?_
  refine o_ck fun g3 => ?_
  refine f_op rfl rfl (s_slice Tryz.underlying38 ty9 rfl rfl rfl g3.1 g3.2) ?_
  refine f_op rfl rfl (s_as (v := .sl (v2.cut 1 (0 : Int).toNat (w64 (v3 + 1) : Int).toNat)) rfl) ?_
  refine f_nil ?_
  exact f_ret (.tmp rfl (.nil)) rfl

theorem s107_l0 {app : App} (happ : AppSim Tryz.prog app) : ∀ (k_ : Nat) (v1 : ByteArray) (v2 : ByteArray) (v3 : Int) (v4 : Int) (v5 : Sl) (v6 : Int) (H : Hp), Fin Tryz.prog Tryz.f107 ret107 66 (todoAt (bodyOf Tryz.f107) [1, 1, 1, 1, 1, 1, 1, 1, 0, 0, 0] []) [(0, .str v1), (1, .str v2), (2, .int .i64 v3), (3, .int .i64 v4), (9, .sl v5), (10, .int .i64 v6)] H (r107_l0 app k_ v1 v2 v3 v4 v5 v6 H) := by
  intro k_
  induction k_ with
  | zero => intro _ _ _ _ _ _ _; exact f_none
  | succ k_ ih =>
    intro v1 v2 v3 v4 v5 v6 H
    rw [r107_l0]
    refine f_seq ?_
    refine f_seq ?_
    refine f_region ?_
    refine f_op rfl rfl (s_mv (v := .int .i64 v6) rfl) ?_
    refine f_op rfl rfl (s_mv (v := .int .i64 v4) rfl) ?_
    refine f_op rfl rfl (s_lss rfl rfl) ?_
    refine f_nil ?_
    refine f_if (fun h1 => ?_) (fun h1 => ?_)
    · skip
      refine f_know 36 rfl (dec_true h1) ?_
      refine f_condT rfl ?_
      refine f_skip ?_
      refine f_block ?_
      refine f_seq ?_
      refine f_region ?_
      refine f_op rfl rfl (s_mv (v := .str v1) rfl) ?_
      refine f_op rfl rfl (s_mv (v := .str v2) rfl) ?_
      refine o_bind ?_; intro p2 hp2
      refine f_op rfl rfl (s_callF rfl ok160 (sim160 happ hp2)) ?_
      refine f_op rfl rfl (s_as (v := .int .i64 p2.1) rfl) ?_
      refine f_nil ?_
      refine f_seq ?_
      refine f_seq ?_
      refine f_region ?_
      refine f_op rfl rfl (s_mv (v := .int .i64 p2.1) rfl) ?_
      refine f_op rfl rfl (s_lss rfl rfl) ?_
      refine f_nil ?_
      refine f_if (fun h3 => ?_) (fun h3 => ?_)
      · skip
        refine f_know 41 rfl (dec_true h3) ?_
        refine f_condT rfl ?_
        refine f_exit rfl ?_
        refine f_keep [0, 9, 10] ?_
        exact s107_j2 happ v1 v5 v6 p2.2
      · skip
        refine f_know 41 rfl (dec_false h3) ?_
        refine f_condF rfl ?_
        refine f_skip ?_
        refine f_seq ?_
        refine f_region ?_
        refine f_op rfl rfl (s_mv (v := .sl v5) rfl) ?_
        refine f_op rfl rfl (s_mv (v := .int .i64 v6) rfl) ?_
        refine f_op rfl rfl (s_mv (v := .str v1) rfl) ?_
        refine f_op rfl rfl (s_mv (v := .int .i64 p2.1) rfl) ?_
        refine f_op rfl rfl (s_mv (v := .int .i64 v3) rfl) ?_
        refine f_op rfl rfl (s_add rfl rfl) ?_
        refine o_ck fun g4 => ?_
        refine f_op rfl rfl (s_sliceStr Tryz.underlying9 rfl rfl rfl g4) ?_
        refine o_ck fun g5 => ?_
        refine f_op rfl rfl (s_idx Tryz.underlying38 ty9 rfl rfl g5) ?_
        refine o_bind ?_; intro H6 hH6
        refine f_op rfl rfl (s_store (s := 1) ty9 rfl rfl rfl hH6) ?_
        refine f_nil ?_
        refine f_seq ?_
        refine f_region ?_
        refine f_op rfl rfl (s_mv (v := .str v1) rfl) ?_
        refine f_op rfl rfl (s_mv (v := .int .i64 p2.1) rfl) ?_
        refine f_op rfl rfl (s_mv (v := .str v2) rfl) ?_
        refine f_op rfl rfl (s_lenStr rfl Tryz.underlying9 rfl) ?_
        refine f_op rfl rfl (s_add rfl rfl) ?_
        refine o_ck fun g7 => ?_
        refine f_op rfl rfl (s_sliceStr Tryz.underlying9 rfl rfl rfl g7) ?_
        refine f_op rfl rfl (s_as (v := .str (v1.extract (w64 (p2.1 + (v2.size : Int)) : Int).toNat ((v1.size : Int) : Int).toNat)) rfl) ?_
        refine f_nil ?_
        refine f_region ?_
        refine f_op rfl rfl (s_mv (v := .int .i64 v6) rfl) ?_
        refine f_op rfl rfl (s_add rfl rfl) ?_
        refine f_op rfl rfl (s_as (v := .int .i64 (w64 (v6 + 1))) rfl) ?_
        refine f_nil ?_
        refine f_inBlock ?_
        refine f_inLoop ?_
        refine f_keep [0, 1, 2, 3, 9, 10] ?_
        exact ih (v1.extract (w64 (p2.1 + (v2.size : Int)) : Int).toNat ((v1.size : Int) : Int).toNat) v2 v3 v4 v5 (w64 (v6 + 1)) H6
    · skip
      refine f_know 36 rfl (dec_false h1) ?_
      refine f_condF rfl ?_
      refine f_exit rfl ?_
      refine f_keep [0, 9, 10] ?_
      exact s107_j2 happ v1 v5 v6 H

theorem s107_j1 {app : App} (happ : AppSim Tryz.prog app) (v1 : ByteArray) (v2 : ByteArray) (v3 : Int) (v4 : Int) (H : Hp) : Fin Tryz.prog Tryz.f107 ret107 66 (todoAt (bodyOf Tryz.f107) [1, 1, 1, 1] []) [(0, .str v1), (1, .str v2), (2, .int .i64 v3), (3, .int .i64 v4)] H (r107_j1 app v1 v2 v3 v4 H) := by
  unfold r107_j1
  refine f_seq ?_
  refine f_region ?_
  refine f_op rfl rfl (s_mv (v := .int .i64 v4) rfl) ?_
  refine f_op rfl rfl (s_mv (v := .str v1) rfl) ?_
  refine f_op rfl rfl (s_lenStr rfl Tryz.underlying9 rfl) ?_
  refine f_op rfl rfl (s_add rfl rfl) ?_
  refine f_op rfl rfl (s_min2 rfl rfl) ?_
  refine f_op rfl rfl (s_as (v := .int .i64 (if (w64 ((v1.size : Int) + 1)) < v4 then (w64 ((v1.size : Int) + 1)) else v4)) rfl) ?_
  refine f_nil ?_
  refine f_seq ?_
  refine f_region ?_
  refine f_op rfl rfl (s_mv (v := .int .i64 (if (w64 ((v1.size : Int) + 1)) < v4 then (w64 ((v1.size : Int) + 1)) else v4)) rfl) ?_
  refine o_ck fun g1 => ?_
  refine f_op rfl rfl (s_makeSlice Tryz.underlying38 ty9 rfl rfl (by decide) (by decide) rfl rfl g1) ?_
  refine f_op rfl rfl (s_as (v := .sl ⟨false, H.n, 0, ((if (w64 ((v1.size : Int) + 1)) < v4 then (w64 ((v1.size : Int) + 1)) else v4) : Int).toNat, ((if (w64 ((v1.size : Int) + 1)) < v4 then (w64 ((v1.size : Int) + 1)) else v4) : Int).toNat, 0⟩) rfl) ?_
  refine o_hp ?_; intro H2 hH2
  refine f_nil ?_
  refine f_seq ?_
  refine f_region ?_
  refine f_op rfl rfl (s_mv (v := .int .i64 (if (w64 ((v1.size : Int) + 1)) < v4 then (w64 ((v1.size : Int) + 1)) else v4)) rfl) ?_
  refine f_op rfl rfl (s_sub rfl rfl) ?_
  refine f_op rfl rfl (s_as (v := .int .i64 (w64 ((if (w64 ((v1.size : Int) + 1)) < v4 then (w64 ((v1.size : Int) + 1)) else v4) - 1))) rfl) ?_
  refine f_nil ?_
  refine f_seq ?_
  refine f_region ?_
  refine f_op rfl rfl (s_as (v := .int .i64 0) rfl) ?_
  refine f_nil ?_
  refine f_seq ?_
  refine f_block ?_
  refine f_loop ?_
  refine f_keep [0, 1, 2, 3, 9, 10] ?_
  exact s107_l0 happ FUEL v1 v2 v3 (w64 ((if (w64 ((v1.size : Int) + 1)) < v4 then (w64 ((v1.size : Int) + 1)) else v4) - 1)) ⟨false, H.n, 0, ((if (w64 ((v1.size : Int) + 1)) < v4 then (w64 ((v1.size : Int) + 1)) else v4) : Int).toNat, ((if (w64 ((v1.size : Int) + 1)) < v4 then (w64 ((v1.size : Int) + 1)) else v4) : Int).toNat, 0⟩ 0 H2

theorem sim107 {app : App} (happ : AppSim Tryz.prog app) {a0 : ByteArray} {a1 : ByteArray} {a2 : Int} {a3 : Int} {H : Hp} {p : Sl × Hp} (h : r107 app a0 a1 a2 a3 H = some p) : CallSim Tryz.prog 107 [.str a0, .str a1, .int .i64 a2, .int .i64 a3] H (.sl p.1) p.2 := by
  refine callSim (fn := Tryz.f107) (ret := ret107) Tryz.func107 rfl Tryz.ntmps107 rfl ?_ h
  unfold r107
  refine f_seq ?_
  refine f_region ?_
  refine f_op rfl rfl (s_as (v := .sl ⟨true, 0, 0, 0, 0, 0⟩) rfl) ?_
  refine f_nil ?_
  refine f_seq ?_
  refine f_seq ?_
  refine f_region ?_
  refine f_op rfl rfl (s_mv (v := .int .i64 a3) rfl) ?_
  refine f_op rfl rfl (s_eql rfl rfl) ?_
  refine f_nil ?_
  refine f_if (fun h1 => ?_) (fun h1 => ?_)
  · skip
    refine f_know 13 rfl (dec_true h1) ?_
    refine f_condT rfl ?_
    refine f_seq ?_
    refine f_region ?_
    refine f_op rfl rfl (s_as (v := .sl ⟨true, 0, 0, 0, 0, 0⟩) rfl) ?_
    refine f_nil ?_
    exact f_ret (.tmp rfl (.nil)) rfl
  · skip
    refine f_know 13 rfl (dec_false h1) ?_
    refine f_condF rfl ?_
    refine f_skip ?_
    refine f_seq ?_
    refine f_seq ?_
    refine f_region ?_
    refine f_op rfl rfl (s_mv (v := .str a1) rfl) ?_
    refine f_op rfl rfl (s_eqStr rfl rfl) ?_
    refine f_nil ?_
    refine f_if (fun h2 => ?_) (fun h2 => ?_)
    · skip
      refine f_know 15 rfl (bool_T h2) ?_
      refine f_condT rfl ?_
      refine f_seq ?_
      refine f_region ?_
      refine f_op rfl rfl (s_mv (v := .str a0) rfl) ?_
      refine f_op rfl rfl (s_mv (v := .int .i64 a3) rfl) ?_
      refine o_bind ?_; intro p3 hp3
      refine o_bind ?_; intro x4 hx4
      refine f_op rfl rfl (s_callA happ rfl hp3) ?_
      refine o_know 18 rfl (asSl_eq hx4) ?_
      refine f_op rfl rfl (s_as (v := .sl x4) rfl) ?_
      refine f_nil ?_
      exact f_ret (.tmp rfl (.nil)) rfl
    · skip
      refine f_know 15 rfl (bool_F h2) ?_
      refine f_condF rfl ?_
      refine f_skip ?_
      refine f_seq ?_
      refine f_seq ?_
      refine f_region ?_
      refine f_op rfl rfl (s_mv (v := .int .i64 a3) rfl) ?_
      refine f_op rfl rfl (s_lss rfl rfl) ?_
      refine f_nil ?_
      refine f_if (fun h5 => ?_) (fun h5 => ?_)
      · skip
        refine f_know 20 rfl (dec_true h5) ?_
        refine f_condT rfl ?_
        refine f_region ?_
        refine f_op rfl rfl (s_mv (v := .str a0) rfl) ?_
        refine f_op rfl rfl (s_mv (v := .str a1) rfl) ?_
        refine o_bind ?_; intro p6 hp6
        refine f_op rfl rfl (s_callF rfl ok159 (sim159 happ hp6)) ?_
        refine f_op rfl rfl (s_add rfl rfl) ?_
        refine f_op rfl rfl (s_as (v := .int .i64 (w64 (p6.1 + 1))) rfl) ?_
        refine f_nil ?_
        refine f_keep [0, 1, 2, 3] ?_
        exact s107_j1 happ a0 a1 a2 (w64 (p6.1 + 1)) p6.2
      · skip
        refine f_know 20 rfl (dec_false h5) ?_
        refine f_condF rfl ?_
        refine f_skip ?_
        refine f_keep [0, 1, 2, 3] ?_
        exact s107_j1 happ a0 a1 a2 a3 H

/- 79 strings.Split -/
theorem ok79 : FnOk Tryz.prog 79 := ⟨⟨Tryz.f79, Tryz.func79, by kernel_rfl, rfl⟩⟩
theorem sim79 {app : App} (happ : AppSim Tryz.prog app) {a0 : ByteArray} {a1 : ByteArray} {H : Hp} {p : Sl × Hp} (h : r79 app a0 a1 H = some p) : CallSim Tryz.prog 79 [.str a0, .str a1] H (.sl p.1) p.2 := by
  refine callSim (fn := Tryz.f79) (ret := ret79) Tryz.func79 rfl Tryz.ntmps79 rfl ?_ h
  unfold r79
  refine f_seq ?_
  refine f_region ?_
  refine f_op rfl rfl (s_as (v := .sl ⟨true, 0, 0, 0, 0, 0⟩) rfl) ?_
  refine f_nil ?_
  refine f_seq ?_
  refine f_region ?_
  refine f_op rfl rfl (s_mv (v := .str a0) rfl) ?_
  refine f_op rfl rfl (s_mv (v := .str a1) rfl) ?_
  refine o_bind ?_; intro p1 hp1
  refine f_op rfl rfl (s_callF rfl ok107 (sim107 happ hp1)) ?_
  refine f_op rfl rfl (s_as (v := .sl p1.1) rfl) ?_
  refine f_nil ?_
  exact f_ret (.tmp rfl (.nil)) rfl

/- 161 slices.Index[[]string,string] -/
theorem ok161 : FnOk Tryz.prog 161 := ⟨⟨Tryz.f161, Tryz.func161, by kernel_rfl, rfl⟩⟩
theorem s161_l0 : ∀ (k_ : Nat) (v1 : Sl) (v2 : ByteArray) (v3 : Int) (v4 : Int) (H : Hp), Fin Tryz.prog Tryz.f161 ret161 19 (todoAt (bodyOf Tryz.f161) [1, 0, 1, 0, 0] []) [(0, .sl v1), (1, .str v2), (7, .int .i64 v3), (8, .int .i64 v4)] H (r161_l0 k_ v1 v2 v3 v4 H) := by
  intro k_
  induction k_ with
  | zero => intro _ _ _ _ _; exact f_none
  | succ k_ ih =>
    intro v1 v2 v3 v4 H
    rw [r161_l0]
    refine f_seq ?_
    refine f_region ?_
    refine f_op rfl rfl (s_lss rfl rfl) ?_
    refine f_nil ?_
    refine f_seq ?_
    refine f_if (fun h1 => ?_) (fun h1 => ?_)
    · skip
      refine f_know 9 rfl (dec_true h1) ?_
      refine f_condT rfl ?_
      refine f_skip ?_
      refine f_seq ?_
      refine f_block ?_
      refine f_seq ?_
      refine f_region ?_
      refine f_op rfl rfl (s_mv (v := .int .i64 v4) rfl) ?_
      refine f_op rfl rfl (s_as (v := .int .i64 v4) rfl) ?_
      refine f_nil ?_
      refine f_seq ?_
      refine f_region ?_
      refine f_op rfl rfl (s_mv (v := .str v2) rfl) ?_
      refine f_op rfl rfl (s_mv (v := .sl v1) rfl) ?_
      refine f_op rfl rfl (s_mv (v := .int .i64 v4) rfl) ?_
      refine o_ck fun g2 => ?_
      refine f_op rfl rfl (s_idx Tryz.underlying38 ty9 rfl rfl g2) ?_
      refine o_bind ?_; intro x3 hx3
      refine f_op rfl rfl (s_load Tryz.underlying9 rfl rfl (ldStr_eq hx3)) ?_
      refine f_op rfl rfl (s_eqStr rfl rfl) ?_
      refine f_nil ?_
      refine f_if (fun h4 => ?_) (fun h4 => ?_)
      · skip
        refine f_know 16 rfl (bool_T h4) ?_
        refine f_condT rfl ?_
        refine f_seq ?_
        refine f_region ?_
        refine f_op rfl rfl (s_mv (v := .int .i64 v4) rfl) ?_
        refine f_op rfl rfl (s_as (v := .int .i64 v4) rfl) ?_
        refine f_nil ?_
        exact f_ret (.tmp rfl (.nil)) rfl
      · skip
        refine f_know 16 rfl (bool_F h4) ?_
        refine f_condF rfl ?_
        refine f_skip ?_
        refine f_inBlock ?_
        refine f_region ?_
        refine f_op rfl rfl (s_add rfl rfl) ?_
        refine f_op rfl rfl (s_mv (v := .int .i64 (w64 (v4 + 1))) rfl) ?_
        refine f_nil ?_
        refine f_inLoop ?_
        refine f_keep [0, 1, 7, 8] ?_
        exact ih v1 v2 v3 (w64 (v4 + 1)) H
    · skip
      refine f_know 9 rfl (dec_false h1) ?_
      refine f_condF rfl ?_
      refine f_exit rfl ?_
      refine f_seq ?_
      refine f_region ?_
      refine f_op rfl rfl (s_as (v := .int .i64 (-1)) rfl) ?_
      refine f_nil ?_
      exact f_ret (.tmp rfl (.nil)) rfl

theorem sim161 {a0 : Sl} {a1 : ByteArray} {H : Hp} {p : Int × Hp} (h : r161 a0 a1 H = some p) : CallSim Tryz.prog 161 [.sl a0, .str a1] H (.int .i64 p.1) p.2 := by
  refine callSim (fn := Tryz.f161) (ret := ret161) Tryz.func161 rfl Tryz.ntmps161 rfl ?_ h
  unfold r161
  refine f_seq ?_
  refine f_region ?_
  refine f_op rfl rfl (s_as (v := .int .i64 0) rfl) ?_
  refine f_nil ?_
  refine f_seq ?_
  refine f_seq ?_
  refine f_region ?_
  refine f_op rfl rfl (s_mv (v := .sl a0) rfl) ?_
  refine f_op rfl rfl (s_lenS rfl Tryz.underlying38 rfl) ?_
  refine f_op rfl rfl (s_mv (v := .int .i64 0) rfl) ?_
  refine f_nil ?_
  refine f_block ?_
  refine f_loop ?_
  refine f_keep [0, 1, 7, 8] ?_
  exact s161_l0 FUEL a0 a1 (a0.len : Int) 0 H

/- 108 slices.Contains[[]string,string] -/
theorem ok108 : FnOk Tryz.prog 108 := ⟨⟨Tryz.f108, Tryz.func108, by kernel_rfl, rfl⟩⟩
theorem sim108 {a0 : Sl} {a1 : ByteArray} {H : Hp} {p : Bool × Hp} (h : r108 a0 a1 H = some p) : CallSim Tryz.prog 108 [.sl a0, .str a1] H (.bool p.1) p.2 := by
  refine callSim (fn := Tryz.f108) (ret := ret108) Tryz.func108 rfl Tryz.ntmps108 rfl ?_ h
  unfold r108
  refine f_seq ?_
  refine f_region ?_
  refine f_op rfl rfl (s_as (v := .bool false) rfl) ?_
  refine f_nil ?_
  refine f_seq ?_
  refine f_region ?_
  refine f_op rfl rfl (s_mv (v := .sl a0) rfl) ?_
  refine f_op rfl rfl (s_mv (v := .str a1) rfl) ?_
  refine o_bind ?_; intro p1 hp1
  refine f_op rfl rfl (s_callF rfl ok161 (sim161 hp1)) ?_
  refine f_op rfl rfl (s_geq rfl rfl) ?_
  refine f_op rfl rfl (s_as (v := .bool (decide (0 ≤ p1.1))) rfl) ?_
  refine f_nil ?_
  exact f_ret (.tmp rfl (.nil)) rfl

/- 162 slices.IndexFunc[[]byte,byte] -/
theorem ok162 : FnOk Tryz.prog 162 := ⟨⟨Tryz.f162, Tryz.func162, by kernel_rfl, rfl⟩⟩
theorem s162_l0 {app : App} (happ : AppSim Tryz.prog app) : ∀ (k_ : Nat) (v1 : Sl) (v2 : AV) (v3 : Int) (v4 : Int) (H : Hp), Fin Tryz.prog Tryz.f162 ret162 19 (todoAt (bodyOf Tryz.f162) [1, 0, 1, 0, 0] []) [(0, .sl v1), (1, v2), (7, .int .i64 v3), (8, .int .i64 v4)] H (r162_l0 app k_ v1 v2 v3 v4 H) := by
  intro k_
  induction k_ with
  | zero => intro _ _ _ _ _; exact f_none
  | succ k_ ih =>
    intro v1 v2 v3 v4 H
    rw [r162_l0]
    refine f_seq ?_
    refine f_region ?_
    refine f_op rfl rfl (s_lss rfl rfl) ?_
    refine f_nil ?_
    refine f_seq ?_
    refine f_if (fun h1 => ?_) (fun h1 => ?_)
    · skip
      refine f_know 9 rfl (dec_true h1) ?_
      refine f_condT rfl ?_
      refine f_skip ?_
      refine f_seq ?_
      refine f_block ?_
      refine f_seq ?_
      refine f_region ?_
      refine f_op rfl rfl (s_mv (v := .int .i64 v4) rfl) ?_
      refine f_op rfl rfl (s_as (v := .int .i64 v4) rfl) ?_
      refine f_nil ?_
      refine f_seq ?_
      refine f_region ?_
      refine f_op rfl rfl (s_mv (v := v2) rfl) ?_
      refine f_op rfl rfl (s_mv (v := .sl v1) rfl) ?_
      refine f_op rfl rfl (s_mv (v := .int .i64 v4) rfl) ?_
      refine o_ck fun g2 => ?_
      refine f_op rfl rfl (s_idx Tryz.underlying40 ty5 rfl rfl g2) ?_
      refine o_bind ?_; intro x3 hx3
      refine f_op rfl rfl (s_load Tryz.underlying5 rfl rfl (ldI_eq hx3)) ?_
      refine o_bind ?_; intro p4 hp4
      refine o_bind ?_; intro x5 hx5
      refine f_op rfl rfl (s_callv happ rfl rfl hp4) ?_
      refine o_know 16 rfl (asB_eq hx5) ?_
      refine f_nil ?_
      refine f_if (fun h6 => ?_) (fun h6 => ?_)
      · skip
        refine f_know 16 rfl (bool_T h6) ?_
        refine f_condT rfl ?_
        refine f_seq ?_
        refine f_region ?_
        refine f_op rfl rfl (s_mv (v := .int .i64 v4) rfl) ?_
        refine f_op rfl rfl (s_as (v := .int .i64 v4) rfl) ?_
        refine f_nil ?_
        exact f_ret (.tmp rfl (.nil)) rfl
      · skip
        refine f_know 16 rfl (bool_F h6) ?_
        refine f_condF rfl ?_
        refine f_skip ?_
        refine f_inBlock ?_
        refine f_region ?_
        refine f_op rfl rfl (s_add rfl rfl) ?_
        refine f_op rfl rfl (s_mv (v := .int .i64 (w64 (v4 + 1))) rfl) ?_
        refine f_nil ?_
        refine f_inLoop ?_
        refine f_keep [0, 1, 7, 8] ?_
        exact ih v1 v2 v3 (w64 (v4 + 1)) p4.2
    · skip
      refine f_know 9 rfl (dec_false h1) ?_
      refine f_condF rfl ?_
      refine f_exit rfl ?_
      refine f_seq ?_
      refine f_region ?_
      refine f_op rfl rfl (s_as (v := .int .i64 (-1)) rfl) ?_
      refine f_nil ?_
      exact f_ret (.tmp rfl (.nil)) rfl

theorem sim162 {app : App} (happ : AppSim Tryz.prog app) {a0 : Sl} {a1 : AV} {H : Hp} {p : Int × Hp} (h : r162 app a0 a1 H = some p) : CallSim Tryz.prog 162 [.sl a0, a1] H (.int .i64 p.1) p.2 := by
  refine callSim (fn := Tryz.f162) (ret := ret162) Tryz.func162 rfl Tryz.ntmps162 rfl ?_ h
  unfold r162
  refine f_seq ?_
  refine f_region ?_
  refine f_op rfl rfl (s_as (v := .int .i64 0) rfl) ?_
  refine f_nil ?_
  refine f_seq ?_
  refine f_seq ?_
  refine f_region ?_
  refine f_op rfl rfl (s_mv (v := .sl a0) rfl) ?_
  refine f_op rfl rfl (s_lenS rfl Tryz.underlying40 rfl) ?_
  refine f_op rfl rfl (s_mv (v := .int .i64 0) rfl) ?_
  refine f_nil ?_
  refine f_block ?_
  refine f_loop ?_
  refine f_keep [0, 1, 7, 8] ?_
  exact s162_l0 happ FUEL a0 a1 (a0.len : Int) 0 H

/- 109 slices.ContainsFunc[[]byte,byte] -/
theorem ok109 : FnOk Tryz.prog 109 := ⟨⟨Tryz.f109, Tryz.func109, by kernel_rfl, rfl⟩⟩
theorem sim109 {app : App} (happ : AppSim Tryz.prog app) {a0 : Sl} {a1 : AV} {H : Hp} {p : Bool × Hp} (h : r109 app a0 a1 H = some p) : CallSim Tryz.prog 109 [.sl a0, a1] H (.bool p.1) p.2 := by
  refine callSim (fn := Tryz.f109) (ret := ret109) Tryz.func109 rfl Tryz.ntmps109 rfl ?_ h
  unfold r109
  refine f_seq ?_
  refine f_region ?_
  refine f_op rfl rfl (s_as (v := .bool false) rfl) ?_
  refine f_nil ?_
  refine f_seq ?_
  refine f_region ?_
  refine f_op rfl rfl (s_mv (v := .sl a0) rfl) ?_
  refine f_op rfl rfl (s_mv (v := a1) rfl) ?_
  refine o_bind ?_; intro p1 hp1
  refine f_op rfl rfl (s_callF rfl ok162 (sim162 happ hp1)) ?_
  refine f_op rfl rfl (s_geq rfl rfl) ?_
  refine f_op rfl rfl (s_as (v := .bool (decide (0 ≤ p1.1))) rfl) ?_
  refine f_nil ?_
  exact f_ret (.tmp rfl (.nil)) rfl

/- 110 congou/chest.isLine$1 -/
theorem ok110 : FnOk Tryz.prog 110 := ⟨⟨Tryz.f110, Tryz.func110, by kernel_rfl, rfl⟩⟩
theorem sim110 {a0 : Int} {H : Hp} {p : Bool × Hp} (h : r110 a0 H = some p) : CallSim Tryz.prog 110 [.int .u8 a0] H (.bool p.1) p.2 := by
  refine callSim (fn := Tryz.f110) (ret := ret110) Tryz.func110 rfl Tryz.ntmps110 rfl ?_ h
  unfold r110
  refine f_seq ?_
  refine f_region ?_
  refine f_op rfl rfl (s_as (v := .bool false) rfl) ?_
  refine f_nil ?_
  refine f_seq ?_
  refine f_region ?_
  refine f_op rfl rfl (s_mv (v := .int .u8 a0) rfl) ?_
  refine f_op rfl rfl (s_lss rfl rfl) ?_
  refine f_op rfl rfl (s_mv (v := .bool (decide (a0 < 32))) rfl) ?_
  refine o_if (fun h1 => ?_) (fun h1 => ?_)
  · skip
    refine o_know 5 rfl (dec_true h1) ?_
    refine f_no rfl rfl ?_
    refine f_no rfl rfl ?_
    refine f_op rfl rfl (s_pickT (v := .bool true) rfl rfl) ?_
    refine f_op rfl rfl (s_as (v := .bool true) rfl) ?_
    refine f_nil ?_
    exact f_ret (.tmp rfl (.nil)) rfl
  · skip
    refine o_know 5 rfl (dec_false h1) ?_
    refine f_op rfl rfl (s_mv (v := .int .u8 a0) rfl) ?_
    refine f_op rfl rfl (s_gtr rfl rfl) ?_
    refine f_op rfl rfl (s_pickF (v := .bool (decide (126 < a0))) rfl rfl) ?_
    refine f_op rfl rfl (s_as (v := .bool (decide (126 < a0))) rfl) ?_
    refine f_nil ?_
    exact f_ret (.tmp rfl (.nil)) rfl

/- 80 congou/chest.isLine -/
theorem ok80 : FnOk Tryz.prog 80 := ⟨⟨Tryz.f80, Tryz.func80, by kernel_rfl, rfl⟩⟩
theorem sim80 {app : App} (happ : AppSim Tryz.prog app) {a0 : ByteArray} {H : Hp} {p : Bool × Hp} (h : r80 app a0 H = some p) : CallSim Tryz.prog 80 [.str a0] H (.bool p.1) p.2 := by
  refine callSim (fn := Tryz.f80) (ret := ret80) Tryz.func80 rfl Tryz.ntmps80 rfl ?_ h
  unfold r80
  refine f_seq ?_
  refine f_region ?_
  refine f_op rfl rfl (s_as (v := .bool false) rfl) ?_
  refine f_nil ?_
  refine f_seq ?_
  refine f_region ?_
  refine f_op rfl rfl (s_mv (v := .str a0) rfl) ?_
  refine f_op rfl rfl (s_lenStr rfl Tryz.underlying9 rfl) ?_
  refine f_op rfl rfl (s_leq rfl rfl) ?_
  refine f_op rfl rfl (s_mv (v := .bool (decide ((a0.size : Int) ≤ 60))) rfl) ?_
  refine o_if (fun h1 => ?_) (fun h1 => ?_)
  · skip
    refine o_know 6 rfl (dec_true h1) ?_
    refine f_op rfl rfl (s_mv (v := .str a0) rfl) ?_
    refine o_bind ?_; intro p2 hp2
    refine f_op rfl rfl (s_callF rfl ok79 (sim79 happ hp2)) ?_
    refine o_bind ?_; intro p3 hp3
    refine f_op rfl rfl (s_callF rfl ok108 (sim108 hp3)) ?_
    refine f_op rfl rfl (s_not rfl) ?_
    refine f_op rfl rfl (s_pickT (v := .bool (!p3.1)) rfl rfl) ?_
    refine f_op rfl rfl (s_mv (v := .bool (!p3.1)) rfl) ?_
    refine o_if (fun h4 => ?_) (fun h4 => ?_)
    · skip
      refine o_know 12 rfl (bool_notT h4) ?_
      refine f_no rfl rfl ?_
      refine f_no rfl rfl ?_
      refine f_no rfl rfl ?_
      refine f_no rfl rfl ?_
      refine f_op rfl rfl (s_pickF (v := .bool false) rfl rfl) ?_
      refine f_op rfl rfl (s_as (v := .bool false) rfl) ?_
      refine f_nil ?_
      exact f_ret (.tmp rfl (.nil)) rfl
    · skip
      refine o_know 12 rfl (bool_notF h4) ?_
      refine f_op rfl rfl (s_mv (v := .str a0) rfl) ?_
      refine f_op rfl rfl (s_strBytes Tryz.underlying9 Tryz.underlying40 Tryz.underlying5 rfl) ?_
      refine o_bind ?_; intro p5 hp5
      refine f_op rfl rfl (s_callF rfl ok109 (sim109 happ hp5)) ?_
      refine f_op rfl rfl (s_not rfl) ?_
      refine f_op rfl rfl (s_pickT (v := .bool (!p5.1)) rfl rfl) ?_
      refine f_op rfl rfl (s_as (v := .bool (!p5.1)) rfl) ?_
      refine f_nil ?_
      exact f_ret (.tmp rfl (.nil)) rfl
  · skip
    refine o_know 6 rfl (dec_false h1) ?_
    refine f_no rfl rfl ?_
    refine f_no rfl rfl ?_
    refine f_no rfl rfl ?_
    refine f_no rfl rfl ?_
    refine f_op rfl rfl (s_pickF (v := .bool false) rfl rfl) ?_
    refine f_op rfl rfl (s_mv (v := .bool false) rfl) ?_
    refine f_no rfl rfl ?_
    refine f_no rfl rfl ?_
    refine f_no rfl rfl ?_
    refine f_no rfl rfl ?_
    refine f_op rfl rfl (s_pickF (v := .bool false) rfl rfl) ?_
    refine f_op rfl rfl (s_as (v := .bool false) rfl) ?_
    refine f_nil ?_
    exact f_ret (.tmp rfl (.nil)) rfl

/- 81 congou/chest.isName -/
theorem ok81 : FnOk Tryz.prog 81 := ⟨⟨Tryz.f81, Tryz.func81, by kernel_rfl, rfl⟩⟩
theorem s81_j1 (kt0 : ByteArray → Nat → Hp → Option (Bool × Hp)) (hkt0 : ∀ (v1 : ByteArray) (v2 : Nat) (H : Hp), Fin Tryz.prog Tryz.f81 ret81 23 (todoAt (bodyOf Tryz.f81) [1, 0, 1, 0, 0] []) [(0, .str v1), (6, .ptr v2 0)] H (kt0 v1 v2 H)) (v1 : ByteArray) (v2 : Nat) (v3 : Bool) (H : Hp) : Fin Tryz.prog Tryz.f81 ret81 23 (todoAt (bodyOf Tryz.f81) [1, 0, 1, 0, 0, 1, 1, 0, 1, 1] []) [(0, .str v1), (6, .ptr v2 0), (15, .bool v3)] H (r81_j1 kt0 v1 v2 v3 H) := by
  unfold r81_j1
  refine f_if (fun h1 => ?_) (fun h1 => ?_)
  · skip
    refine f_know 15 rfl (bool_T h1) ?_
    refine f_condT rfl ?_
    refine f_seq ?_
    refine f_region ?_
    refine f_op rfl rfl (s_as (v := .bool false) rfl) ?_
    refine f_nil ?_
    exact f_ret (.tmp rfl (.nil)) rfl
  · skip
    refine f_know 15 rfl (bool_F h1) ?_
    refine f_condF rfl ?_
    refine f_skip ?_
    refine f_inBlock ?_
    refine f_inLoop ?_
    refine f_keep [0, 6] ?_
    exact hkt0 v1 v2 H

theorem s81_l0 : ∀ (k_ : Nat) (v1 : ByteArray) (v2 : Nat) (H : Hp), Fin Tryz.prog Tryz.f81 ret81 23 (todoAt (bodyOf Tryz.f81) [1, 0, 1, 0, 0] []) [(0, .str v1), (6, .ptr v2 0)] H (r81_l0 k_ v1 v2 H) := by
  intro k_
  induction k_ with
  | zero => intro _ _ _; exact f_none
  | succ k_ ih =>
    intro v1 v2 H
    rw [r81_l0]
    refine f_seq ?_
    refine f_region ?_
    refine o_bind ?_; intro x1 hx1
    refine f_op rfl rfl (s_nextStr rfl rfl hx1) ?_
    refine f_op rfl rfl (s_next0 rfl) ?_
    refine f_nil ?_
    refine f_seq ?_
    refine f_if (fun h2 => ?_) (fun h2 => ?_)
    · skip
      refine f_know 8 rfl (bool_T h2) ?_
      refine f_condT rfl ?_
      refine f_skip ?_
      refine f_block ?_
      refine f_seq ?_
      refine f_region ?_
      refine o_bind ?_; intro x3 hx3
      refine f_op rfl rfl (s_next2 rfl hx3) ?_
      refine f_op rfl rfl (s_as (v := .int .i32 x3.2) rfl) ?_
      refine f_nil ?_
      refine f_seq ?_
      refine f_region ?_
      refine f_op rfl rfl (s_mv (v := .int .i32 x3.2) rfl) ?_
      refine f_op rfl rfl (s_lss rfl rfl) ?_
      refine f_op rfl rfl (s_mv (v := .bool (decide (x3.2 < 97))) rfl) ?_
      refine o_if (fun h4 => ?_) (fun h4 => ?_)
      · skip
        refine o_know 12 rfl (dec_true h4) ?_
        refine f_no rfl rfl ?_
        refine f_no rfl rfl ?_
        refine f_op rfl rfl (s_pickT (v := .bool true) rfl rfl) ?_
        refine f_nil ?_
        refine f_keep [0, 6, 15] ?_
        exact s81_j1 _ (fun v1_ v2_ H_ => ih v1_ v2_ H_) v1 v2 true x1.2
      · skip
        refine o_know 12 rfl (dec_false h4) ?_
        refine f_op rfl rfl (s_mv (v := .int .i32 x3.2) rfl) ?_
        refine f_op rfl rfl (s_gtr rfl rfl) ?_
        refine f_op rfl rfl (s_pickF (v := .bool (decide (122 < x3.2))) rfl rfl) ?_
        refine f_nil ?_
        refine f_keep [0, 6, 15] ?_
        exact s81_j1 _ (fun v1_ v2_ H_ => ih v1_ v2_ H_) v1 v2 (decide (122 < x3.2)) x1.2
    · skip
      refine f_know 8 rfl (bool_F h2) ?_
      refine f_condF rfl ?_
      refine f_exit rfl ?_
      refine f_seq ?_
      refine f_region ?_
      refine f_op rfl rfl (s_mv (v := .str v1) rfl) ?_
      refine f_op rfl rfl (s_neStr rfl rfl) ?_
      refine f_op rfl rfl (s_mv (v := .bool (!(strEq v1 (ByteArray.mk #[])))) rfl) ?_
      refine o_if (fun h5 => ?_) (fun h5 => ?_)
      · skip
        refine o_know 18 rfl (bool_notT h5) ?_
        refine f_no rfl rfl ?_
        refine f_no rfl rfl ?_
        refine f_no rfl rfl ?_
        refine f_op rfl rfl (s_pickF (v := .bool false) rfl rfl) ?_
        refine f_op rfl rfl (s_as (v := .bool false) rfl) ?_
        refine f_nil ?_
        exact f_ret (.tmp rfl (.nil)) rfl
      · skip
        refine o_know 18 rfl (bool_notF h5) ?_
        refine f_op rfl rfl (s_mv (v := .str v1) rfl) ?_
        refine f_op rfl rfl (s_lenStr rfl Tryz.underlying9 rfl) ?_
        refine f_op rfl rfl (s_leq rfl rfl) ?_
        refine f_op rfl rfl (s_pickT (v := .bool (decide ((v1.size : Int) ≤ 8))) rfl rfl) ?_
        refine f_op rfl rfl (s_as (v := .bool (decide ((v1.size : Int) ≤ 8))) rfl) ?_
        refine f_nil ?_
        exact f_ret (.tmp rfl (.nil)) rfl

theorem sim81 {a0 : ByteArray} {H : Hp} {p : Bool × Hp} (h : r81 a0 H = some p) : CallSim Tryz.prog 81 [.str a0] H (.bool p.1) p.2 := by
  refine callSim (fn := Tryz.f81) (ret := ret81) Tryz.func81 rfl Tryz.ntmps81 rfl ?_ h
  unfold r81
  refine f_seq ?_
  refine f_region ?_
  refine f_op rfl rfl (s_as (v := .bool false) rfl) ?_
  refine f_nil ?_
  refine f_seq ?_
  refine f_seq ?_
  refine f_region ?_
  refine f_op rfl rfl (s_mv (v := .str a0) rfl) ?_
  refine f_op rfl rfl (s_rangeStr Tryz.underlying9 rfl) ?_
  refine o_hp ?_; intro H1 hH1
  refine f_nil ?_
  refine f_block ?_
  refine f_loop ?_
  refine f_keep [0, 6] ?_
  exact s81_l0 FUEL a0 H.n H1

/- 165 internal/strconv.small -/
theorem ok165 : FnOk Tryz.prog 165 := ⟨⟨Tryz.f165, Tryz.func165, by kernel_rfl, rfl⟩⟩
theorem sim165 {a0 : Int} {H : Hp} {p : ByteArray × Hp} (h : r165 a0 H = some p) : CallSim Tryz.prog 165 [.int .i64 a0] H (.str p.1) p.2 := by
  refine callSim (fn := Tryz.f165) (ret := ret165) Tryz.func165 rfl Tryz.ntmps165 rfl ?_ h
  unfold r165
  refine f_seq ?_
  refine f_region ?_
  refine f_op rfl rfl (s_as (v := .str (ByteArray.mk #[])) rfl) ?_
  refine f_nil ?_
  refine f_seq ?_
  refine f_seq ?_
  refine f_region ?_
  refine f_op rfl rfl (s_mv (v := .int .i64 a0) rfl) ?_
  refine f_op rfl rfl (s_lss rfl rfl) ?_
  refine f_nil ?_
  refine f_if (fun h1 => ?_) (fun h1 => ?_)
  · skip
    refine f_know 4 rfl (dec_true h1) ?_
    refine f_condT rfl ?_
    refine f_seq ?_
    refine f_region ?_
    refine f_op rfl rfl (s_mv (v := .int .i64 a0) rfl) ?_
    refine f_op rfl rfl (s_mv (v := .int .i64 a0) rfl) ?_
    refine f_op rfl rfl (s_add rfl rfl) ?_
    refine o_ck fun g2 => ?_
    refine f_op rfl rfl (s_sliceStr Tryz.underlying9 rfl rfl rfl g2) ?_
    refine f_op rfl rfl (s_as (v := .str ((ByteArray.mk #[48, 49, 50, 51, 52, 53, 54, 55, 56, 57, 97, 98, 99, 100, 101, 102, 103, 104, 105, 106, 107, 108, 109, 110, 111, 112, 113, 114, 115, 116, 117, 118, 119, 120, 121, 122]).extract (a0 : Int).toNat (w64 (a0 + 1) : Int).toNat)) rfl) ?_
    refine f_nil ?_
    exact f_ret (.tmp rfl (.nil)) rfl
  · skip
    refine f_know 4 rfl (dec_false h1) ?_
    refine f_condF rfl ?_
    refine f_skip ?_
    refine f_seq ?_
    refine f_region ?_
    refine f_op rfl rfl (s_mv (v := .int .i64 a0) rfl) ?_
    refine f_op rfl rfl (s_mul rfl rfl) ?_
    refine f_op rfl rfl (s_mv (v := .int .i64 a0) rfl) ?_
    refine f_op rfl rfl (s_mul rfl rfl) ?_
    refine f_op rfl rfl (s_add rfl rfl) ?_
    refine o_ck fun g3 => ?_
    refine f_op rfl rfl (s_sliceStr Tryz.underlying9 rfl rfl rfl g3) ?_
    refine f_op rfl rfl (s_as (v := .str ((strC Tryz.f165 [1, 1, 0] 5 0).extract (w64 (a0 * 2) : Int).toNat (w64 ((w64 (a0 * 2)) + 2) : Int).toNat)) rfl) ?_
    refine f_nil ?_
    exact f_ret (.tmp rfl (.nil)) rfl

/- 226 internal/strconv.log10Pow2 -/
theorem ok226 : FnOk Tryz.prog 226 := ⟨⟨Tryz.f226, Tryz.func226, by kernel_rfl, rfl⟩⟩
theorem sim226 {a0 : Int} {H : Hp} {p : Int × Hp} (h : r226 a0 H = some p) : CallSim Tryz.prog 226 [.int .i64 a0] H (.int .i64 p.1) p.2 := by
  refine callSim (fn := Tryz.f226) (ret := ret226) Tryz.func226 rfl Tryz.ntmps226 rfl ?_ h
  unfold r226
  refine f_seq ?_
  refine f_region ?_
  refine f_op rfl rfl (s_as (v := .int .i64 0) rfl) ?_
  refine f_nil ?_
  refine f_seq ?_
  refine f_region ?_
  refine f_op rfl rfl (s_mv (v := .int .i64 a0) rfl) ?_
  refine f_op rfl rfl (s_mul rfl rfl) ?_
  refine f_op rfl rfl (s_shr rfl rfl (by decide)) ?_
  refine f_op rfl rfl (s_as (v := .int .i64 (shrOf .i64 (w64 (a0 * 78913)) 18)) rfl) ?_
  refine f_nil ?_
  exact f_ret (.tmp rfl (.nil)) rfl

/- 227 math/bits.Len64 -/
theorem ok227 : FnOk Tryz.prog 227 := ⟨⟨Tryz.f227, Tryz.func227, by kernel_rfl, rfl⟩⟩
theorem s227_j0 (v1 : Int) (v2 : Int) (H : Hp) : Fin Tryz.prog Tryz.f227 ret227 25 (todoAt (bodyOf Tryz.f227) [1, 1, 1, 1] []) [(0, .int .u64 v1), (2, .int .i64 v2)] H (r227_j0 v1 v2 H) := by
  unfold r227_j0
  refine f_seq ?_
  refine f_region ?_
  refine f_op rfl rfl (s_mv (v := .int .i64 v2) rfl) ?_
  refine f_op rfl rfl (s_mv (v := .int .u64 v1) rfl) ?_
  refine f_op rfl rfl (s_convInt Tryz.underlying214 Tryz.underlying5 rfl) ?_
  refine o_ck fun g1 => ?_
  refine f_op rfl rfl (s_indexStr Tryz.underlying9 rfl rfl g1) ?_
  refine f_op rfl rfl (s_convInt Tryz.underlying5 Tryz.underlying3 rfl) ?_
  refine f_op rfl rfl (s_add rfl rfl) ?_
  refine f_op rfl rfl (s_as (v := .int .i64 (w64 (v2 + (w64 (bt (strC Tryz.f227 [1, 1, 1, 1, 0] 3 0) (IntKind.wrap .u8 (v1))))))) rfl) ?_
  refine f_nil ?_
  exact f_ret (.tmp rfl (.nil)) rfl

theorem s227_j1 (v1 : Int) (v2 : Int) (H : Hp) : Fin Tryz.prog Tryz.f227 ret227 25 (todoAt (bodyOf Tryz.f227) [1, 1, 1] []) [(0, .int .u64 v1), (2, .int .i64 v2)] H (r227_j1 v1 v2 H) := by
  unfold r227_j1
  refine f_seq ?_
  refine f_seq ?_
  refine f_region ?_
  refine f_op rfl rfl (s_mv (v := .int .u64 v1) rfl) ?_
  refine f_op rfl rfl (s_geq rfl rfl) ?_
  refine f_nil ?_
  refine f_if (fun h1 => ?_) (fun h1 => ?_)
  · skip
    refine f_know 14 rfl (dec_true h1) ?_
    refine f_condT rfl ?_
    refine f_seq ?_
    refine f_region ?_
    refine f_op rfl rfl (s_mv (v := .int .u64 v1) rfl) ?_
    refine f_op rfl rfl (s_shr rfl rfl (by decide)) ?_
    refine f_op rfl rfl (s_as (v := .int .u64 (shrOf .u64 v1 8)) rfl) ?_
    refine f_nil ?_
    refine f_region ?_
    refine f_op rfl rfl (s_mv (v := .int .i64 v2) rfl) ?_
    refine f_op rfl rfl (s_add rfl rfl) ?_
    refine f_op rfl rfl (s_as (v := .int .i64 (w64 (v2 + 8))) rfl) ?_
    refine f_nil ?_
    refine f_keep [0, 2] ?_
    exact s227_j0 (shrOf .u64 v1 8) (w64 (v2 + 8)) H
  · skip
    refine f_know 14 rfl (dec_false h1) ?_
    refine f_condF rfl ?_
    refine f_skip ?_
    refine f_keep [0, 2] ?_
    exact s227_j0 v1 v2 H

theorem s227_j2 (v1 : Int) (v2 : Int) (H : Hp) : Fin Tryz.prog Tryz.f227 ret227 25 (todoAt (bodyOf Tryz.f227) [1, 1] []) [(0, .int .u64 v1), (2, .int .i64 v2)] H (r227_j2 v1 v2 H) := by
  unfold r227_j2
  refine f_seq ?_
  refine f_seq ?_
  refine f_region ?_
  refine f_op rfl rfl (s_mv (v := .int .u64 v1) rfl) ?_
  refine f_op rfl rfl (s_geq rfl rfl) ?_
  refine f_nil ?_
  refine f_if (fun h1 => ?_) (fun h1 => ?_)
  · skip
    refine f_know 8 rfl (dec_true h1) ?_
    refine f_condT rfl ?_
    refine f_seq ?_
    refine f_region ?_
    refine f_op rfl rfl (s_mv (v := .int .u64 v1) rfl) ?_
    refine f_op rfl rfl (s_shr rfl rfl (by decide)) ?_
    refine f_op rfl rfl (s_as (v := .int .u64 (shrOf .u64 v1 16)) rfl) ?_
    refine f_nil ?_
    refine f_region ?_
    refine f_op rfl rfl (s_mv (v := .int .i64 v2) rfl) ?_
    refine f_op rfl rfl (s_add rfl rfl) ?_
    refine f_op rfl rfl (s_as (v := .int .i64 (w64 (v2 + 16))) rfl) ?_
    refine f_nil ?_
    refine f_keep [0, 2] ?_
    exact s227_j1 (shrOf .u64 v1 16) (w64 (v2 + 16)) H
  · skip
    refine f_know 8 rfl (dec_false h1) ?_
    refine f_condF rfl ?_
    refine f_skip ?_
    refine f_keep [0, 2] ?_
    exact s227_j1 v1 v2 H

theorem sim227 {a0 : Int} {H : Hp} {p : Int × Hp} (h : r227 a0 H = some p) : CallSim Tryz.prog 227 [.int .u64 a0] H (.int .i64 p.1) p.2 := by
  refine callSim (fn := Tryz.f227) (ret := ret227) Tryz.func227 rfl Tryz.ntmps227 rfl ?_ h
  unfold r227
  refine f_seq ?_
  refine f_region ?_
  refine f_op rfl rfl (s_as (v := .int .i64 0) rfl) ?_
  refine f_nil ?_
  refine f_seq ?_
  refine f_seq ?_
  refine f_region ?_
  refine f_op rfl rfl (s_mv (v := .int .u64 a0) rfl) ?_
  refine f_op rfl rfl (s_geq rfl rfl) ?_
  refine f_nil ?_
  refine f_if (fun h1 => ?_) (fun h1 => ?_)
  · skip
    refine f_know 4 rfl (dec_true h1) ?_
    refine f_condT rfl ?_
    refine f_seq ?_
    refine f_region ?_
    refine f_op rfl rfl (s_mv (v := .int .u64 a0) rfl) ?_
    refine f_op rfl rfl (s_shr rfl rfl (by decide)) ?_
    refine f_op rfl rfl (s_as (v := .int .u64 (shrOf .u64 a0 32)) rfl) ?_
    refine f_nil ?_
    refine f_region ?_
    refine f_op rfl rfl (s_as (v := .int .i64 32) rfl) ?_
    refine f_nil ?_
    refine f_keep [0, 2] ?_
    exact s227_j2 (shrOf .u64 a0 32) 32 H
  · skip
    refine f_know 4 rfl (dec_false h1) ?_
    refine f_condF rfl ?_
    refine f_skip ?_
    refine f_keep [0, 2] ?_
    exact s227_j2 a0 0 H

/- 228 internal/strconv.bool2[int] -/
theorem ok228 : FnOk Tryz.prog 228 := ⟨⟨Tryz.f228, Tryz.func228, by kernel_rfl, rfl⟩⟩
theorem sim228 {a0 : Bool} {H : Hp} {p : Int × Hp} (h : r228 a0 H = some p) : CallSim Tryz.prog 228 [.bool a0] H (.int .i64 p.1) p.2 := by
  refine callSim (fn := Tryz.f228) (ret := ret228) Tryz.func228 rfl Tryz.ntmps228 rfl ?_ h
  unfold r228
  refine f_seq ?_
  refine f_region ?_
  refine f_op rfl rfl (s_as (v := .int .i64 0) rfl) ?_
  refine f_nil ?_
  refine f_seq ?_
  refine f_seq ?_
  refine f_region ?_
  refine f_op rfl rfl (s_mv (v := .bool a0) rfl) ?_
  refine f_nil ?_
  refine f_if (fun h1 => ?_) (fun h1 => ?_)
  · skip
    refine f_know 3 rfl (bool_T h1) ?_
    refine f_condT rfl ?_
    refine f_seq ?_
    refine f_region ?_
    refine f_op rfl rfl (s_as (v := .int .i64 1) rfl) ?_
    refine f_nil ?_
    exact f_ret (.tmp rfl (.nil)) rfl
  · skip
    refine f_know 3 rfl (bool_F h1) ?_
    refine f_condF rfl ?_
    refine f_skip ?_
    refine f_seq ?_
    refine f_region ?_
    refine f_op rfl rfl (s_as (v := .int .i64 0) rfl) ?_
    refine f_nil ?_
    exact f_ret (.tmp rfl (.nil)) rfl

/- 166 internal/strconv.numDigits -/
theorem ok166 : FnOk Tryz.prog 166 := ⟨⟨Tryz.f166, Tryz.func166, by kernel_rfl, rfl⟩⟩
theorem sim166 {a0 : Int} {H : Hp} {p : Int × Hp} (h : r166 a0 H = some p) : CallSim Tryz.prog 166 [.int .u64 a0] H (.int .i64 p.1) p.2 := by
  refine callSim (fn := Tryz.f166) (ret := ret166) Tryz.func166 rfl Tryz.ntmps166 rfl ?_ h
  unfold r166
  refine f_seq ?_
  refine f_region ?_
  refine f_op rfl rfl (s_as (v := .int .i64 0) rfl) ?_
  refine f_nil ?_
  refine f_seq ?_
  refine f_region ?_
  refine f_op rfl rfl (s_mv (v := .int .u64 a0) rfl) ?_
  refine o_bind ?_; intro p1 hp1
  refine f_op rfl rfl (s_callF rfl ok227 (sim227 hp1)) ?_
  refine o_bind ?_; intro p2 hp2
  refine f_op rfl rfl (s_callF rfl ok226 (sim226 hp2)) ?_
  refine f_op rfl rfl (s_as (v := .int .i64 p2.1) rfl) ?_
  refine f_nil ?_
  refine f_seq ?_
  refine f_region ?_
  refine f_op rfl rfl (s_mv (v := .int .i64 p2.1) rfl) ?_
  refine f_op rfl rfl (s_mv (v := .int .u64 a0) rfl) ?_
  refine f_op rfl rfl (s_mv (v := .int .i64 p2.1) rfl) ?_
  exact o_none

end Go.Lt.P10
