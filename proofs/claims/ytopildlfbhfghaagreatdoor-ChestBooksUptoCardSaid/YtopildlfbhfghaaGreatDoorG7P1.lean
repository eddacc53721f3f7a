/- PRINTED BY A PROGRAM OF OURS: what each function that 'ChestBooks' reaches computes on the abstract heap, and that the translated code does just that. Nothing is asked of the input. -/
import Derived.Test.YtopildlfbhfghaaGreatDoorG7P0
set_option linter.unusedVariables false
set_option linter.unusedSimpArgs false
set_option maxRecDepth 100000
set_option maxHeartbeats 4000000
namespace Go.Lt.P10
open Go Go.Lt Go.Proofs
/- 108 congou/chest.read -/
theorem ok108 : FnOk Tryz.prog 108 := ⟨⟨Tryz.f108, Tryz.func108, by kernel_rfl, rfl⟩⟩
theorem s108_j2 {app : App} (happ : AppSim Tryz.prog app) (kt1 : ByteArray → Nat → Sl → Int → Int → Hp → Option ((Sl × Sl × Bool) × Hp)) (hkt1 : ∀ (v1 : ByteArray) (v2 : Nat) (v3 : Sl) (v4 : Int) (v5 : Int) (H : Hp), Fin Tryz.prog Tryz.f108 ret108 59 (todoAt (bodyOf Tryz.f108) [1, 1, 1, 0, 1, 0, 0] []) [(0, .str v1), (4, .ptr v2 0), (24, .sl v3), (25, .int .i64 v4), (26, .int .i64 v5)] H (kt1 v1 v2 v3 v4 v5 H)) (v1 : ByteArray) (v2 : Nat) (v3 : Bool) (v4 : Sl) (v5 : Int) (v6 : Int) (H : Hp) : Fin Tryz.prog Tryz.f108 ret108 59 (todoAt (bodyOf Tryz.f108) [1, 1, 1, 0, 1, 0, 0, 1, 1, 0, 0, 1, 1] []) [(0, .str v1), (4, .ptr v2 0), (5, .bool v3), (24, .sl v4), (25, .int .i64 v5), (26, .int .i64 v6)] H (r108_j2 app kt1 v1 v2 v3 v4 v5 v6 H) := by
  unfold r108_j2
  refine f_seq ?_
  refine f_region ?_
  refine f_op rfl rfl (s_mv (v := .bool v3) rfl) ?_
  refine f_op rfl rfl (s_not rfl) ?_
  refine f_nil ?_
  refine f_if (fun h1 => ?_) (fun h1 => ?_)
  · skip
    refine f_know 55 rfl (bool_notT h1) ?_
    refine f_condF rfl ?_
    refine f_skip ?_
    refine f_inBlock ?_
    refine f_region ?_
    refine f_op rfl rfl (s_add rfl rfl) ?_
    refine f_op rfl rfl (s_mv (v := .int .i64 (w64 (v6 + 1))) rfl) ?_
    refine f_nil ?_
    refine f_inLoop ?_
    refine f_keep [0, 4, 24, 25, 26] ?_
    exact hkt1 v1 v2 v4 v5 (w64 (v6 + 1)) H
  · skip
    refine f_know 55 rfl (bool_notF h1) ?_
    refine f_condT rfl ?_
    refine f_seq ?_
    refine f_region ?_
    refine f_op rfl rfl (s_build (cs := [.sl ⟨true, 0, 0, 0, 0, 0⟩, .sl ⟨true, 0, 0, 0, 0, 0⟩]) Tryz.underlying167 ty167 rfl pl167 rfl) ?_
    refine o_bind ?_; intro H2 hH2
    refine f_op rfl rfl (s_stores ty167 rfl rfl rfl rfl hH2 (Nat.le_of_eq (sts_mono hH2).symm)) ?_
    refine f_op rfl rfl (s_as (v := .bool false) rfl) ?_
    refine f_nil ?_
    refine f_bind ?_; intro x3 hx3
    refine f_bind ?_; intro x4 hx4
    exact f_ret (.cells Tryz.underlying167 rfl sz167 rfl (lds_cons (ldSl_eq hx3) (lds_cons (ldSl_eq hx4) (lds_nil))) (.tmp rfl (.nil))) rfl

theorem s108_l1 {app : App} (happ : AppSim Tryz.prog app) : ∀ (k_ : Nat) (v1 : ByteArray) (v2 : Nat) (v3 : Sl) (v4 : Int) (v5 : Int) (H : Hp), Fin Tryz.prog Tryz.f108 ret108 59 (todoAt (bodyOf Tryz.f108) [1, 1, 1, 0, 1, 0, 0] []) [(0, .str v1), (4, .ptr v2 0), (24, .sl v3), (25, .int .i64 v4), (26, .int .i64 v5)] H (r108_l1 app k_ v1 v2 v3 v4 v5 H) := by
  intro k_
  induction k_ with
  | zero => intro _ _ _ _ _ _; exact f_none
  | succ k_ ih =>
    intro v1 v2 v3 v4 v5 H
    rw [r108_l1]
    refine f_seq ?_
    refine f_region ?_
    refine f_op rfl rfl (s_lss rfl rfl) ?_
    refine f_nil ?_
    refine f_seq ?_
    refine f_if (fun h1 => ?_) (fun h1 => ?_)
    · skip
      refine f_know 27 rfl (dec_true h1) ?_
      refine f_condT rfl ?_
      refine f_skip ?_
      refine f_seq ?_
      refine f_block ?_
      refine f_seq ?_
      refine f_region ?_
      refine f_op rfl rfl (s_mv (v := .int .i64 v5) rfl) ?_
      refine o_ck fun g2 => ?_
      refine f_op rfl rfl (s_idx Tryz.underlying22 ty9 rfl rfl g2) ?_
      refine o_bind ?_; intro x3 hx3
      refine f_op rfl rfl (s_load Tryz.underlying9 rfl rfl (ldStr_eq hx3)) ?_
      refine f_op rfl rfl (s_as (v := .int .i64 v5) rfl) ?_
      refine f_op rfl rfl (s_as (v := .str x3) rfl) ?_
      refine f_nil ?_
      refine f_seq ?_
      refine f_seq ?_
      refine f_region ?_
      refine f_op rfl rfl (s_mv (v := .str v1) rfl) ?_
      refine f_op rfl rfl (s_mv (v := .int .i64 v5) rfl) ?_
      refine o_ck fun g4 => ?_
      refine f_op rfl rfl (s_indexStr Tryz.underlying9 rfl rfl g4) ?_
      refine f_op rfl rfl (s_eql rfl rfl) ?_
      refine f_nil ?_
      refine f_if (fun h5 => ?_) (fun h5 => ?_)
      · skip
        refine f_know 34 rfl (dec_true h5) ?_
        refine f_condT rfl ?_
        refine f_seq ?_
        refine f_region ?_
        refine f_op rfl rfl (s_fieldAddr Tryz.underlying167 rfl ty22 rfl) ?_
        refine o_bind ?_; intro x6 hx6
        refine f_op rfl rfl (s_load Tryz.underlying22 rfl rfl (ldSl_eq hx6)) ?_
        refine f_op rfl rfl (s_mv (v := .str x3) rfl) ?_
        refine f_op rfl rfl (s_buildSlice (cs := [.str x3]) Tryz.underlying22 ty9 (by decide) (by decide) rfl (by decide) rfl) ?_
        refine o_bind ?_; intro x7 hx7
        refine f_op rfl rfl (s_ap rfl rfl Tryz.underlying22 Tryz.underlying22 ty9 rfl rfl rfl rfl rfl rfl rfl hx7) ?_
        refine f_op rfl rfl (s_fieldAddr Tryz.underlying167 rfl ty22 rfl) ?_
        refine o_bind ?_; intro H8 hH8
        refine f_op rfl rfl (s_store (s := 1) ty22 rfl rfl rfl hH8) ?_
        refine f_nil ?_
        refine f_region ?_
        refine f_op rfl rfl (s_mv (v := .str x3) rfl) ?_
        refine o_bind ?_; intro p9 hp9
        refine f_op rfl rfl (s_callF rfl ok165 (sim165 hp9)) ?_
        refine f_op rfl rfl (s_as (v := .bool p9.1) rfl) ?_
        refine f_nil ?_
        refine f_keep [0, 4, 5, 24, 25, 26] ?_
        exact s108_j2 happ _ (fun v1_ v2_ v3_ v4_ v5_ H_ => ih v1_ v2_ v3_ v4_ v5_ H_) v1 v2 p9.1 v3 v4 v5 p9.2
      · skip
        refine f_know 34 rfl (dec_false h5) ?_
        refine f_condF rfl ?_
        refine f_seq ?_
        refine f_region ?_
        refine f_op rfl rfl (s_as (v := .int .i64 0) rfl) ?_
        refine f_nil ?_
        refine f_seq ?_
        refine f_region ?_
        refine f_op rfl rfl (s_mv (v := .str x3) rfl) ?_
        refine o_bind ?_; intro p10 hp10
        refine f_op rfl rfl (s_callF rfl ok166 (sim166 happ hp10)) ?_
        refine f_op rfl rfl (s_mv (v := .tup [.int .i64 p10.1.1, .bool p10.1.2]) rfl) ?_
        refine f_op rfl rfl (s_extract (r := .int .i64 p10.1.1) rfl rfl) ?_
        refine f_op rfl rfl (s_extract (r := .bool p10.1.2) rfl rfl) ?_
        refine f_op rfl rfl (s_as (v := .int .i64 p10.1.1) rfl) ?_
        refine f_op rfl rfl (s_as (v := .bool p10.1.2) rfl) ?_
        refine f_nil ?_
        refine f_region ?_
        refine f_op rfl rfl (s_fieldAddr Tryz.underlying167 rfl ty25 rfl) ?_
        refine o_bind ?_; intro x11 hx11
        refine f_op rfl rfl (s_load Tryz.underlying25 rfl rfl (ldSl_eq hx11)) ?_
        refine f_op rfl rfl (s_mv (v := .int .i64 p10.1.1) rfl) ?_
        refine f_op rfl rfl (s_buildSlice (cs := [.int .i64 p10.1.1]) Tryz.underlying25 ty3 (by decide) (by decide) rfl (by decide) rfl) ?_
        refine o_bind ?_; intro x12 hx12
        refine f_op rfl rfl (s_ap rfl rfl Tryz.underlying25 Tryz.underlying25 ty3 rfl rfl rfl rfl rfl rfl rfl hx12) ?_
        refine f_op rfl rfl (s_fieldAddr Tryz.underlying167 rfl ty25 rfl) ?_
        refine o_bind ?_; intro H13 hH13
        refine f_op rfl rfl (s_store (s := 1) ty25 rfl rfl rfl hH13) ?_
        refine f_nil ?_
        refine f_keep [0, 4, 5, 24, 25, 26] ?_
        exact s108_j2 happ _ (fun v1_ v2_ v3_ v4_ v5_ H_ => ih v1_ v2_ v3_ v4_ v5_ H_) v1 v2 p10.1.2 v3 v4 v5 H13
    · skip
      refine f_know 27 rfl (dec_false h1) ?_
      refine f_condF rfl ?_
      refine f_exit rfl ?_
      refine f_seq ?_
      refine f_region ?_
      refine o_bind ?_; intro x14 hx14
      refine o_bind ?_; intro x15 hx15
      refine f_op rfl rfl (s_loads Tryz.underlying167 rfl ty167 rfl (lds_cons (ldSl_eq hx14) (lds_cons (ldSl_eq hx15) (lds_nil)))) ?_
      refine o_bind ?_; intro H16 hH16
      refine f_op rfl rfl (s_stores ty167 rfl rfl rfl rfl hH16 (Nat.le_of_eq (sts_mono hH16).symm)) ?_
      refine f_op rfl rfl (s_as (v := .bool true) rfl) ?_
      refine f_nil ?_
      refine f_bind ?_; intro x17 hx17
      refine f_bind ?_; intro x18 hx18
      exact f_ret (.cells Tryz.underlying167 rfl sz167 rfl (lds_cons (ldSl_eq hx17) (lds_cons (ldSl_eq hx18) (lds_nil))) (.tmp rfl (.nil))) rfl

theorem s108_j0 {app : App} (happ : AppSim Tryz.prog app) (v1 : ByteArray) (v2 : Nat) (v3 : Sl) (v4 : Bool) (H : Hp) : Fin Tryz.prog Tryz.f108 ret108 59 (todoAt (bodyOf Tryz.f108) [1, 1, 0, 1] []) [(0, .str v1), (4, .ptr v2 0), (6, .sl v3), (22, .bool v4)] H (r108_j0 app v1 v2 v3 v4 H) := by
  unfold r108_j0
  refine f_if (fun h1 => ?_) (fun h1 => ?_)
  · skip
    refine f_know 22 rfl (bool_T h1) ?_
    refine f_condT rfl ?_
    refine f_seq ?_
    refine f_region ?_
    refine f_op rfl rfl (s_build (cs := [.sl ⟨true, 0, 0, 0, 0, 0⟩, .sl ⟨true, 0, 0, 0, 0, 0⟩]) Tryz.underlying167 ty167 rfl pl167 rfl) ?_
    refine o_bind ?_; intro H2 hH2
    refine f_op rfl rfl (s_stores ty167 rfl rfl rfl rfl hH2 (Nat.le_of_eq (sts_mono hH2).symm)) ?_
    refine f_op rfl rfl (s_as (v := .bool false) rfl) ?_
    refine f_nil ?_
    refine f_bind ?_; intro x3 hx3
    refine f_bind ?_; intro x4 hx4
    exact f_ret (.cells Tryz.underlying167 rfl sz167 rfl (lds_cons (ldSl_eq hx3) (lds_cons (ldSl_eq hx4) (lds_nil))) (.tmp rfl (.nil))) rfl
  · skip
    refine f_know 22 rfl (bool_F h1) ?_
    refine f_condF rfl ?_
    refine f_skip ?_
    refine f_seq ?_
    refine f_seq ?_
    refine f_region ?_
    refine f_op rfl rfl (s_mv (v := .sl v3) rfl) ?_
    refine f_op rfl rfl (s_lenS rfl Tryz.underlying22 rfl) ?_
    refine f_op rfl rfl (s_mv (v := .int .i64 0) rfl) ?_
    refine f_nil ?_
    refine f_block ?_
    refine f_loop ?_
    refine f_keep [0, 4, 24, 25, 26] ?_
    exact s108_l1 happ FUEL v1 v2 v3 (v3.len : Int) 0 H

theorem sim108 {app : App} (happ : AppSim Tryz.prog app) {a0 : ByteArray} {a1 : ByteArray} {H : Hp} {p : (Sl × Sl × Bool) × Hp} (h : r108 app a0 a1 H = some p) : CallSim Tryz.prog 108 [.str a0, .str a1] H (.tup [.agg [.sl p.1.1, .sl p.1.2.1], .bool p.1.2.2]) p.2 := by
  refine callSim (fn := Tryz.f108) (ret := ret108) Tryz.func108 rfl Tryz.ntmps108 rfl ?_ h
  unfold r108
  refine f_seq ?_
  refine f_region ?_
  refine f_op rfl rfl (s_alloc (zs := [.sl ⟨true, 0, 0, 0, 0, 0⟩, .sl ⟨true, 0, 0, 0, 0, 0⟩]) ty167 rfl rfl) ?_
  refine f_op rfl rfl (s_as (v := .bool false) rfl) ?_
  refine o_hp ?_; intro H1 hH1
  refine f_nil ?_
  refine f_seq ?_
  refine f_region ?_
  refine f_op rfl rfl (s_mv (v := .str a1) rfl) ?_
  refine o_bind ?_; intro p2 hp2
  refine f_op rfl rfl (s_callF rfl ok52 (sim52 hp2)) ?_
  refine o_ck fun g3 => ?_
  refine f_op rfl rfl (s_slice Tryz.underlying22 ty9 rfl rfl rfl g3.1 g3.2) ?_
  refine f_op rfl rfl (s_as (v := .sl (p2.1.cut 1 (1 : Int).toNat ((p2.1.len : Int) : Int).toNat)) rfl) ?_
  refine f_nil ?_
  refine f_seq ?_
  refine f_seq ?_
  refine f_region ?_
  refine f_op rfl rfl (s_mv (v := .sl (p2.1.cut 1 (1 : Int).toNat ((p2.1.len : Int) : Int).toNat)) rfl) ?_
  refine f_op rfl rfl (s_lenS rfl Tryz.underlying22 rfl) ?_
  refine f_op rfl rfl (s_mv (v := .str a0) rfl) ?_
  refine f_op rfl rfl (s_lenStr rfl Tryz.underlying9 rfl) ?_
  refine f_op rfl rfl (s_neq rfl rfl) ?_
  refine f_op rfl rfl (s_mv (v := .bool (decide (((p2.1.cut 1 (1 : Int).toNat ((p2.1.len : Int) : Int).toNat).len : Int) ≠ (a0.size : Int)))) rfl) ?_
  refine o_if (fun h4 => ?_) (fun h4 => ?_)
  · skip
    refine o_know 18 rfl (dec_true h4) ?_
    refine f_no rfl rfl ?_
    refine f_no rfl rfl ?_
    refine f_no rfl rfl ?_
    refine f_op rfl rfl (s_pickT (v := .bool true) rfl rfl) ?_
    refine f_nil ?_
    refine f_keep [0, 4, 6, 22] ?_
    exact s108_j0 happ a0 H.n (p2.1.cut 1 (1 : Int).toNat ((p2.1.len : Int) : Int).toNat) true p2.2
  · skip
    refine o_know 18 rfl (dec_false h4) ?_
    refine f_op rfl rfl (s_mv (v := .str a1) rfl) ?_
    refine o_bind ?_; intro p5 hp5
    refine f_op rfl rfl (s_callF rfl ok164 (sim164 happ hp5)) ?_
    refine f_op rfl rfl (s_not rfl) ?_
    refine f_op rfl rfl (s_pickF (v := .bool (!p5.1)) rfl rfl) ?_
    refine f_nil ?_
    refine f_keep [0, 4, 6, 22] ?_
    exact s108_j0 happ a0 H.n (p2.1.cut 1 (1 : Int).toNat ((p2.1.len : Int) : Int).toNat) (!p5.1) p5.2

/- 18 slices.Clone[[]int,int] -/
theorem ok18 : FnOk Tryz.prog 18 := ⟨⟨Tryz.f18, Tryz.func18, by kernel_rfl, rfl⟩⟩
theorem sim18 {a0 : Sl} {H : Hp} {p : Sl × Hp} (h : r18 a0 H = some p) : CallSim Tryz.prog 18 [.sl a0] H (.sl p.1) p.2 := by
  refine callSim (fn := Tryz.f18) (ret := ret18) Tryz.func18 rfl Tryz.ntmps18 rfl ?_ h
  unfold r18
  refine f_seq ?_
  refine f_region ?_
  refine f_op rfl rfl (s_as (v := .sl ⟨true, 0, 0, 0, 0, 0⟩) rfl) ?_
  refine f_nil ?_
  refine f_seq ?_
  refine f_seq ?_
  refine f_region ?_
  refine f_op rfl rfl (s_mv (v := .sl a0) rfl) ?_
  refine f_op rfl rfl (s_eqNil Tryz.underlying25 rfl rfl) ?_
  refine f_nil ?_
  refine f_if (fun h1 => ?_) (fun h1 => ?_)
  · skip
    refine f_know 4 rfl (bool_T h1) ?_
    refine f_condT rfl ?_
    refine f_seq ?_
    refine f_region ?_
    refine f_op rfl rfl (s_as (v := .sl ⟨true, 0, 0, 0, 0, 0⟩) rfl) ?_
    refine f_nil ?_
    exact f_ret (.tmp rfl (.nil)) rfl
  · skip
    refine f_know 4 rfl (bool_F h1) ?_
    refine f_condF rfl ?_
    refine f_skip ?_
    refine f_seq ?_
    refine f_region ?_
    refine f_op rfl rfl (s_buildSlice0 Tryz.underlying25 ty3) ?_
    refine f_op rfl rfl (s_mv (v := .sl a0) rfl) ?_
    refine o_bind ?_; intro x2 hx2
    refine o_ck fun g3 => ?_
    refine o_bind ?_; intro x4 hx4
    refine f_op rfl rfl (s_append rfl rfl Tryz.underlying25 Tryz.underlying25 ty3 (by decide) rfl (by decide) rfl rfl hx2 g3 hx4) ?_
    refine f_op rfl rfl (s_as (v := .sl x4.1) rfl) ?_
    refine f_nil ?_
    exact f_ret (.tmp rfl (.nil)) rfl

/- 168 slices.Clone[[]congou/chest.leaf,congou/chest.leaf] -/
theorem ok168 : FnOk Tryz.prog 168 := ⟨⟨Tryz.f168, Tryz.func168, by kernel_rfl, rfl⟩⟩
theorem sim168 {a0 : Sl} {H : Hp} {p : Sl × Hp} (h : r168 a0 H = some p) : CallSim Tryz.prog 168 [.sl a0] H (.sl p.1) p.2 := by
  refine callSim (fn := Tryz.f168) (ret := ret168) Tryz.func168 rfl Tryz.ntmps168 rfl ?_ h
  unfold r168
  refine f_seq ?_
  refine f_region ?_
  refine f_op rfl rfl (s_as (v := .sl ⟨true, 0, 0, 0, 0, 0⟩) rfl) ?_
  refine f_nil ?_
  refine f_seq ?_
  refine f_seq ?_
  refine f_region ?_
  refine f_op rfl rfl (s_mv (v := .sl a0) rfl) ?_
  refine f_op rfl rfl (s_eqNil Tryz.underlying147 rfl rfl) ?_
  refine f_nil ?_
  refine f_if (fun h1 => ?_) (fun h1 => ?_)
  · skip
    refine f_know 4 rfl (bool_T h1) ?_
    refine f_condT rfl ?_
    refine f_seq ?_
    refine f_region ?_
    refine f_op rfl rfl (s_as (v := .sl ⟨true, 0, 0, 0, 0, 0⟩) rfl) ?_
    refine f_nil ?_
    exact f_ret (.tmp rfl (.nil)) rfl
  · skip
    refine f_know 4 rfl (bool_F h1) ?_
    refine f_condF rfl ?_
    refine f_skip ?_
    refine f_seq ?_
    refine f_region ?_
    refine f_op rfl rfl (s_buildSlice0 Tryz.underlying147 ty186) ?_
    refine f_op rfl rfl (s_mv (v := .sl a0) rfl) ?_
    refine o_bind ?_; intro x2 hx2
    refine o_ck fun g3 => ?_
    refine o_bind ?_; intro x4 hx4
    refine f_op rfl rfl (s_append rfl rfl Tryz.underlying147 Tryz.underlying147 ty186 (by decide) rfl (by decide) rfl rfl hx2 g3 hx4) ?_
    refine f_op rfl rfl (s_as (v := .sl x4.1) rfl) ?_
    refine f_nil ?_
    exact f_ret (.tmp rfl (.nil)) rfl

/- 169 slices.Clone[[][2]int,[2]int] -/
theorem ok169 : FnOk Tryz.prog 169 := ⟨⟨Tryz.f169, Tryz.func169, by kernel_rfl, rfl⟩⟩
theorem sim169 {a0 : Sl} {H : Hp} {p : Sl × Hp} (h : r169 a0 H = some p) : CallSim Tryz.prog 169 [.sl a0] H (.sl p.1) p.2 := by
  refine callSim (fn := Tryz.f169) (ret := ret169) Tryz.func169 rfl Tryz.ntmps169 rfl ?_ h
  unfold r169
  refine f_seq ?_
  refine f_region ?_
  refine f_op rfl rfl (s_as (v := .sl ⟨true, 0, 0, 0, 0, 0⟩) rfl) ?_
  refine f_nil ?_
  refine f_seq ?_
  refine f_seq ?_
  refine f_region ?_
  refine f_op rfl rfl (s_mv (v := .sl a0) rfl) ?_
  refine f_op rfl rfl (s_eqNil Tryz.underlying27 rfl rfl) ?_
  refine f_nil ?_
  refine f_if (fun h1 => ?_) (fun h1 => ?_)
  · skip
    refine f_know 4 rfl (bool_T h1) ?_
    refine f_condT rfl ?_
    refine f_seq ?_
    refine f_region ?_
    refine f_op rfl rfl (s_as (v := .sl ⟨true, 0, 0, 0, 0, 0⟩) rfl) ?_
    refine f_nil ?_
    exact f_ret (.tmp rfl (.nil)) rfl
  · skip
    refine f_know 4 rfl (bool_F h1) ?_
    refine f_condF rfl ?_
    refine f_skip ?_
    refine f_seq ?_
    refine f_region ?_
    refine f_op rfl rfl (s_buildSlice0 Tryz.underlying27 ty101) ?_
    refine f_op rfl rfl (s_mv (v := .sl a0) rfl) ?_
    refine o_bind ?_; intro x2 hx2
    refine o_ck fun g3 => ?_
    refine o_bind ?_; intro x4 hx4
    refine f_op rfl rfl (s_append rfl rfl Tryz.underlying27 Tryz.underlying27 ty101 (by decide) rfl (by decide) rfl rfl hx2 g3 hx4) ?_
    refine f_op rfl rfl (s_as (v := .sl x4.1) rfl) ?_
    refine f_nil ?_
    exact f_ret (.tmp rfl (.nil)) rfl

/- 111 (*congou/chest.state).clone -/
theorem ok111 : FnOk Tryz.prog 111 := ⟨⟨Tryz.f111, Tryz.func111, by kernel_rfl, rfl⟩⟩
theorem sim111 {a0b : Nat} {a0o : Nat} {H : Hp} {p : (Nat × Nat) × Hp} (h : r111 a0b a0o H = some p) : CallSim Tryz.prog 111 [.ptr a0b a0o] H (.ptr p.1.1 p.1.2) p.2 := by
  refine callSim (fn := Tryz.f111) (ret := ret111) Tryz.func111 rfl Tryz.ntmps111 rfl ?_ h
  unfold r111
  refine f_seq ?_
  refine f_region ?_
  refine f_op rfl rfl (s_as (v := .nilptr) rfl) ?_
  refine f_nil ?_
  refine f_seq ?_
  refine f_bind ?_; intro x1 hx1
  refine f_bind ?_; intro p2 hp2
  refine f_bind ?_; intro x3 hx3
  refine f_bind ?_; intro p4 hp4
  refine f_bind ?_; intro x5 hx5
  refine f_bind ?_; intro x6 hx6
  refine f_bind ?_; intro x7 hx7
  refine f_bind ?_; intro x8 hx8
  refine f_bind ?_; intro x9 hx9
  refine f_bind ?_; intro p10 hp10
  refine f_ck fun g11 => ?_
  refine f_ck fun g12 => ?_
  refine f_ck fun g13 => ?_
  refine f_ck fun g14 => ?_
  refine f_ck fun g15 => ?_
  refine f_ck fun g16 => ?_
  refine f_ck fun g17 => ?_
  refine f_ck fun g18 => ?_
  refine f_ck fun g19 => ?_
  refine f_ck fun g20 => ?_
  refine f_ck fun g21 => ?_
  refine f_ck fun g22 => ?_
  refine f_ck fun g23 => ?_
  refine f_ck fun g24 => ?_
  refine f_ck fun g25 => ?_
  refine f_ck fun g26 => ?_
  refine f_ck fun g27 => ?_
  refine f_ck fun g28 => ?_
  refine f_draw (Φ := fun H_ => H_.ld a0b (a0o + 1) = some (.sl x3) ∧ H_.ld a0b (a0o + 2) = some (.int .i64 x5) ∧ H_.ld a0b ((a0o + 2) + 1) = some (.int .i64 x6) ∧ H_.ld a0b ((a0o + 2) + 2) = some (.int .i64 x7) ∧ H_.ld a0b ((a0o + 2) + 3) = some (.int .i64 x8) ∧ H_.ld a0b (a0o + 6) = some (.sl x9)) (lim := 20) [0, 0, 0, 1, 2, 0, 0, 0, 0, 2, 0, 0, 0, 0, 0, 0, 0, 0, 2, 0, 2, 0] (Trc.pure rfl rfl rfl (.inl fun _ => s_mv (v := .ptr a0b a0o) rfl) (Trc.pure rfl rfl rfl (.inl fun _ => s_nilCheck rfl) (Trc.pure rfl rfl rfl (.inl fun _ => s_fieldAddr Tryz.underlying150 rfl ty147 rfl) (Trc.read rfl rfl rfl (s_load Tryz.underlying147 rfl rfl (ldSl_eq hx1)) (Trc.eff rfl rfl rfl (fun _ => ⟨ldSl_eq g11, ldI_eq g12, ldI_eq g13, ldI_eq g14, ldI_eq g15, ldSl_eq g16⟩) (s_callF rfl ok168 (sim168 hp2)) (Trc.pure rfl rfl rfl (.inl fun _ => s_mv (v := .ptr a0b a0o) rfl) (Trc.pure rfl rfl rfl (.inl fun _ => s_nilCheck rfl) (Trc.pure rfl rfl rfl (.inl fun _ => s_fieldAddr Tryz.underlying150 rfl ty25 rfl) (Trc.pure rfl rfl rfl (.inr ⟨by decide +kernel, fun _ hp_ => s_load Tryz.underlying25 rfl rfl hp_.1⟩) (Trc.eff rfl rfl rfl (fun _ => ⟨ldSl_eq hx3, ldI_eq g17, ldI_eq g18, ldI_eq g19, ldI_eq g20, ldSl_eq g21⟩) (s_callF rfl ok18 (sim18 hp4)) (Trc.pure rfl rfl rfl (.inl fun _ => s_mv (v := .ptr a0b a0o) rfl) (Trc.pure rfl rfl rfl (.inl fun _ => s_nilCheck rfl) (Trc.pure rfl rfl rfl (.inl fun _ => s_fieldAddr Tryz.underlying150 rfl ty148 rfl) (Trc.pure rfl rfl rfl (.inr ⟨by decide +kernel, fun _ hp_ => s_loads Tryz.underlying148 rfl ty148 rfl (lds_cons hp_.2.1 (lds_cons hp_.2.2.1 (lds_cons hp_.2.2.2.1 (lds_cons hp_.2.2.2.2.1 (lds_nil)))))⟩) (Trc.pure rfl rfl rfl (.inl fun _ => s_mv (v := .ptr a0b a0o) rfl) (Trc.pure rfl rfl rfl (.inl fun _ => s_nilCheck rfl) (Trc.pure rfl rfl rfl (.inl fun _ => s_fieldAddr Tryz.underlying150 rfl ty27 rfl) (Trc.pure rfl rfl rfl (.inr ⟨by decide +kernel, fun _ hp_ => s_load Tryz.underlying27 rfl rfl hp_.2.2.2.2.2⟩) (Trc.eff rfl rfl rfl (fun _ => ⟨ldSl_eq g22, ldI_eq hx5, ldI_eq hx6, ldI_eq hx7, ldI_eq hx8, ldSl_eq hx9⟩) (s_callF rfl ok169 (sim169 hp10)) (Trc.pure rfl rfl rfl (.inl fun _ => s_build (cs := [.sl p2.1, .sl p4.1, .int .i64 x5, .int .i64 x6, .int .i64 x7, .int .i64 x8, .sl p10.1]) Tryz.underlying150 ty150 rfl pl150 rfl) (Trc.eff rfl rfl rfl (fun _ => ⟨ldSl_eq g23, ldI_eq g24, ldI_eq g25, ldI_eq g26, ldI_eq g27, ldSl_eq g28⟩) (s_box (v := .agg [.sl p2.1, .sl p4.1, .int .i64 x5, .int .i64 x6, .int .i64 x7, .int .i64 x8, .sl p10.1]) rfl rfl) (Trc.pure rfl rfl rfl (.inl fun _ => s_as (v := .ptr p10.2.n 0) rfl) (Trc.nil (fun h_ => absurd h_ (by decide +kernel))))))))))))))))))))))))) rfl (by decide +kernel) mixed ?_
  exact f_ret (.tmp rfl (.nil)) rfl

/- 64 (*congou/chest.state).do -/
theorem ok64 : FnOk Tryz.prog 64 := ⟨⟨Tryz.f64, Tryz.func64, by kernel_rfl, rfl⟩⟩
theorem s64_j0 {app : App} (happ : AppSim Tryz.prog app) (v1 : Nat) (v2 : Nat) (v3 : ByteArray) (v4 : ByteArray) (v5 : Nat) (v6 : Nat) (v7 : ByteArray) (v8 : AV) (H : Hp) : Fin Tryz.prog Tryz.f64 ret64 64 (todoAt (bodyOf Tryz.f64) [1, 1, 1, 1, 1] []) [(0, .ptr v1 v2), (1, .str v3), (7, .str v4), (10, .ptr v5 v6), (11, .str v7), (12, v8)] H (r64_j0 app v1 v2 v3 v4 v5 v6 v7 v8 H) := by
  unfold r64_j0
  refine f_seq ?_
  refine f_region ?_
  refine f_op rfl rfl (s_mv (v := .str v7) rfl) ?_
  refine f_op rfl rfl (s_mv (v := .str v3) rfl) ?_
  refine o_bind ?_; intro p1 hp1
  refine f_op rfl rfl (s_callF rfl ok108 (sim108 happ hp1)) ?_
  refine f_op rfl rfl (s_mv (v := .tup [.agg [.sl p1.1.1, .sl p1.1.2.1], .bool p1.1.2.2]) rfl) ?_
  refine f_op rfl rfl (s_extract (r := .agg [.sl p1.1.1, .sl p1.1.2.1]) rfl rfl) ?_
  refine f_op rfl rfl (s_extract (r := .bool p1.1.2.2) rfl rfl) ?_
  refine f_op rfl rfl (s_alloc (zs := [.sl ⟨true, 0, 0, 0, 0, 0⟩, .sl ⟨true, 0, 0, 0, 0, 0⟩]) ty167 rfl rfl) ?_
  refine o_bind ?_; intro H2 hH2
  refine f_op rfl rfl (s_stores ty167 rfl rfl rfl rfl hH2 (Nat.le_of_eq (sts_mono hH2).symm)) ?_
  refine f_op rfl rfl (s_as (v := .bool p1.1.2.2) rfl) ?_
  refine f_nil ?_
  refine f_seq ?_
  refine f_seq ?_
  refine f_region ?_
  refine f_op rfl rfl (s_mv (v := .bool p1.1.2.2) rfl) ?_
  refine f_op rfl rfl (s_not rfl) ?_
  refine f_nil ?_
  refine f_if (fun h3 => ?_) (fun h3 => ?_)
  · skip
    refine f_know 53 rfl (bool_notT h3) ?_
    refine f_condF rfl ?_
    refine f_skip ?_
    refine f_seq ?_
    refine f_seq ?_
    refine f_region ?_
    refine f_op rfl rfl (s_mv (v := v8) rfl) ?_
    refine o_bind ?_; intro x4 hx4
    refine o_bind ?_; intro x5 hx5
    refine f_op rfl rfl (s_loads Tryz.underlying167 rfl ty167 rfl (lds_cons (ldSl_eq hx4) (lds_cons (ldSl_eq hx5) (lds_nil)))) ?_
    refine o_bind ?_; intro p6 hp6
    refine o_bind ?_; intro x7 hx7
    refine f_op rfl rfl (s_callv happ rfl rfl hp6) ?_
    refine o_know 57 rfl (asI_eq hx7) ?_
    refine f_op rfl rfl (s_as (v := .int .i64 x7) rfl) ?_
    refine f_nil ?_
    refine f_seq ?_
    refine f_region ?_
    refine f_op rfl rfl (s_mv (v := .int .i64 x7) rfl) ?_
    refine f_op rfl rfl (s_neq rfl rfl) ?_
    refine f_nil ?_
    refine f_if (fun h8 => ?_) (fun h8 => ?_)
    · skip
      refine f_know 59 rfl (dec_true h8) ?_
      refine f_condT rfl ?_
      refine f_seq ?_
      refine f_region ?_
      refine f_op rfl rfl (s_mv (v := .ptr v1 v2) rfl) ?_
      refine f_op rfl rfl (s_mv (v := .int .i64 x7) rfl) ?_
      refine f_op rfl rfl (s_as (v := .ptr v1 v2) rfl) ?_
      refine f_op rfl rfl (s_as (v := .str (ByteArray.mk #[])) rfl) ?_
      refine f_op rfl rfl (s_as (v := .int .i64 x7) rfl) ?_
      refine f_nil ?_
      exact f_ret (.tmp rfl (.tmp rfl (.tmp rfl (.nil)))) rfl
    · skip
      refine f_know 59 rfl (dec_false h8) ?_
      refine f_condF rfl ?_
      refine f_skip ?_
      refine f_seq ?_
      refine f_region ?_
      refine f_op rfl rfl (s_mv (v := .ptr v5 v6) rfl) ?_
      refine f_op rfl rfl (s_mv (v := .str v4) rfl) ?_
      refine f_op rfl rfl (s_as (v := .ptr v5 v6) rfl) ?_
      refine f_op rfl rfl (s_as (v := .str v4) rfl) ?_
      refine f_op rfl rfl (s_as (v := .int .i64 0) rfl) ?_
      refine f_nil ?_
      exact f_ret (.tmp rfl (.tmp rfl (.tmp rfl (.nil)))) rfl
  · skip
    refine f_know 53 rfl (bool_notF h3) ?_
    refine f_condT rfl ?_
    refine f_seq ?_
    refine f_region ?_
    refine f_op rfl rfl (s_mv (v := .ptr v1 v2) rfl) ?_
    refine f_op rfl rfl (s_as (v := .ptr v1 v2) rfl) ?_
    refine f_op rfl rfl (s_as (v := .str (ByteArray.mk #[])) rfl) ?_
    refine f_op rfl rfl (s_as (v := .int .i64 3) rfl) ?_
    refine f_nil ?_
    exact f_ret (.tmp rfl (.tmp rfl (.tmp rfl (.nil)))) rfl

theorem sim64 {app : App} (happ : AppSim Tryz.prog app) {a0b : Nat} {a0o : Nat} {a1 : ByteArray} {H : Hp} {p : (Nat × Nat × ByteArray × Int) × Hp} (h : r64 app a0b a0o a1 H = some p) : CallSim Tryz.prog 64 [.ptr a0b a0o, .str a1] H (.tup [.ptr p.1.1 p.1.2.1, .str p.1.2.2.1, .int .i64 p.1.2.2.2]) p.2 := by
  refine callSim (fn := Tryz.f64) (ret := ret64) Tryz.func64 rfl Tryz.ntmps64 rfl ?_ h
  unfold r64
  refine f_seq ?_
  refine f_region ?_
  refine f_op rfl rfl (s_as (v := .nilptr) rfl) ?_
  refine f_op rfl rfl (s_as (v := .str (ByteArray.mk #[])) rfl) ?_
  refine f_op rfl rfl (s_as (v := .int .i64 0) rfl) ?_
  refine f_nil ?_
  refine f_seq ?_
  refine f_region ?_
  refine f_op rfl rfl (s_mv (v := .str a1) rfl) ?_
  refine o_bind ?_; intro p1 hp1
  refine f_op rfl rfl (s_callF rfl ok97 (sim97 hp1)) ?_
  refine f_op rfl rfl (s_mv (v := .tup [.str p1.1.1, .str p1.1.2.1, .bool p1.1.2.2]) rfl) ?_
  refine f_op rfl rfl (s_extract (r := .str p1.1.1) rfl rfl) ?_
  refine f_op rfl rfl (s_extract (r := .str p1.1.2.1) rfl rfl) ?_
  refine f_op rfl rfl (s_extract (r := .bool p1.1.2.2) rfl rfl) ?_
  refine f_op rfl rfl (s_as (v := .str p1.1.1) rfl) ?_
  refine f_op rfl rfl (s_as (v := .str p1.1.2.1) rfl) ?_
  refine f_op rfl rfl (s_as (v := .bool p1.1.2.2) rfl) ?_
  refine f_nil ?_
  refine f_seq ?_
  refine f_region ?_
  refine f_op rfl rfl (s_mv (v := .ptr a0b a0o) rfl) ?_
  refine o_bind ?_; intro p2 hp2
  refine f_op rfl rfl (s_callF rfl ok111 (sim111 hp2)) ?_
  refine f_op rfl rfl (s_as (v := .ptr p2.1.1 p2.1.2) rfl) ?_
  refine f_nil ?_
  refine f_seq ?_
  refine f_region ?_
  refine f_op rfl rfl (s_mv (v := .ptr p2.1.1 p2.1.2) rfl) ?_
  refine f_op rfl rfl (s_makeFunc rfl rfl) ?_
  refine f_op rfl rfl (s_as (v := .str (ByteArray.mk #[])) rfl) ?_
  refine f_op rfl rfl (s_as (v := .fn 112 [.ptr p2.1.1 p2.1.2] []) rfl) ?_
  refine f_nil ?_
  refine f_seq ?_
  refine f_seq ?_
  refine f_region ?_
  refine f_op rfl rfl (s_mv (v := .str p1.1.1) rfl) ?_
  refine f_nil ?_
  refine f_block ?_
  refine f_seq ?_
  refine f_region ?_
  refine f_op rfl rfl (s_eqStr rfl rfl) ?_
  refine f_op rfl rfl (s_as (v := .bool (strEq p1.1.1 (ByteArray.mk #[108, 101, 97, 102]))) rfl) ?_
  refine f_nil ?_
  refine f_if (fun h3 => ?_) (fun h3 => ?_)
  · skip
    refine f_know 28 rfl (bool_T h3) ?_
    refine f_condT rfl ?_
    refine f_region ?_
    refine f_op rfl rfl (s_as (v := .str (ByteArray.mk #[110, 100])) rfl) ?_
    refine f_nil ?_
    refine f_inBlock ?_
    refine f_keep [0, 1, 7, 10, 11, 12] ?_
    exact s64_j0 happ a0b a0o a1 p1.1.1 p2.1.1 p2.1.2 (ByteArray.mk #[110, 100]) (.fn 112 [.ptr p2.1.1 p2.1.2] []) p2.2
  · skip
    refine f_know 28 rfl (bool_F h3) ?_
    refine f_condF rfl ?_
    refine f_seq ?_
    refine f_region ?_
    refine f_op rfl rfl (s_eqStr rfl rfl) ?_
    refine f_op rfl rfl (s_as (v := .bool (strEq p1.1.1 (ByteArray.mk #[103, 105, 118, 101]))) rfl) ?_
    refine f_nil ?_
    refine f_if (fun h4 => ?_) (fun h4 => ?_)
    · skip
      refine f_know 30 rfl (bool_T h4) ?_
      refine f_condT rfl ?_
      refine f_region ?_
      refine f_op rfl rfl (s_mv (v := .ptr p2.1.1 p2.1.2) rfl) ?_
      refine f_op rfl rfl (s_makeFunc rfl rfl) ?_
      refine f_op rfl rfl (s_as (v := .str (ByteArray.mk #[110, 110, 100])) rfl) ?_
      refine f_op rfl rfl (s_as (v := .fn 113 [.ptr p2.1.1 p2.1.2] []) rfl) ?_
      refine f_nil ?_
      refine f_inBlock ?_
      refine f_keep [0, 1, 7, 10, 11, 12] ?_
      exact s64_j0 happ a0b a0o a1 p1.1.1 p2.1.1 p2.1.2 (ByteArray.mk #[110, 110, 100]) (.fn 113 [.ptr p2.1.1 p2.1.2] []) p2.2
    · skip
      refine f_know 30 rfl (bool_F h4) ?_
      refine f_condF rfl ?_
      refine f_seq ?_
      refine f_region ?_
      refine f_op rfl rfl (s_eqStr rfl rfl) ?_
      refine f_op rfl rfl (s_as (v := .bool (strEq p1.1.1 (ByteArray.mk #[111, 114, 100, 101, 114]))) rfl) ?_
      refine f_nil ?_
      refine f_if (fun h5 => ?_) (fun h5 => ?_)
      · skip
        refine f_know 34 rfl (bool_T h5) ?_
        refine f_condT rfl ?_
        refine f_region ?_
        refine f_op rfl rfl (s_mv (v := .ptr p2.1.1 p2.1.2) rfl) ?_
        refine f_op rfl rfl (s_makeFunc rfl rfl) ?_
        refine f_op rfl rfl (s_as (v := .str (ByteArray.mk #[110])) rfl) ?_
        refine f_op rfl rfl (s_as (v := .fn 114 [.ptr p2.1.1 p2.1.2] []) rfl) ?_
        refine f_nil ?_
        refine f_inBlock ?_
        refine f_keep [0, 1, 7, 10, 11, 12] ?_
        exact s64_j0 happ a0b a0o a1 p1.1.1 p2.1.1 p2.1.2 (ByteArray.mk #[110]) (.fn 114 [.ptr p2.1.1 p2.1.2] []) p2.2
      · skip
        refine f_know 34 rfl (bool_F h5) ?_
        refine f_condF rfl ?_
        refine f_seq ?_
        refine f_region ?_
        refine f_op rfl rfl (s_eqStr rfl rfl) ?_
        refine f_op rfl rfl (s_as (v := .bool (strEq p1.1.1 (ByteArray.mk #[116, 97, 115, 116, 101]))) rfl) ?_
        refine f_nil ?_
        refine f_if (fun h6 => ?_) (fun h6 => ?_)
        · skip
          refine f_know 38 rfl (bool_T h6) ?_
          refine f_condT rfl ?_
          refine f_region ?_
          refine f_op rfl rfl (s_mv (v := .ptr p2.1.1 p2.1.2) rfl) ?_
          refine f_op rfl rfl (s_makeFunc rfl rfl) ?_
          refine f_op rfl rfl (s_as (v := .str (ByteArray.mk #[100, 100])) rfl) ?_
          refine f_op rfl rfl (s_as (v := .fn 115 [.ptr p2.1.1 p2.1.2] []) rfl) ?_
          refine f_nil ?_
          refine f_inBlock ?_
          refine f_keep [0, 1, 7, 10, 11, 12] ?_
          exact s64_j0 happ a0b a0o a1 p1.1.1 p2.1.1 p2.1.2 (ByteArray.mk #[100, 100]) (.fn 115 [.ptr p2.1.1 p2.1.2] []) p2.2
        · skip
          refine f_know 38 rfl (bool_F h6) ?_
          refine f_condF rfl ?_
          refine f_seq ?_
          refine f_region ?_
          refine f_op rfl rfl (s_eqStr rfl rfl) ?_
          refine f_op rfl rfl (s_as (v := .bool (strEq p1.1.1 (ByteArray.mk #[111, 102, 102, 101, 114]))) rfl) ?_
          refine f_nil ?_
          refine f_if (fun h7 => ?_) (fun h7 => ?_)
          · skip
            refine f_know 42 rfl (bool_T h7) ?_
            refine f_condT rfl ?_
            refine f_region ?_
            refine f_op rfl rfl (s_mv (v := .ptr p2.1.1 p2.1.2) rfl) ?_
            refine f_op rfl rfl (s_makeFunc rfl rfl) ?_
            refine f_op rfl rfl (s_as (v := .str (ByteArray.mk #[100, 100])) rfl) ?_
            refine f_op rfl rfl (s_as (v := .fn 116 [.ptr p2.1.1 p2.1.2] []) rfl) ?_
            refine f_nil ?_
            refine f_inBlock ?_
            refine f_keep [0, 1, 7, 10, 11, 12] ?_
            exact s64_j0 happ a0b a0o a1 p1.1.1 p2.1.1 p2.1.2 (ByteArray.mk #[100, 100]) (.fn 116 [.ptr p2.1.1 p2.1.2] []) p2.2
          · skip
            refine f_know 42 rfl (bool_F h7) ?_
            refine f_condF rfl ?_
            refine f_seq ?_
            refine f_region ?_
            refine f_op rfl rfl (s_mv (v := .ptr a0b a0o) rfl) ?_
            refine f_op rfl rfl (s_as (v := .ptr a0b a0o) rfl) ?_
            refine f_op rfl rfl (s_as (v := .str (ByteArray.mk #[])) rfl) ?_
            refine f_op rfl rfl (s_as (v := .int .i64 3) rfl) ?_
            refine f_nil ?_
            exact f_ret (.tmp rfl (.tmp rfl (.tmp rfl (.nil)))) rfl

/- 117 slices.IndexFunc[[]congou/chest.page,congou/chest.page] -/
theorem ok117 : FnOk Tryz.prog 117 := ⟨⟨Tryz.f117, Tryz.func117, by kernel_rfl, rfl⟩⟩
theorem s117_l0 {app : App} (happ : AppSim Tryz.prog app) : ∀ (k_ : Nat) (v1 : Sl) (v2 : AV) (v3 : Int) (v4 : Int) (H : Hp), Fin Tryz.prog Tryz.f117 ret117 19 (todoAt (bodyOf Tryz.f117) [1, 0, 1, 0, 0] []) [(0, .sl v1), (1, v2), (7, .int .i64 v3), (8, .int .i64 v4)] H (r117_l0 app k_ v1 v2 v3 v4 H) := by
  intro k_
  induction k_ with
  | zero => intro _ _ _ _ _; exact f_none
  | succ k_ ih =>
    intro v1 v2 v3 v4 H
    rw [r117_l0]
    refine f_seq ?_
    refine f_region ?_
    refine f_op rfl rfl (s_lss rfl rfl) ?_
    refine f_nil ?_
    refine f_seq ?_
    refine f_if (fun h1 => ?_) (fun h1 => ?_)
    · skip
      refine f_know 9 rfl (dec_true h1) ?_
      refine f_condT rfl ?_
      refine f_skip ?_
      refine f_seq ?_
      refine f_block ?_
      refine f_seq ?_
      refine f_region ?_
      refine f_op rfl rfl (s_mv (v := .int .i64 v4) rfl) ?_
      refine f_op rfl rfl (s_as (v := .int .i64 v4) rfl) ?_
      refine f_nil ?_
      refine f_seq ?_
      refine f_region ?_
      refine f_op rfl rfl (s_mv (v := v2) rfl) ?_
      refine f_op rfl rfl (s_mv (v := .sl v1) rfl) ?_
      refine f_op rfl rfl (s_mv (v := .int .i64 v4) rfl) ?_
      refine o_ck fun g2 => ?_
      refine f_op rfl rfl (s_idx Tryz.underlying116 ty120 rfl rfl g2) ?_
      refine o_bind ?_; intro x3 hx3
      refine o_bind ?_; intro x4 hx4
      refine o_bind ?_; intro x5 hx5
      refine f_op rfl rfl (s_loads Tryz.underlying120 rfl ty120 rfl (lds_cons (ldStr_eq hx3) (lds_cons (ldI_eq hx4) (lds_cons (ldP_eq hx5) (lds_nil))))) ?_
      refine o_bind ?_; intro p6 hp6
      refine o_bind ?_; intro x7 hx7
      refine f_op rfl rfl (s_callv happ rfl rfl hp6) ?_
      refine o_know 16 rfl (asB_eq hx7) ?_
      refine f_nil ?_
      refine f_if (fun h8 => ?_) (fun h8 => ?_)
      · skip
        refine f_know 16 rfl (bool_T h8) ?_
        refine f_condT rfl ?_
        refine f_seq ?_
        refine f_region ?_
        refine f_op rfl rfl (s_mv (v := .int .i64 v4) rfl) ?_
        refine f_op rfl rfl (s_as (v := .int .i64 v4) rfl) ?_
        refine f_nil ?_
        exact f_ret (.tmp rfl (.nil)) rfl
      · skip
        refine f_know 16 rfl (bool_F h8) ?_
        refine f_condF rfl ?_
        refine f_skip ?_
        refine f_inBlock ?_
        refine f_region ?_
        refine f_op rfl rfl (s_add rfl rfl) ?_
        refine f_op rfl rfl (s_mv (v := .int .i64 (w64 (v4 + 1))) rfl) ?_
        refine f_nil ?_
        refine f_inLoop ?_
        refine f_keep [0, 1, 7, 8] ?_
        exact ih v1 v2 v3 (w64 (v4 + 1)) p6.2
    · skip
      refine f_know 9 rfl (dec_false h1) ?_
      refine f_condF rfl ?_
      refine f_exit rfl ?_
      refine f_seq ?_
      refine f_region ?_
      refine f_op rfl rfl (s_as (v := .int .i64 (-1)) rfl) ?_
      refine f_nil ?_
      exact f_ret (.tmp rfl (.nil)) rfl

theorem sim117 {app : App} (happ : AppSim Tryz.prog app) {a0 : Sl} {a1 : AV} {H : Hp} {p : Int × Hp} (h : r117 app a0 a1 H = some p) : CallSim Tryz.prog 117 [.sl a0, a1] H (.int .i64 p.1) p.2 := by
  refine callSim (fn := Tryz.f117) (ret := ret117) Tryz.func117 rfl Tryz.ntmps117 rfl ?_ h
  unfold r117
  refine f_seq ?_
  refine f_region ?_
  refine f_op rfl rfl (s_as (v := .int .i64 0) rfl) ?_
  refine f_nil ?_
  refine f_seq ?_
  refine f_seq ?_
  refine f_region ?_
  refine f_op rfl rfl (s_mv (v := .sl a0) rfl) ?_
  refine f_op rfl rfl (s_lenS rfl Tryz.underlying116 rfl) ?_
  refine f_op rfl rfl (s_mv (v := .int .i64 0) rfl) ?_
  refine f_nil ?_
  refine f_block ?_
  refine f_loop ?_
  refine f_keep [0, 1, 7, 8] ?_
  exact s117_l0 happ FUEL a0 a1 (a0.len : Int) 0 H

/- 65 (*congou/chest.Chest).child -/
theorem ok65 : FnOk Tryz.prog 65 := ⟨⟨Tryz.f65, Tryz.func65, by kernel_rfl, rfl⟩⟩
theorem sim65 {app : App} (happ : AppSim Tryz.prog app) {a0b : Nat} {a0o : Nat} {a1 : Int} {a2 : ByteArray} {H : Hp} {p : Int × Hp} (h : r65 app a0b a0o a1 a2 H = some p) : CallSim Tryz.prog 65 [.ptr a0b a0o, .int .i64 a1, .str a2] H (.int .i64 p.1) p.2 := by
  refine callSim (fn := Tryz.f65) (ret := ret65) Tryz.func65 rfl Tryz.ntmps65 rfl ?_ h
  unfold r65
  refine f_seq ?_
  refine f_region ?_
  refine f_op rfl rfl (s_box1 (v := .int .i64 a1) rfl rfl) ?_
  refine f_op rfl rfl (s_box1 (v := .str a2) rfl rfl) ?_
  refine f_op rfl rfl (s_as (v := .int .i64 0) rfl) ?_
  refine o_hp ?_; intro H1 hH1
  refine f_nil ?_
  refine f_seq ?_
  refine f_region ?_
  refine f_op rfl rfl (s_mv (v := .ptr a0b a0o) rfl) ?_
  refine f_op rfl rfl (s_nilCheck rfl) ?_
  refine f_op rfl rfl (s_fieldAddr Tryz.underlying118 rfl ty116 rfl) ?_
  refine o_bind ?_; intro x2 hx2
  refine f_op rfl rfl (s_load Tryz.underlying116 rfl rfl (ldSl_eq hx2)) ?_
  refine f_op rfl rfl (s_makeFunc rfl rfl) ?_
  refine o_bind ?_; intro p3 hp3
  refine f_op rfl rfl (s_callF rfl ok117 (sim117 happ hp3)) ?_
  refine f_op rfl rfl (s_as (v := .int .i64 p3.1) rfl) ?_
  refine f_nil ?_
  exact f_ret (.tmp rfl (.nil)) rfl

/- 20 (*congou/chest.Chest).Do -/
theorem ok20 : FnOk Tryz.prog 20 := ⟨⟨Tryz.f20, Tryz.func20, by kernel_rfl, rfl⟩⟩
theorem s20_j0 {app : App} (happ : AppSim Tryz.prog app) (v1 : Nat) (v2 : Nat) (v3 : ByteArray) (v4 : Int) (H : Hp) : Fin Tryz.prog Tryz.f20 ret20 66 (todoAt (bodyOf Tryz.f20) [1, 1, 1, 1, 1, 1] []) [(0, .ptr v1 v2), (7, .str v3), (9, .int .i64 v4)] H (r20_j0 app v1 v2 v3 v4 H) := by
  unfold r20_j0
  refine f_seq ?_
  refine f_region ?_
  refine f_op rfl rfl (s_mv (v := .ptr v1 v2) rfl) ?_
  refine f_op rfl rfl (s_mv (v := .int .i64 v4) rfl) ?_
  refine f_op rfl rfl (s_nilCheck rfl) ?_
  refine f_op rfl rfl (s_fieldAddr Tryz.underlying118 rfl ty3 rfl) ?_
  refine o_bind ?_; intro H1 hH1
  refine f_op rfl rfl (s_store (s := 1) ty3 rfl rfl rfl hH1) ?_
  refine f_nil ?_
  refine f_seq ?_
  refine f_region ?_
  refine f_op rfl rfl (s_mv (v := .str v3) rfl) ?_
  refine f_op rfl rfl (s_as (v := .str v3) rfl) ?_
  refine f_op rfl rfl (s_as (v := .int .i64 0) rfl) ?_
  refine f_nil ?_
  exact f_ret (.tmp rfl (.tmp rfl (.nil))) rfl

theorem sim20 {app : App} (happ : AppSim Tryz.prog app) {a0b : Nat} {a0o : Nat} {a1 : ByteArray} {H : Hp} {p : (ByteArray × Int) × Hp} (h : r20 app a0b a0o a1 H = some p) : CallSim Tryz.prog 20 [.ptr a0b a0o, .str a1] H (.tup [.str p.1.1, .int .i64 p.1.2]) p.2 := by
  refine callSim (fn := Tryz.f20) (ret := ret20) Tryz.func20 rfl Tryz.ntmps20 rfl ?_ h
  unfold r20
  refine f_seq ?_
  refine f_region ?_
  refine f_op rfl rfl (s_as (v := .str (ByteArray.mk #[])) rfl) ?_
  refine f_op rfl rfl (s_as (v := .int .i64 0) rfl) ?_
  refine f_nil ?_
  refine f_seq ?_
  refine f_seq ?_
  refine f_region ?_
  refine f_op rfl rfl (s_mv (v := .ptr a0b a0o) rfl) ?_
  refine o_bind ?_; intro p1 hp1
  refine f_op rfl rfl (s_callF rfl ok60 (sim60 hp1)) ?_
  refine f_nil ?_
  refine f_if (fun h2 => ?_) (fun h2 => ?_)
  · skip
    refine f_know 11 rfl (bool_T h2) ?_
    refine f_condT rfl ?_
    refine f_seq ?_
    refine f_region ?_
    refine f_op rfl rfl (s_as (v := .str (ByteArray.mk #[])) rfl) ?_
    refine f_op rfl rfl (s_as (v := .int .i64 1) rfl) ?_
    refine f_nil ?_
    exact f_ret (.tmp rfl (.tmp rfl (.nil))) rfl
  · skip
    refine f_know 11 rfl (bool_F h2) ?_
    refine f_condF rfl ?_
    refine f_skip ?_
    refine f_seq ?_
    refine f_region ?_
    refine f_op rfl rfl (s_mv (v := .ptr a0b a0o) rfl) ?_
    refine o_bind ?_; intro p3 hp3
    refine f_op rfl rfl (s_callF rfl ok61 (sim61 hp3)) ?_
    refine f_op rfl rfl (s_mv (v := .str a1) rfl) ?_
    refine o_bind ?_; intro p4 hp4
    refine f_op rfl rfl (s_callF rfl ok64 (sim64 happ hp4)) ?_
    refine f_op rfl rfl (s_mv (v := .tup [.ptr p4.1.1 p4.1.2.1, .str p4.1.2.2.1, .int .i64 p4.1.2.2.2]) rfl) ?_
    refine f_op rfl rfl (s_extract (r := .ptr p4.1.1 p4.1.2.1) rfl rfl) ?_
    refine f_op rfl rfl (s_extract (r := .str p4.1.2.2.1) rfl rfl) ?_
    refine f_op rfl rfl (s_extract (r := .int .i64 p4.1.2.2.2) rfl rfl) ?_
    refine f_op rfl rfl (s_as (v := .ptr p4.1.1 p4.1.2.1) rfl) ?_
    refine f_op rfl rfl (s_as (v := .str p4.1.2.2.1) rfl) ?_
    refine f_op rfl rfl (s_as (v := .int .i64 p4.1.2.2.2) rfl) ?_
    refine f_nil ?_
    refine f_seq ?_
    refine f_seq ?_
    refine f_region ?_
    refine f_op rfl rfl (s_mv (v := .int .i64 p4.1.2.2.2) rfl) ?_
    refine f_op rfl rfl (s_neq rfl rfl) ?_
    refine f_nil ?_
    refine f_if (fun h5 => ?_) (fun h5 => ?_)
    · skip
      refine f_know 21 rfl (dec_true h5) ?_
      refine f_condT rfl ?_
      refine f_seq ?_
      refine f_region ?_
      refine f_op rfl rfl (s_mv (v := .int .i64 p4.1.2.2.2) rfl) ?_
      refine f_op rfl rfl (s_as (v := .str (ByteArray.mk #[])) rfl) ?_
      refine f_op rfl rfl (s_as (v := .int .i64 p4.1.2.2.2) rfl) ?_
      refine f_nil ?_
      exact f_ret (.tmp rfl (.tmp rfl (.nil))) rfl
    · skip
      refine f_know 21 rfl (dec_false h5) ?_
      refine f_condF rfl ?_
      refine f_skip ?_
      refine f_seq ?_
      refine f_region ?_
      refine f_op rfl rfl (s_mv (v := .ptr a0b a0o) rfl) ?_
      refine f_op rfl rfl (s_mv (v := .ptr a0b a0o) rfl) ?_
      refine f_op rfl rfl (s_nilCheck rfl) ?_
      refine f_op rfl rfl (s_fieldAddr Tryz.underlying118 rfl ty3 rfl) ?_
      refine o_bind ?_; intro x6 hx6
      refine f_op rfl rfl (s_load Tryz.underlying3 rfl rfl (ldI_eq hx6)) ?_
      refine f_op rfl rfl (s_mv (v := .str a1) rfl) ?_
      refine o_bind ?_; intro p7 hp7
      refine f_op rfl rfl (s_callF rfl ok65 (sim65 happ hp7)) ?_
      refine f_op rfl rfl (s_as (v := .int .i64 p7.1) rfl) ?_
      refine f_nil ?_
      refine f_seq ?_
      refine f_block ?_
      refine f_seq ?_
      refine f_region ?_
      refine f_op rfl rfl (s_mv (v := .int .i64 p7.1) rfl) ?_
      refine f_op rfl rfl (s_geq rfl rfl) ?_
      refine f_op rfl rfl (s_as (v := .bool (decide (0 ≤ p7.1))) rfl) ?_
      refine f_nil ?_
      refine f_if (fun h8 => ?_) (fun h8 => ?_)
      · skip
        refine f_know 51 rfl (dec_true h8) ?_
        refine f_condT rfl ?_
        refine f_skip ?_
        refine f_inBlock ?_
        refine f_keep [0, 7, 9] ?_
        exact s20_j0 happ a0b a0o p4.1.2.2.1 p7.1 p7.2
      · skip
        refine f_know 51 rfl (dec_false h8) ?_
        refine f_condF rfl ?_
        refine f_seq ?_
        refine f_region ?_
        refine f_op rfl rfl (s_mv (v := .ptr a0b a0o) rfl) ?_
        refine f_op rfl rfl (s_nilCheck rfl) ?_
        refine f_op rfl rfl (s_fieldAddr Tryz.underlying118 rfl ty116 rfl) ?_
        refine o_bind ?_; intro x9 hx9
        refine f_op rfl rfl (s_load Tryz.underlying116 rfl rfl (ldSl_eq hx9)) ?_
        refine f_op rfl rfl (s_lenS rfl Tryz.underlying116 rfl) ?_
        refine f_op rfl rfl (s_eql rfl rfl) ?_
        refine f_op rfl rfl (s_as (v := .bool (decide ((x9.len : Int) = 200))) rfl) ?_
        refine f_nil ?_
        refine f_if (fun h10 => ?_) (fun h10 => ?_)
        · skip
          refine f_know 54 rfl (dec_true h10) ?_
          refine f_condT rfl ?_
          refine f_seq ?_
          refine f_region ?_
          refine f_op rfl rfl (s_as (v := .str (ByteArray.mk #[])) rfl) ?_
          refine f_op rfl rfl (s_as (v := .int .i64 7) rfl) ?_
          refine f_nil ?_
          exact f_ret (.tmp rfl (.tmp rfl (.nil))) rfl
        · skip
          refine f_know 54 rfl (dec_false h10) ?_
          refine f_condF rfl ?_
          refine f_seq ?_
          refine f_region ?_
          refine f_op rfl rfl (s_mv (v := .ptr a0b a0o) rfl) ?_
          refine f_op rfl rfl (s_nilCheck rfl) ?_
          refine f_op rfl rfl (s_fieldAddr Tryz.underlying118 rfl ty116 rfl) ?_
          refine o_bind ?_; intro x11 hx11
          refine f_op rfl rfl (s_load Tryz.underlying116 rfl rfl (ldSl_eq hx11)) ?_
          refine f_op rfl rfl (s_lenS rfl Tryz.underlying116 rfl) ?_
          refine f_op rfl rfl (s_as (v := .int .i64 (x11.len : Int)) rfl) ?_
          refine f_nil ?_
          refine f_bind ?_; intro x12 hx12
          refine f_bind ?_; intro x13 hx13
          refine f_bind ?_; intro x14 hx14
          refine f_bind ?_; intro H15 hH15
          refine f_ck fun g16 => ?_
          refine f_draw (Φ := fun H_ => H_.ld a0b (a0o + 0) = some (.sl x12)) (lim := 13) [0, 0, 0, 0, 0, 0, 0, 0, 0, 1, 0, 0, 2, 2, 0, 0, 2] (Trc.pure rfl rfl rfl (.inl fun _ => s_mv (v := .ptr a0b a0o) rfl) (Trc.pure rfl rfl rfl (.inl fun _ => s_mv (v := .ptr a0b a0o) rfl) (Trc.pure rfl rfl rfl (.inl fun _ => s_nilCheck rfl) (Trc.pure rfl rfl rfl (.inl fun _ => s_fieldAddr Tryz.underlying118 rfl ty116 rfl) (Trc.pure rfl rfl rfl (.inr ⟨by decide +kernel, fun _ hp_ => s_load Tryz.underlying116 rfl rfl hp_⟩) (Trc.pure rfl rfl rfl (.inl fun _ => s_mv (v := .str a1) rfl) (Trc.pure rfl rfl rfl (.inl fun _ => s_mv (v := .ptr a0b a0o) rfl) (Trc.pure rfl rfl rfl (.inl fun _ => s_nilCheck rfl) (Trc.pure rfl rfl rfl (.inl fun _ => s_fieldAddr Tryz.underlying118 rfl ty3 rfl) (Trc.read rfl rfl rfl (s_load Tryz.underlying3 rfl rfl (ldI_eq hx13)) (Trc.pure rfl rfl rfl (.inl fun _ => s_mv (v := .ptr p4.1.1 p4.1.2.1) rfl) (Trc.pure rfl rfl rfl (.inl fun _ => s_build (cs := [.str a1, .int .i64 x13, .ptr p4.1.1 p4.1.2.1]) Tryz.underlying120 ty120 rfl pl120 rfl) (Trc.eff rfl rfl rfl (fun _ => ldSl_eq hx12) (s_buildSlice (cs := [.str a1, .int .i64 x13, .ptr p4.1.1 p4.1.2.1]) Tryz.underlying116 ty120 (by decide) (by decide) rfl (by decide) rfl) (Trc.eff rfl rfl rfl (fun _ => ldSl_eq g16) (s_ap rfl rfl Tryz.underlying116 Tryz.underlying116 ty120 rfl rfl rfl rfl rfl rfl rfl hx14) (Trc.pure rfl rfl rfl (.inl fun _ => s_nilCheck rfl) (Trc.pure rfl rfl rfl (.inl fun _ => s_fieldAddr Tryz.underlying118 rfl ty116 rfl) (Trc.eff rfl rfl rfl (fun h_ => absurd h_ (by decide +kernel)) (s_store (s := 1) ty116 rfl rfl rfl hH15) (Trc.nil (fun h_ => absurd h_ (by decide +kernel)))))))))))))))))))) rfl (by decide +kernel) mixed ?_
          refine f_inBlock ?_
          refine f_keep [0, 7, 9] ?_
          exact s20_j0 happ a0b a0o p4.1.2.2.1 (x11.len : Int) H15

/- 174 slices.IndexFunc[[]int,int] -/
theorem ok174 : FnOk Tryz.prog 174 := ⟨⟨Tryz.f174, Tryz.func174, by kernel_rfl, rfl⟩⟩
theorem s174_l0 {app : App} (happ : AppSim Tryz.prog app) : ∀ (k_ : Nat) (v1 : Sl) (v2 : AV) (v3 : Int) (v4 : Int) (H : Hp), Fin Tryz.prog Tryz.f174 ret174 19 (todoAt (bodyOf Tryz.f174) [1, 0, 1, 0, 0] []) [(0, .sl v1), (1, v2), (7, .int .i64 v3), (8, .int .i64 v4)] H (r174_l0 app k_ v1 v2 v3 v4 H) := by
  intro k_
  induction k_ with
  | zero => intro _ _ _ _ _; exact f_none
  | succ k_ ih =>
    intro v1 v2 v3 v4 H
    rw [r174_l0]
    refine f_seq ?_
    refine f_region ?_
    refine f_op rfl rfl (s_lss rfl rfl) ?_
    refine f_nil ?_
    refine f_seq ?_
    refine f_if (fun h1 => ?_) (fun h1 => ?_)
    · skip
      refine f_know 9 rfl (dec_true h1) ?_
      refine f_condT rfl ?_
      refine f_skip ?_
      refine f_seq ?_
      refine f_block ?_
      refine f_seq ?_
      refine f_region ?_
      refine f_op rfl rfl (s_mv (v := .int .i64 v4) rfl) ?_
      refine f_op rfl rfl (s_as (v := .int .i64 v4) rfl) ?_
      refine f_nil ?_
      refine f_seq ?_
      refine f_region ?_
      refine f_op rfl rfl (s_mv (v := v2) rfl) ?_
      refine f_op rfl rfl (s_mv (v := .sl v1) rfl) ?_
      refine f_op rfl rfl (s_mv (v := .int .i64 v4) rfl) ?_
      refine o_ck fun g2 => ?_
      refine f_op rfl rfl (s_idx Tryz.underlying25 ty3 rfl rfl g2) ?_
      refine o_bind ?_; intro x3 hx3
      refine f_op rfl rfl (s_load Tryz.underlying3 rfl rfl (ldI_eq hx3)) ?_
      refine o_bind ?_; intro p4 hp4
      refine o_bind ?_; intro x5 hx5
      refine f_op rfl rfl (s_callv happ rfl rfl hp4) ?_
      refine o_know 16 rfl (asB_eq hx5) ?_
      refine f_nil ?_
      refine f_if (fun h6 => ?_) (fun h6 => ?_)
      · skip
        refine f_know 16 rfl (bool_T h6) ?_
        refine f_condT rfl ?_
        refine f_seq ?_
        refine f_region ?_
        refine f_op rfl rfl (s_mv (v := .int .i64 v4) rfl) ?_
        refine f_op rfl rfl (s_as (v := .int .i64 v4) rfl) ?_
        refine f_nil ?_
        exact f_ret (.tmp rfl (.nil)) rfl
      · skip
        refine f_know 16 rfl (bool_F h6) ?_
        refine f_condF rfl ?_
        refine f_skip ?_
        refine f_inBlock ?_
        refine f_region ?_
        refine f_op rfl rfl (s_add rfl rfl) ?_
        refine f_op rfl rfl (s_mv (v := .int .i64 (w64 (v4 + 1))) rfl) ?_
        refine f_nil ?_
        refine f_inLoop ?_
        refine f_keep [0, 1, 7, 8] ?_
        exact ih v1 v2 v3 (w64 (v4 + 1)) p4.2
    · skip
      refine f_know 9 rfl (dec_false h1) ?_
      refine f_condF rfl ?_
      refine f_exit rfl ?_
      refine f_seq ?_
      refine f_region ?_
      refine f_op rfl rfl (s_as (v := .int .i64 (-1)) rfl) ?_
      refine f_nil ?_
      exact f_ret (.tmp rfl (.nil)) rfl

theorem sim174 {app : App} (happ : AppSim Tryz.prog app) {a0 : Sl} {a1 : AV} {H : Hp} {p : Int × Hp} (h : r174 app a0 a1 H = some p) : CallSim Tryz.prog 174 [.sl a0, a1] H (.int .i64 p.1) p.2 := by
  refine callSim (fn := Tryz.f174) (ret := ret174) Tryz.func174 rfl Tryz.ntmps174 rfl ?_ h
  unfold r174
  refine f_seq ?_
  refine f_region ?_
  refine f_op rfl rfl (s_as (v := .int .i64 0) rfl) ?_
  refine f_nil ?_
  refine f_seq ?_
  refine f_seq ?_
  refine f_region ?_
  refine f_op rfl rfl (s_mv (v := .sl a0) rfl) ?_
  refine f_op rfl rfl (s_lenS rfl Tryz.underlying25 rfl) ?_
  refine f_op rfl rfl (s_mv (v := .int .i64 0) rfl) ?_
  refine f_nil ?_
  refine f_block ?_
  refine f_loop ?_
  refine f_keep [0, 1, 7, 8] ?_
  exact s174_l0 happ FUEL a0 a1 (a0.len : Int) 0 H

/- 121 slices.ContainsFunc[[]int,int] -/
theorem ok121 : FnOk Tryz.prog 121 := ⟨⟨Tryz.f121, Tryz.func121, by kernel_rfl, rfl⟩⟩
theorem sim121 {app : App} (happ : AppSim Tryz.prog app) {a0 : Sl} {a1 : AV} {H : Hp} {p : Bool × Hp} (h : r121 app a0 a1 H = some p) : CallSim Tryz.prog 121 [.sl a0, a1] H (.bool p.1) p.2 := by
  refine callSim (fn := Tryz.f121) (ret := ret121) Tryz.func121 rfl Tryz.ntmps121 rfl ?_ h
  unfold r121
  refine f_seq ?_
  refine f_region ?_
  refine f_op rfl rfl (s_as (v := .bool false) rfl) ?_
  refine f_nil ?_
  refine f_seq ?_
  refine f_region ?_
  refine f_op rfl rfl (s_mv (v := .sl a0) rfl) ?_
  refine f_op rfl rfl (s_mv (v := a1) rfl) ?_
  refine o_bind ?_; intro p1 hp1
  refine f_op rfl rfl (s_callF rfl ok174 (sim174 happ hp1)) ?_
  refine f_op rfl rfl (s_geq rfl rfl) ?_
  refine f_op rfl rfl (s_as (v := .bool (decide (0 ≤ p1.1))) rfl) ?_
  refine f_nil ?_
  exact f_ret (.tmp rfl (.nil)) rfl

/- 79 (*congou/chest.Chest).has -/
theorem ok79 : FnOk Tryz.prog 79 := ⟨⟨Tryz.f79, Tryz.func79, by kernel_rfl, rfl⟩⟩
theorem sim79 {app : App} (happ : AppSim Tryz.prog app) {a0b : Nat} {a0o : Nat} {a1 : Sl} {H : Hp} {p : Bool × Hp} (h : r79 app a0b a0o a1 H = some p) : CallSim Tryz.prog 79 [.ptr a0b a0o, .sl a1] H (.bool p.1) p.2 := by
  refine callSim (fn := Tryz.f79) (ret := ret79) Tryz.func79 rfl Tryz.ntmps79 rfl ?_ h
  unfold r79
  refine f_seq ?_
  refine f_region ?_
  refine f_op rfl rfl (s_box1 (v := .ptr a0b a0o) rfl rfl) ?_
  refine f_op rfl rfl (s_as (v := .bool false) rfl) ?_
  refine o_hp ?_; intro H1 hH1
  refine f_nil ?_
  refine f_seq ?_
  refine f_region ?_
  refine f_op rfl rfl (s_mv (v := .sl a1) rfl) ?_
  refine f_op rfl rfl (s_makeFunc rfl rfl) ?_
  refine o_bind ?_; intro p2 hp2
  refine f_op rfl rfl (s_callF rfl ok121 (sim121 happ hp2)) ?_
  refine f_op rfl rfl (s_not rfl) ?_
  refine f_op rfl rfl (s_as (v := .bool (!p2.1)) rfl) ?_
  refine f_nil ?_
  exact f_ret (.tmp rfl (.nil)) rfl

/- 40 (*congou/chest.Chest).Go -/
theorem ok40 : FnOk Tryz.prog 40 := ⟨⟨Tryz.f40, Tryz.func40, by kernel_rfl, rfl⟩⟩
theorem sim40 {app : App} (happ : AppSim Tryz.prog app) {a0b : Nat} {a0o : Nat} {a1 : Int} {H : Hp} {p : Int × Hp} (h : r40 app a0b a0o a1 H = some p) : CallSim Tryz.prog 40 [.ptr a0b a0o, .int .i64 a1] H (.int .i64 p.1) p.2 := by
  refine callSim (fn := Tryz.f40) (ret := ret40) Tryz.func40 rfl Tryz.ntmps40 rfl ?_ h
  unfold r40
  refine f_seq ?_
  refine f_region ?_
  refine f_op rfl rfl (s_as (v := .int .i64 0) rfl) ?_
  refine f_nil ?_
  refine f_seq ?_
  refine f_block ?_
  refine f_seq ?_
  refine f_region ?_
  refine f_op rfl rfl (s_mv (v := .ptr a0b a0o) rfl) ?_
  refine o_bind ?_; intro p1 hp1
  refine f_op rfl rfl (s_callF rfl ok60 (sim60 hp1)) ?_
  refine f_op rfl rfl (s_as (v := .bool p1.1) rfl) ?_
  refine f_nil ?_
  refine f_if (fun h2 => ?_) (fun h2 => ?_)
  · skip
    refine f_know 5 rfl (bool_T h2) ?_
    refine f_condT rfl ?_
    refine f_seq ?_
    refine f_region ?_
    refine f_op rfl rfl (s_as (v := .int .i64 1) rfl) ?_
    refine f_nil ?_
    exact f_ret (.tmp rfl (.nil)) rfl
  · skip
    refine f_know 5 rfl (bool_F h2) ?_
    refine f_condF rfl ?_
    refine f_seq ?_
    refine f_region ?_
    refine f_op rfl rfl (s_mv (v := .ptr a0b a0o) rfl) ?_
    refine f_op rfl rfl (s_mv (v := .int .i64 a1) rfl) ?_
    refine f_op rfl rfl (s_buildSlice (cs := [.int .i64 a1]) Tryz.underlying25 ty3 (by decide) (by decide) rfl (by decide) rfl) ?_
    refine o_bind ?_; intro p3 hp3
    refine f_op rfl rfl (s_callF rfl ok79 (sim79 happ hp3)) ?_
    refine f_op rfl rfl (s_not rfl) ?_
    refine f_op rfl rfl (s_as (v := .bool (!p3.1)) rfl) ?_
    refine f_nil ?_
    refine f_if (fun h4 => ?_) (fun h4 => ?_)
    · skip
      refine f_know 8 rfl (bool_notT h4) ?_
      refine f_condF rfl ?_
      refine f_skip ?_
      refine f_inBlock ?_
      refine f_seq ?_
      refine f_region ?_
      refine f_op rfl rfl (s_mv (v := .ptr a0b a0o) rfl) ?_
      refine f_op rfl rfl (s_mv (v := .int .i64 a1) rfl) ?_
      refine f_op rfl rfl (s_nilCheck rfl) ?_
      refine f_op rfl rfl (s_fieldAddr Tryz.underlying118 rfl ty3 rfl) ?_
      refine o_bind ?_; intro H5 hH5
      refine f_op rfl rfl (s_store (s := 1) ty3 rfl rfl rfl hH5) ?_
      refine f_nil ?_
      refine f_seq ?_
      refine f_region ?_
      refine f_op rfl rfl (s_as (v := .int .i64 0) rfl) ?_
      refine f_nil ?_
      exact f_ret (.tmp rfl (.nil)) rfl
    · skip
      refine f_know 8 rfl (bool_notF h4) ?_
      refine f_condT rfl ?_
      refine f_seq ?_
      refine f_region ?_
      refine f_op rfl rfl (s_as (v := .int .i64 2) rfl) ?_
      refine f_nil ?_
      exact f_ret (.tmp rfl (.nil)) rfl

/- 47 congou/chest.New -/
theorem ok47 : FnOk Tryz.prog 47 := ⟨⟨Tryz.f47, Tryz.func47, by kernel_rfl, rfl⟩⟩
theorem sim47 {H : Hp} {p : (Nat × Nat) × Hp} (h : r47 H = some p) : CallSim Tryz.prog 47 [] H (.ptr p.1.1 p.1.2) p.2 := by
  refine callSim (fn := Tryz.f47) (ret := ret47) Tryz.func47 rfl Tryz.ntmps47 rfl ?_ h
  unfold r47
  refine f_seq ?_
  refine f_region ?_
  refine f_op rfl rfl (s_as (v := .nilptr) rfl) ?_
  refine f_nil ?_
  refine f_seq ?_
  refine f_region ?_
  refine f_op rfl rfl (s_build (cs := [.sl ⟨true, 0, 0, 0, 0, 0⟩, .sl ⟨true, 0, 0, 0, 0, 0⟩, .int .i64 0, .int .i64 0, .int .i64 0, .int .i64 0, .sl ⟨true, 0, 0, 0, 0, 0⟩]) Tryz.underlying150 ty150 rfl pl150 rfl) ?_
  refine f_op rfl rfl (s_box (v := .agg [.sl ⟨true, 0, 0, 0, 0, 0⟩, .sl ⟨true, 0, 0, 0, 0, 0⟩, .int .i64 0, .int .i64 0, .int .i64 0, .int .i64 0, .sl ⟨true, 0, 0, 0, 0, 0⟩]) rfl rfl) ?_
  refine f_op rfl rfl (s_build (cs := [.str (ByteArray.mk #[]), .int .i64 0, .ptr H.n 0]) Tryz.underlying120 ty120 rfl pl120 rfl) ?_
  refine f_op rfl rfl (s_buildSlice (cs := [.str (ByteArray.mk #[]), .int .i64 0, .ptr H.n 0]) Tryz.underlying116 ty120 (by decide) (by decide) rfl (by decide) rfl) ?_
  refine f_op rfl rfl (s_build (cs := [.sl ⟨false, (H.push (.cells [.sl ⟨true, 0, 0, 0, 0, 0⟩, .sl ⟨true, 0, 0, 0, 0, 0⟩, .int .i64 0, .int .i64 0, .int .i64 0, .int .i64 0, .sl ⟨true, 0, 0, 0, 0, 0⟩] false)).n, 0, 1, 1, 0⟩, .int .i64 0]) Tryz.underlying118 ty118 rfl pl118 rfl) ?_
  refine f_op rfl rfl (s_box (v := .agg [.sl ⟨false, (H.push (.cells [.sl ⟨true, 0, 0, 0, 0, 0⟩, .sl ⟨true, 0, 0, 0, 0, 0⟩, .int .i64 0, .int .i64 0, .int .i64 0, .int .i64 0, .sl ⟨true, 0, 0, 0, 0, 0⟩] false)).n, 0, 1, 1, 0⟩, .int .i64 0]) rfl rfl) ?_
  refine f_op rfl rfl (s_as (v := .ptr (((H.push (.cells [.sl ⟨true, 0, 0, 0, 0, 0⟩, .sl ⟨true, 0, 0, 0, 0, 0⟩, .int .i64 0, .int .i64 0, .int .i64 0, .int .i64 0, .sl ⟨true, 0, 0, 0, 0, 0⟩] false)).push (.cells [.str (ByteArray.mk #[]), .int .i64 0, .ptr H.n 0] false)).n) 0) rfl) ?_
  refine o_hp ?_; intro H1 hH1
  refine f_nil ?_
  exact f_ret (.tmp rfl (.nil)) rfl

end Go.Lt.P10
