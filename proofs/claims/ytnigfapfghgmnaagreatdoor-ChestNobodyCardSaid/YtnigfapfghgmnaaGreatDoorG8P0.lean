/- PRINTED BY A PROGRAM OF OURS: what each function that 'ChestNobody' reaches computes on the abstract heap, and that the translated code does just that. Nothing is asked of the input. -/
import Derived.Test.YtnigfapfghgmnaaGreatDoorG8R1
set_option linter.unusedVariables false
set_option linter.unusedSimpArgs false
set_option maxRecDepth 100000
set_option maxHeartbeats 4000000
namespace Go.Lt.P10
open Go Go.Lt Go.Proofs
/- 28 (*congou/chest.Chest).none -/
theorem ok28 : FnOk Tryz.prog 28 := ⟨⟨Tryz.f28, Tryz.func28, by kernel_rfl, rfl⟩⟩
theorem sim28 {a0 : AV} {H : Hp} {p : Bool × Hp} (h : r28 a0 H = some p) : CallSim Tryz.prog 28 [a0] H (.bool p.1) p.2 := by
  refine callSim (fn := Tryz.f28) (ret := ret28) Tryz.func28 rfl Tryz.ntmps28 rfl ?_ h
  unfold r28
  refine f_seq ?_
  refine f_region ?_
  refine f_op rfl rfl (s_as (v := .bool false) rfl) ?_
  refine f_nil ?_
  refine f_seq ?_
  refine f_region ?_
  refine f_op rfl rfl (s_mv (v := a0) rfl) ?_
  refine o_bind ?_; intro x1 hx1
  refine f_op rfl rfl (s_eqVN Tryz.underlying23 rfl rfl hx1) ?_
  refine f_op rfl rfl (s_mv (v := .bool (!x1)) rfl) ?_
  refine o_if (fun h2 => ?_) (fun h2 => ?_)
  · skip
    refine o_know 5 rfl (bool_notT h2) ?_
    refine f_op rfl rfl (s_mv (v := a0) rfl) ?_
    refine o_bind ?_; intro x3 hx3
    refine o_know 6 rfl (asP_eq hx3) ?_
    refine f_op rfl rfl (s_nilCheck rfl) ?_
    refine f_op rfl rfl (s_fieldAddr Tryz.underlying56 rfl ty54 rfl) ?_
    refine o_bind ?_; intro x4 hx4
    refine f_op rfl rfl (s_load Tryz.underlying54 rfl rfl (ldSl_eq hx4)) ?_
    refine f_op rfl rfl (s_lenS rfl Tryz.underlying54 rfl) ?_
    refine f_op rfl rfl (s_eql rfl rfl) ?_
    refine f_op rfl rfl (s_pickF (v := .bool (decide ((x4.len : Int) = 0))) rfl rfl) ?_
    refine f_op rfl rfl (s_as (v := .bool (decide ((x4.len : Int) = 0))) rfl) ?_
    refine f_nil ?_
    exact f_ret (.tmp rfl (.nil)) rfl
  · skip
    refine o_know 5 rfl (bool_notF h2) ?_
    refine f_no rfl rfl ?_
    refine f_no rfl rfl ?_
    refine f_no rfl rfl ?_
    refine f_no rfl rfl ?_
    refine f_no rfl rfl ?_
    refine f_no rfl rfl ?_
    refine f_op rfl rfl (s_pickT (v := .bool true) rfl rfl) ?_
    refine f_op rfl rfl (s_as (v := .bool true) rfl) ?_
    refine f_nil ?_
    exact f_ret (.tmp rfl (.nil)) rfl

/- 10 (*congou/chest.Chest).Go -/
theorem ok10 : FnOk Tryz.prog 10 := ⟨⟨Tryz.f10, Tryz.func10, by kernel_rfl, rfl⟩⟩
theorem sim10 {a0 : AV} {a1 : Int} {H : Hp} {p : Int × Hp} (h : r10 a0 a1 H = some p) : CallSim Tryz.prog 10 [a0, .int .i64 a1] H (.int .i64 p.1) p.2 := by
  refine callSim (fn := Tryz.f10) (ret := ret10) Tryz.func10 rfl Tryz.ntmps10 rfl ?_ h
  unfold r10
  refine f_seq ?_
  refine f_region ?_
  refine f_op rfl rfl (s_as (v := .int .i64 0) rfl) ?_
  refine f_nil ?_
  refine f_seq ?_
  refine f_block ?_
  refine f_seq ?_
  refine f_region ?_
  refine f_op rfl rfl (s_mv (v := a0) rfl) ?_
  refine o_bind ?_; intro p1 hp1
  refine f_op rfl rfl (s_callF rfl ok28 (sim28 hp1)) ?_
  refine f_op rfl rfl (s_as (v := .bool p1.1) rfl) ?_
  refine f_nil ?_
  refine f_if (fun h2 => ?_) (fun h2 => ?_)
  · skip
    refine f_know 5 rfl (bool_T h2) ?_
    refine f_condT rfl ?_
    refine f_seq ?_
    refine f_region ?_
    refine f_op rfl rfl (s_as (v := .int .i64 1) rfl) ?_
    refine f_nil ?_
    exact f_ret (.tmp rfl (.nil)) rfl
  · skip
    refine f_know 5 rfl (bool_F h2) ?_
    refine f_condF rfl ?_
    refine f_seq ?_
    refine f_region ?_
    refine f_op rfl rfl (s_mv (v := a0) rfl) ?_
    refine f_op rfl rfl (s_mv (v := .int .i64 a1) rfl) ?_
    refine f_op rfl rfl (s_buildSlice (cs := [.int .i64 a1]) Tryz.underlying30 ty3 (by decide) (by decide) rfl (by decide) rfl) ?_
    exact o_none

/- 11 (*congou/chest.Chest).Fork -/
theorem ok11 : FnOk Tryz.prog 11 := ⟨⟨Tryz.f11, Tryz.func11, by kernel_rfl, rfl⟩⟩
theorem sim11 {a0 : AV} {a1 : Int} {a2 : Int} {H : Hp} {p : (Int × Int) × Hp} (h : r11 a0 a1 a2 H = some p) : CallSim Tryz.prog 11 [a0, .int .i64 a1, .int .i64 a2] H (.tup [.int .i64 p.1.1, .int .i64 p.1.2]) p.2 := by
  refine callSim (fn := Tryz.f11) (ret := ret11) Tryz.func11 rfl Tryz.ntmps11 rfl ?_ h
  unfold r11
  refine f_seq ?_
  refine f_region ?_
  refine f_op rfl rfl (s_as (v := .int .i64 0) rfl) ?_
  refine f_op rfl rfl (s_as (v := .int .i64 0) rfl) ?_
  refine f_nil ?_
  refine f_seq ?_
  refine f_block ?_
  refine f_seq ?_
  refine f_region ?_
  refine f_op rfl rfl (s_mv (v := a0) rfl) ?_
  refine o_bind ?_; intro p1 hp1
  refine f_op rfl rfl (s_callF rfl ok28 (sim28 hp1)) ?_
  refine f_op rfl rfl (s_as (v := .bool p1.1) rfl) ?_
  refine f_nil ?_
  refine f_if (fun h2 => ?_) (fun h2 => ?_)
  · skip
    refine f_know 10 rfl (bool_T h2) ?_
    refine f_condT rfl ?_
    refine f_seq ?_
    refine f_region ?_
    refine f_op rfl rfl (s_as (v := .int .i64 0) rfl) ?_
    refine f_op rfl rfl (s_as (v := .int .i64 1) rfl) ?_
    refine f_nil ?_
    exact f_ret (.tmp rfl (.tmp rfl (.nil))) rfl
  · skip
    refine f_know 10 rfl (bool_F h2) ?_
    refine f_condF rfl ?_
    refine f_seq ?_
    refine f_region ?_
    refine f_op rfl rfl (s_mv (v := a0) rfl) ?_
    refine f_op rfl rfl (s_mv (v := .int .i64 a1) rfl) ?_
    refine f_op rfl rfl (s_mv (v := .int .i64 a2) rfl) ?_
    refine f_op rfl rfl (s_buildSlice (cs := [.int .i64 a1, .int .i64 a2]) Tryz.underlying30 ty3 (by decide) (by decide) rfl (by decide) rfl) ?_
    exact o_none

/- 14 congou/chest.New -/
theorem ok14 : FnOk Tryz.prog 14 := ⟨⟨Tryz.f14, Tryz.func14, by kernel_rfl, rfl⟩⟩
theorem sim14 {H : Hp} {p : (Nat × Nat) × Hp} (h : r14 H = some p) : CallSim Tryz.prog 14 [] H (.ptr p.1.1 p.1.2) p.2 := by
  refine callSim (fn := Tryz.f14) (ret := ret14) Tryz.func14 rfl Tryz.ntmps14 rfl ?_ h
  unfold r14
  refine f_seq ?_
  refine f_region ?_
  refine f_op rfl rfl (s_as (v := .nilptr) rfl) ?_
  refine f_nil ?_
  refine f_seq ?_
  refine f_region ?_
  refine f_op rfl rfl (s_build (cs := [.sl ⟨true, 0, 0, 0, 0, 0⟩, .sl ⟨true, 0, 0, 0, 0, 0⟩, .int .i64 0, .int .i64 0, .int .i64 0, .int .i64 0, .sl ⟨true, 0, 0, 0, 0, 0⟩]) Tryz.underlying69 ty69 rfl pl69 rfl) ?_
  refine f_op rfl rfl (s_box (v := .agg [.sl ⟨true, 0, 0, 0, 0, 0⟩, .sl ⟨true, 0, 0, 0, 0, 0⟩, .int .i64 0, .int .i64 0, .int .i64 0, .int .i64 0, .sl ⟨true, 0, 0, 0, 0, 0⟩]) rfl rfl) ?_
  refine f_op rfl rfl (s_build (cs := [.str (ByteArray.mk #[]), .int .i64 0, .ptr H.n 0]) Tryz.underlying71 ty71 rfl pl71 rfl) ?_
  refine f_op rfl rfl (s_buildSlice (cs := [.str (ByteArray.mk #[]), .int .i64 0, .ptr H.n 0]) Tryz.underlying54 ty71 (by decide) (by decide) rfl (by decide) rfl) ?_
  refine f_op rfl rfl (s_build (cs := [.sl ⟨false, (H.push (.cells [.sl ⟨true, 0, 0, 0, 0, 0⟩, .sl ⟨true, 0, 0, 0, 0, 0⟩, .int .i64 0, .int .i64 0, .int .i64 0, .int .i64 0, .sl ⟨true, 0, 0, 0, 0, 0⟩] false)).n, 0, 1, 1, 0⟩, .int .i64 0]) Tryz.underlying56 ty56 rfl pl56 rfl) ?_
  refine f_op rfl rfl (s_box (v := .agg [.sl ⟨false, (H.push (.cells [.sl ⟨true, 0, 0, 0, 0, 0⟩, .sl ⟨true, 0, 0, 0, 0, 0⟩, .int .i64 0, .int .i64 0, .int .i64 0, .int .i64 0, .sl ⟨true, 0, 0, 0, 0, 0⟩] false)).n, 0, 1, 1, 0⟩, .int .i64 0]) rfl rfl) ?_
  refine f_op rfl rfl (s_as (v := .ptr (((H.push (.cells [.sl ⟨true, 0, 0, 0, 0, 0⟩, .sl ⟨true, 0, 0, 0, 0, 0⟩, .int .i64 0, .int .i64 0, .int .i64 0, .int .i64 0, .sl ⟨true, 0, 0, 0, 0, 0⟩] false)).push (.cells [.str (ByteArray.mk #[]), .int .i64 0, .ptr H.n 0] false)).n) 0) rfl) ?_
  refine o_hp ?_; intro H1 hH1
  refine f_nil ?_
  exact f_ret (.tmp rfl (.nil)) rfl

/- 15 (*congou/chest.Chest).At -/
theorem ok15 : FnOk Tryz.prog 15 := ⟨⟨Tryz.f15, Tryz.func15, by kernel_rfl, rfl⟩⟩
theorem sim15 {a0 : AV} {H : Hp} {p : Int × Hp} (h : r15 a0 H = some p) : CallSim Tryz.prog 15 [a0] H (.int .i64 p.1) p.2 := by
  refine callSim (fn := Tryz.f15) (ret := ret15) Tryz.func15 rfl Tryz.ntmps15 rfl ?_ h
  unfold r15
  refine f_seq ?_
  refine f_region ?_
  refine f_op rfl rfl (s_as (v := .int .i64 0) rfl) ?_
  refine f_nil ?_
  refine f_seq ?_
  refine f_seq ?_
  refine f_region ?_
  refine f_op rfl rfl (s_mv (v := a0) rfl) ?_
  refine o_bind ?_; intro p1 hp1
  refine f_op rfl rfl (s_callF rfl ok28 (sim28 hp1)) ?_
  refine f_nil ?_
  refine f_if (fun h2 => ?_) (fun h2 => ?_)
  · skip
    refine f_know 4 rfl (bool_T h2) ?_
    refine f_condT rfl ?_
    refine f_seq ?_
    refine f_region ?_
    refine f_op rfl rfl (s_as (v := .int .i64 0) rfl) ?_
    refine f_nil ?_
    exact f_ret (.tmp rfl (.nil)) rfl
  · skip
    refine f_know 4 rfl (bool_F h2) ?_
    refine f_condF rfl ?_
    refine f_skip ?_
    refine f_seq ?_
    refine f_region ?_
    refine f_op rfl rfl (s_mv (v := a0) rfl) ?_
    refine o_bind ?_; intro x3 hx3
    refine o_know 5 rfl (asP_eq hx3) ?_
    refine f_op rfl rfl (s_nilCheck rfl) ?_
    refine f_op rfl rfl (s_fieldAddr Tryz.underlying56 rfl ty3 rfl) ?_
    refine o_bind ?_; intro x4 hx4
    refine f_op rfl rfl (s_load Tryz.underlying3 rfl rfl (ldI_eq hx4)) ?_
    refine f_op rfl rfl (s_as (v := .int .i64 x4) rfl) ?_
    refine f_nil ?_
    exact f_ret (.tmp rfl (.nil)) rfl

/- 33 (*congou/chest.Chest).now -/
theorem ok33 : FnOk Tryz.prog 33 := ⟨⟨Tryz.f33, Tryz.func33, by kernel_rfl, rfl⟩⟩
theorem sim33 {a0b : Nat} {a0o : Nat} {H : Hp} {p : (Nat × Nat) × Hp} (h : r33 a0b a0o H = some p) : CallSim Tryz.prog 33 [.ptr a0b a0o] H (.ptr p.1.1 p.1.2) p.2 := by
  refine callSim (fn := Tryz.f33) (ret := ret33) Tryz.func33 rfl Tryz.ntmps33 rfl ?_ h
  unfold r33
  refine f_seq ?_
  refine f_region ?_
  refine f_op rfl rfl (s_as (v := .nilptr) rfl) ?_
  refine f_nil ?_
  refine f_seq ?_
  refine f_bind ?_; intro x1 hx1
  refine f_bind ?_; intro x2 hx2
  refine f_ck fun g3 => ?_
  refine f_bind ?_; intro x4 hx4
  refine f_draw (Φ := fun _ => True) (lim := 1000000) [0, 0, 0, 1, 0, 0, 0, 1, 0, 0, 1, 0] (Trc.pure rfl rfl rfl (.inl fun _ => s_mv (v := .ptr a0b a0o) rfl) (Trc.pure rfl rfl rfl (.inl fun _ => s_nilCheck rfl) (Trc.pure rfl rfl rfl (.inl fun _ => s_fieldAddr Tryz.underlying56 rfl ty54 rfl) (Trc.read rfl rfl rfl (s_load Tryz.underlying54 rfl rfl (ldSl_eq hx1)) (Trc.pure rfl rfl rfl (.inl fun _ => s_mv (v := .ptr a0b a0o) rfl) (Trc.pure rfl rfl rfl (.inl fun _ => s_nilCheck rfl) (Trc.pure rfl rfl rfl (.inl fun _ => s_fieldAddr Tryz.underlying56 rfl ty3 rfl) (Trc.read rfl rfl rfl (s_load Tryz.underlying3 rfl rfl (ldI_eq hx2)) (Trc.pure rfl rfl rfl (.inl fun _ => s_idx Tryz.underlying54 ty71 rfl rfl g3) (Trc.pure rfl rfl rfl (.inl fun _ => s_fieldAddr Tryz.underlying71 rfl ty63 rfl) (Trc.read rfl rfl rfl (s_load Tryz.underlying63 rfl rfl (ldP_eq hx4)) (Trc.pure rfl rfl rfl (.inl fun _ => s_as (v := .ptr x4.1 x4.2) rfl) (Trc.nil (fun _ => trivial)))))))))))))) rfl (by decide +kernel) mixed ?_
  exact f_ret (.tmp rfl (.nil)) rfl

/- 152 internal/stringslite.IndexByte -/
theorem ok152 : FnOk Tryz.prog 152 := ⟨⟨Tryz.f152, Tryz.func152, by kernel_rfl, rfl⟩⟩
theorem sim152 {a0 : ByteArray} {a1 : Int} {H : Hp} {p : Int × Hp} (h : r152 a0 a1 H = some p) : CallSim Tryz.prog 152 [.str a0, .int .u8 a1] H (.int .i64 p.1) p.2 := by
  refine callSim (fn := Tryz.f152) (ret := ret152) Tryz.func152 rfl Tryz.ntmps152 rfl ?_ h
  unfold r152
  refine f_seq ?_
  refine f_region ?_
  refine f_op rfl rfl (s_as (v := .int .i64 0) rfl) ?_
  refine f_nil ?_
  refine f_seq ?_
  refine f_region ?_
  refine f_op rfl rfl (s_mv (v := .str a0) rfl) ?_
  refine f_op rfl rfl (s_mv (v := .int .u8 a1) rfl) ?_
  refine f_op rfl rfl (s_idxByte rfl ext216) ?_
  refine f_op rfl rfl (s_as (v := .int .i64 (strIdx a0 a1)) rfl) ?_
  refine f_nil ?_
  exact f_ret (.tmp rfl (.nil)) rfl

/- 154 internal/bytealg.Cutover -/
theorem ok154 : FnOk Tryz.prog 154 := ⟨⟨Tryz.f154, Tryz.func154, by kernel_rfl, rfl⟩⟩
theorem sim154 {a0 : Int} {H : Hp} {p : Int × Hp} (h : r154 a0 H = some p) : CallSim Tryz.prog 154 [.int .i64 a0] H (.int .i64 p.1) p.2 := by
  refine callSim (fn := Tryz.f154) (ret := ret154) Tryz.func154 rfl Tryz.ntmps154 rfl ?_ h
  unfold r154
  refine f_seq ?_
  refine f_region ?_
  refine f_op rfl rfl (s_as (v := .int .i64 0) rfl) ?_
  refine f_nil ?_
  refine f_seq ?_
  refine f_region ?_
  refine f_op rfl rfl (s_mv (v := .int .i64 a0) rfl) ?_
  refine f_op rfl rfl (s_add rfl rfl) ?_
  refine f_op rfl rfl (s_quo rfl rfl (by decide)) ?_
  refine f_op rfl rfl (s_as (v := .int .i64 (w64 (Int.tdiv (w64 (a0 + 16)) 8))) rfl) ?_
  refine f_nil ?_
  exact f_ret (.tmp rfl (.nil)) rfl

/- 217 internal/bytealg.hashStr[string] -/
theorem ok217 : FnOk Tryz.prog 217 := ⟨⟨Tryz.f217, Tryz.func217, by kernel_rfl, rfl⟩⟩
theorem s217_j2 (kt1 : Int → Int → Int → Int → Hp → Option ((Int × Int) × Hp)) (hkt1 : ∀ (v1 : Int) (v2 : Int) (v3 : Int) (v4 : Int) (H : Hp), Fin Tryz.prog Tryz.f217 ret217 39 (todoAt (bodyOf Tryz.f217) [1, 1, 1, 1, 0, 1, 0, 0] []) [(4, .int .u32 v1), (6, .int .u32 v2), (7, .int .u32 v3), (8, .int .i64 v4)] H (kt1 v1 v2 v3 v4 H)) (v1 : Int) (v2 : Int) (v3 : Int) (v4 : Int) (H : Hp) : Fin Tryz.prog Tryz.f217 ret217 39 (todoAt (bodyOf Tryz.f217) [1, 1, 1, 1, 0, 1, 0, 0, 1, 0, 0, 1] []) [(4, .int .u32 v1), (6, .int .u32 v2), (7, .int .u32 v3), (8, .int .i64 v4)] H (r217_j2 kt1 v1 v2 v3 v4 H) := by
  unfold r217_j2
  refine f_region ?_
  refine f_op rfl rfl (s_mv (v := .int .u32 v3) rfl) ?_
  refine f_op rfl rfl (s_mv (v := .int .u32 v3) rfl) ?_
  refine f_op rfl rfl (s_mul rfl rfl) ?_
  refine f_op rfl rfl (s_as (v := .int .u32 (IntKind.wrap .u32 (v3 * v3))) rfl) ?_
  refine f_nil ?_
  refine f_inBlock ?_
  refine f_region ?_
  refine f_op rfl rfl (s_mv (v := .int .i64 v4) rfl) ?_
  refine f_op rfl rfl (s_shr rfl rfl (by decide)) ?_
  refine f_op rfl rfl (s_as (v := .int .i64 (shrOf .i64 v4 1)) rfl) ?_
  refine f_nil ?_
  refine f_inLoop ?_
  refine f_keep [4, 6, 7, 8] ?_
  exact hkt1 v1 v2 (IntKind.wrap .u32 (v3 * v3)) (shrOf .i64 v4 1) H

theorem s217_l1 : ∀ (k_ : Nat) (v1 : Int) (v2 : Int) (v3 : Int) (v4 : Int) (H : Hp), Fin Tryz.prog Tryz.f217 ret217 39 (todoAt (bodyOf Tryz.f217) [1, 1, 1, 1, 0, 1, 0, 0] []) [(4, .int .u32 v1), (6, .int .u32 v2), (7, .int .u32 v3), (8, .int .i64 v4)] H (r217_l1 k_ v1 v2 v3 v4 H) := by
  intro k_
  induction k_ with
  | zero => intro _ _ _ _ _; exact f_none
  | succ k_ ih =>
    intro v1 v2 v3 v4 H
    rw [r217_l1]
    refine f_seq ?_
    refine f_seq ?_
    refine f_region ?_
    refine f_op rfl rfl (s_mv (v := .int .i64 v4) rfl) ?_
    refine f_op rfl rfl (s_gtr rfl rfl) ?_
    refine f_nil ?_
    refine f_if (fun h1 => ?_) (fun h1 => ?_)
    · skip
      refine f_know 25 rfl (dec_true h1) ?_
      refine f_condT rfl ?_
      refine f_skip ?_
      refine f_seq ?_
      refine f_block ?_
      refine f_seq ?_
      refine f_seq ?_
      refine f_region ?_
      refine f_op rfl rfl (s_mv (v := .int .i64 v4) rfl) ?_
      refine f_op rfl rfl (s_and rfl rfl) ?_
      refine f_op rfl rfl (s_neq rfl rfl) ?_
      refine f_nil ?_
      refine f_if (fun h2 => ?_) (fun h2 => ?_)
      · skip
        refine f_know 30 rfl (dec_true h2) ?_
        refine f_condT rfl ?_
        refine f_region ?_
        refine f_op rfl rfl (s_mv (v := .int .u32 v2) rfl) ?_
        refine f_op rfl rfl (s_mv (v := .int .u32 v3) rfl) ?_
        refine f_op rfl rfl (s_mul rfl rfl) ?_
        refine f_op rfl rfl (s_as (v := .int .u32 (IntKind.wrap .u32 (v2 * v3))) rfl) ?_
        refine f_nil ?_
        refine f_keep [4, 6, 7, 8] ?_
        exact s217_j2 _ (fun v1_ v2_ v3_ v4_ H_ => ih v1_ v2_ v3_ v4_ H_) v1 (IntKind.wrap .u32 (v2 * v3)) v3 v4 H
      · skip
        refine f_know 30 rfl (dec_false h2) ?_
        refine f_condF rfl ?_
        refine f_skip ?_
        refine f_keep [4, 6, 7, 8] ?_
        exact s217_j2 _ (fun v1_ v2_ v3_ v4_ H_ => ih v1_ v2_ v3_ v4_ H_) v1 v2 v3 v4 H
    · skip
      refine f_know 25 rfl (dec_false h1) ?_
      refine f_condF rfl ?_
      refine f_exit rfl ?_
      refine f_seq ?_
      refine f_region ?_
      refine f_op rfl rfl (s_mv (v := .int .u32 v1) rfl) ?_
      refine f_op rfl rfl (s_mv (v := .int .u32 v2) rfl) ?_
      refine f_op rfl rfl (s_as (v := .int .u32 v1) rfl) ?_
      refine f_op rfl rfl (s_as (v := .int .u32 v2) rfl) ?_
      refine f_nil ?_
      exact f_ret (.tmp rfl (.tmp rfl (.nil))) rfl

theorem s217_l0 : ∀ (k_ : Nat) (v1 : ByteArray) (v2 : Int) (v3 : Int) (H : Hp), Fin Tryz.prog Tryz.f217 ret217 39 (todoAt (bodyOf Tryz.f217) [1, 1, 0, 1, 0, 0] []) [(0, .str v1), (4, .int .u32 v2), (5, .int .i64 v3)] H (r217_l0 k_ v1 v2 v3 H) := by
  intro k_
  induction k_ with
  | zero => intro _ _ _ _; exact f_none
  | succ k_ ih =>
    intro v1 v2 v3 H
    rw [r217_l0]
    refine f_seq ?_
    refine f_seq ?_
    refine f_region ?_
    refine f_op rfl rfl (s_mv (v := .int .i64 v3) rfl) ?_
    refine f_op rfl rfl (s_mv (v := .str v1) rfl) ?_
    refine f_op rfl rfl (s_lenStr rfl Tryz.underlying9 rfl) ?_
    refine f_op rfl rfl (s_lss rfl rfl) ?_
    refine f_nil ?_
    refine f_if (fun h1 => ?_) (fun h1 => ?_)
    · skip
      refine f_know 12 rfl (dec_true h1) ?_
      refine f_condT rfl ?_
      refine f_skip ?_
      refine f_seq ?_
      refine f_block ?_
      refine f_region ?_
      refine f_op rfl rfl (s_mv (v := .int .u32 v2) rfl) ?_
      refine f_op rfl rfl (s_mul rfl rfl) ?_
      refine f_op rfl rfl (s_mv (v := .str v1) rfl) ?_
      refine f_op rfl rfl (s_mv (v := .int .i64 v3) rfl) ?_
      refine o_ck fun g2 => ?_
      refine f_op rfl rfl (s_indexStr Tryz.underlying9 rfl rfl g2) ?_
      refine f_op rfl rfl (s_convInt Tryz.underlying5 Tryz.underlying251 rfl) ?_
      refine f_op rfl rfl (s_add rfl rfl) ?_
      refine f_op rfl rfl (s_as (v := .int .u32 (IntKind.wrap .u32 ((IntKind.wrap .u32 (v2 * 16777619)) + (IntKind.wrap .u32 (bt v1 v3))))) rfl) ?_
      refine f_nil ?_
      refine f_inBlock ?_
      refine f_region ?_
      refine f_op rfl rfl (s_mv (v := .int .i64 v3) rfl) ?_
      refine f_op rfl rfl (s_add rfl rfl) ?_
      refine f_op rfl rfl (s_as (v := .int .i64 (w64 (v3 + 1))) rfl) ?_
      refine f_nil ?_
      refine f_inLoop ?_
      refine f_keep [0, 4, 5] ?_
      exact ih v1 (IntKind.wrap .u32 ((IntKind.wrap .u32 (v2 * 16777619)) + (IntKind.wrap .u32 (bt v1 v3)))) (w64 (v3 + 1)) H
    · skip
      refine f_know 12 rfl (dec_false h1) ?_
      refine f_condF rfl ?_
      refine f_exit rfl ?_
      refine f_seq ?_
      refine f_region ?_
      refine f_op rfl rfl (s_as (v := .int .u32 1) rfl) ?_
      refine f_op rfl rfl (s_as (v := .int .u32 16777619) rfl) ?_
      refine f_nil ?_
      refine f_seq ?_
      refine f_seq ?_
      refine f_region ?_
      refine f_op rfl rfl (s_mv (v := .str v1) rfl) ?_
      refine f_op rfl rfl (s_lenStr rfl Tryz.underlying9 rfl) ?_
      refine f_op rfl rfl (s_as (v := .int .i64 (v1.size : Int)) rfl) ?_
      refine f_nil ?_
      refine f_block ?_
      refine f_loop ?_
      refine f_keep [4, 6, 7, 8] ?_
      exact s217_l1 FUEL v2 1 16777619 (v1.size : Int) H

theorem sim217 {a0 : ByteArray} {H : Hp} {p : (Int × Int) × Hp} (h : r217 a0 H = some p) : CallSim Tryz.prog 217 [.str a0] H (.tup [.int .u32 p.1.1, .int .u32 p.1.2]) p.2 := by
  refine callSim (fn := Tryz.f217) (ret := ret217) Tryz.func217 rfl Tryz.ntmps217 rfl ?_ h
  unfold r217
  refine f_seq ?_
  refine f_region ?_
  refine f_op rfl rfl (s_as (v := .int .u32 0) rfl) ?_
  refine f_op rfl rfl (s_as (v := .int .u32 0) rfl) ?_
  refine f_nil ?_
  refine f_seq ?_
  refine f_region ?_
  refine f_op rfl rfl (s_as (v := .int .u32 0) rfl) ?_
  refine f_nil ?_
  refine f_seq ?_
  refine f_seq ?_
  refine f_region ?_
  refine f_op rfl rfl (s_as (v := .int .i64 0) rfl) ?_
  refine f_nil ?_
  refine f_block ?_
  refine f_loop ?_
  refine f_keep [0, 4, 5] ?_
  exact s217_l0 FUEL a0 0 0 H

/- 155 internal/bytealg.IndexRabinKarp[string] -/
theorem ok155 : FnOk Tryz.prog 155 := ⟨⟨Tryz.f155, Tryz.func155, by kernel_rfl, rfl⟩⟩
theorem s155_j3 (kt1 : ByteArray → ByteArray → Int → Int → Int → Int → Int → Hp → Option (Int × Hp)) (hkt1 : ∀ (v1 : ByteArray) (v2 : ByteArray) (v3 : Int) (v4 : Int) (v5 : Int) (v6 : Int) (v7 : Int) (H : Hp), Fin Tryz.prog Tryz.f155 ret155 81 (todoAt (bodyOf Tryz.f155) [1, 1, 1, 1, 1, 1, 0, 1, 0, 0] []) [(0, .str v1), (1, .str v2), (5, .int .u32 v3), (6, .int .u32 v4), (7, .int .i64 v5), (8, .int .u32 v6), (10, .int .i64 v7)] H (kt1 v1 v2 v3 v4 v5 v6 v7 H)) (v1 : ByteArray) (v2 : ByteArray) (v3 : Int) (v4 : Int) (v5 : Int) (v6 : Int) (v7 : Int) (v8 : Bool) (H : Hp) : Fin Tryz.prog Tryz.f155 ret155 81 (todoAt (bodyOf Tryz.f155) [1, 1, 1, 1, 1, 1, 0, 1, 0, 0, 1, 0, 1, 1, 1, 1, 1] []) [(0, .str v1), (1, .str v2), (5, .int .u32 v3), (6, .int .u32 v4), (7, .int .i64 v5), (8, .int .u32 v6), (10, .int .i64 v7), (77, .bool v8)] H (r155_j3 kt1 v1 v2 v3 v4 v5 v6 v7 v8 H) := by
  unfold r155_j3
  refine f_if (fun h1 => ?_) (fun h1 => ?_)
  · skip
    refine f_know 77 rfl (bool_T h1) ?_
    refine f_condT rfl ?_
    refine f_seq ?_
    refine f_region ?_
    refine f_op rfl rfl (s_mv (v := .int .i64 v7) rfl) ?_
    refine f_op rfl rfl (s_mv (v := .int .i64 v5) rfl) ?_
    refine f_op rfl rfl (s_sub rfl rfl) ?_
    refine f_op rfl rfl (s_as (v := .int .i64 (w64 (v7 - v5))) rfl) ?_
    refine f_nil ?_
    exact f_ret (.tmp rfl (.nil)) rfl
  · skip
    refine f_know 77 rfl (bool_F h1) ?_
    refine f_condF rfl ?_
    refine f_skip ?_
    refine f_inBlock ?_
    refine f_inLoop ?_
    refine f_keep [0, 1, 5, 6, 7, 8, 10] ?_
    exact hkt1 v1 v2 v3 v4 v5 v6 v7 H

theorem s155_l1 : ∀ (k_ : Nat) (v1 : ByteArray) (v2 : ByteArray) (v3 : Int) (v4 : Int) (v5 : Int) (v6 : Int) (v7 : Int) (H : Hp), Fin Tryz.prog Tryz.f155 ret155 81 (todoAt (bodyOf Tryz.f155) [1, 1, 1, 1, 1, 1, 0, 1, 0, 0] []) [(0, .str v1), (1, .str v2), (5, .int .u32 v3), (6, .int .u32 v4), (7, .int .i64 v5), (8, .int .u32 v6), (10, .int .i64 v7)] H (r155_l1 k_ v1 v2 v3 v4 v5 v6 v7 H) := by
  intro k_
  induction k_ with
  | zero => intro _ _ _ _ _ _ _ _; exact f_none
  | succ k_ ih =>
    intro v1 v2 v3 v4 v5 v6 v7 H
    rw [r155_l1]
    refine f_seq ?_
    refine f_seq ?_
    refine f_region ?_
    refine f_op rfl rfl (s_mv (v := .int .i64 v7) rfl) ?_
    refine f_op rfl rfl (s_mv (v := .str v1) rfl) ?_
    refine f_op rfl rfl (s_lenStr rfl Tryz.underlying9 rfl) ?_
    refine f_op rfl rfl (s_lss rfl rfl) ?_
    refine f_nil ?_
    refine f_if (fun h1 => ?_) (fun h1 => ?_)
    · skip
      refine f_know 44 rfl (dec_true h1) ?_
      refine f_condT rfl ?_
      refine f_skip ?_
      refine f_block ?_
      refine f_seq ?_
      refine f_region ?_
      refine f_op rfl rfl (s_mv (v := .int .u32 v6) rfl) ?_
      refine f_op rfl rfl (s_mul rfl rfl) ?_
      refine f_op rfl rfl (s_as (v := .int .u32 (IntKind.wrap .u32 (v6 * 16777619))) rfl) ?_
      refine f_nil ?_
      refine f_seq ?_
      refine f_region ?_
      refine f_op rfl rfl (s_mv (v := .int .u32 (IntKind.wrap .u32 (v6 * 16777619))) rfl) ?_
      refine f_op rfl rfl (s_mv (v := .str v1) rfl) ?_
      refine f_op rfl rfl (s_mv (v := .int .i64 v7) rfl) ?_
      refine o_ck fun g2 => ?_
      refine f_op rfl rfl (s_indexStr Tryz.underlying9 rfl rfl g2) ?_
      refine f_op rfl rfl (s_convInt Tryz.underlying5 Tryz.underlying251 rfl) ?_
      refine f_op rfl rfl (s_add rfl rfl) ?_
      refine f_op rfl rfl (s_as (v := .int .u32 (IntKind.wrap .u32 ((IntKind.wrap .u32 (v6 * 16777619)) + (IntKind.wrap .u32 (bt v1 v7))))) rfl) ?_
      refine f_nil ?_
      refine f_seq ?_
      refine f_region ?_
      refine f_op rfl rfl (s_mv (v := .int .u32 (IntKind.wrap .u32 ((IntKind.wrap .u32 (v6 * 16777619)) + (IntKind.wrap .u32 (bt v1 v7))))) rfl) ?_
      refine f_op rfl rfl (s_mv (v := .int .u32 v4) rfl) ?_
      refine f_op rfl rfl (s_mv (v := .str v1) rfl) ?_
      refine f_op rfl rfl (s_mv (v := .int .i64 v7) rfl) ?_
      refine f_op rfl rfl (s_mv (v := .int .i64 v5) rfl) ?_
      refine f_op rfl rfl (s_sub rfl rfl) ?_
      refine o_ck fun g3 => ?_
      refine f_op rfl rfl (s_indexStr Tryz.underlying9 rfl rfl g3) ?_
      refine f_op rfl rfl (s_convInt Tryz.underlying5 Tryz.underlying251 rfl) ?_
      refine f_op rfl rfl (s_mul rfl rfl) ?_
      refine f_op rfl rfl (s_sub rfl rfl) ?_
      refine f_op rfl rfl (s_as (v := .int .u32 (IntKind.wrap .u32 ((IntKind.wrap .u32 ((IntKind.wrap .u32 (v6 * 16777619)) + (IntKind.wrap .u32 (bt v1 v7)))) - (IntKind.wrap .u32 (v4 * (IntKind.wrap .u32 (bt v1 (w64 (v7 - v5))))))))) rfl) ?_
      refine f_nil ?_
      refine f_seq ?_
      refine f_region ?_
      refine f_op rfl rfl (s_mv (v := .int .i64 v7) rfl) ?_
      refine f_op rfl rfl (s_add rfl rfl) ?_
      refine f_op rfl rfl (s_as (v := .int .i64 (w64 (v7 + 1))) rfl) ?_
      refine f_nil ?_
      refine f_seq ?_
      refine f_region ?_
      refine f_op rfl rfl (s_mv (v := .int .u32 (IntKind.wrap .u32 ((IntKind.wrap .u32 ((IntKind.wrap .u32 (v6 * 16777619)) + (IntKind.wrap .u32 (bt v1 v7)))) - (IntKind.wrap .u32 (v4 * (IntKind.wrap .u32 (bt v1 (w64 (v7 - v5))))))))) rfl) ?_
      refine f_op rfl rfl (s_mv (v := .int .u32 v3) rfl) ?_
      refine f_op rfl rfl (s_eql rfl rfl) ?_
      refine f_op rfl rfl (s_mv (v := .bool (decide ((IntKind.wrap .u32 ((IntKind.wrap .u32 ((IntKind.wrap .u32 (v6 * 16777619)) + (IntKind.wrap .u32 (bt v1 v7)))) - (IntKind.wrap .u32 (v4 * (IntKind.wrap .u32 (bt v1 (w64 (v7 - v5)))))))) = v3))) rfl) ?_
      refine o_if (fun h4 => ?_) (fun h4 => ?_)
      · skip
        refine o_know 68 rfl (dec_true h4) ?_
        refine f_op rfl rfl (s_mv (v := .str v1) rfl) ?_
        refine f_op rfl rfl (s_mv (v := .int .i64 (w64 (v7 + 1))) rfl) ?_
        refine f_op rfl rfl (s_mv (v := .int .i64 v5) rfl) ?_
        refine f_op rfl rfl (s_sub rfl rfl) ?_
        refine f_op rfl rfl (s_mv (v := .int .i64 (w64 (v7 + 1))) rfl) ?_
        refine o_ck fun g5 => ?_
        refine f_op rfl rfl (s_sliceStr Tryz.underlying9 rfl rfl rfl g5) ?_
        refine f_op rfl rfl (s_mv (v := .str v2) rfl) ?_
        refine f_op rfl rfl (s_eqStr rfl rfl) ?_
        refine f_op rfl rfl (s_pickT (v := .bool (strEq (v1.extract (w64 ((w64 (v7 + 1)) - v5) : Int).toNat (w64 (v7 + 1) : Int).toNat) v2)) rfl rfl) ?_
        refine f_nil ?_
        refine f_keep [0, 1, 5, 6, 7, 8, 10, 77] ?_
        exact s155_j3 _ (fun v1_ v2_ v3_ v4_ v5_ v6_ v7_ H_ => ih v1_ v2_ v3_ v4_ v5_ v6_ v7_ H_) v1 v2 v3 v4 v5 (IntKind.wrap .u32 ((IntKind.wrap .u32 ((IntKind.wrap .u32 (v6 * 16777619)) + (IntKind.wrap .u32 (bt v1 v7)))) - (IntKind.wrap .u32 (v4 * (IntKind.wrap .u32 (bt v1 (w64 (v7 - v5)))))))) (w64 (v7 + 1)) (strEq (v1.extract (w64 ((w64 (v7 + 1)) - v5) : Int).toNat (w64 (v7 + 1) : Int).toNat) v2) H
      · skip
        refine o_know 68 rfl (dec_false h4) ?_
        refine f_no rfl rfl ?_
        refine f_no rfl rfl ?_
        refine f_no rfl rfl ?_
        refine f_no rfl rfl ?_
        refine f_no rfl rfl ?_
        refine f_no rfl rfl ?_
        refine f_no rfl rfl ?_
        refine f_no rfl rfl ?_
        refine f_op rfl rfl (s_pickF (v := .bool false) rfl rfl) ?_
        refine f_nil ?_
        refine f_keep [0, 1, 5, 6, 7, 8, 10, 77] ?_
        exact s155_j3 _ (fun v1_ v2_ v3_ v4_ v5_ v6_ v7_ H_ => ih v1_ v2_ v3_ v4_ v5_ v6_ v7_ H_) v1 v2 v3 v4 v5 (IntKind.wrap .u32 ((IntKind.wrap .u32 ((IntKind.wrap .u32 (v6 * 16777619)) + (IntKind.wrap .u32 (bt v1 v7)))) - (IntKind.wrap .u32 (v4 * (IntKind.wrap .u32 (bt v1 (w64 (v7 - v5)))))))) (w64 (v7 + 1)) false H
    · skip
      refine f_know 44 rfl (dec_false h1) ?_
      refine f_condF rfl ?_
      refine f_exit rfl ?_
      refine f_seq ?_
      refine f_region ?_
      refine f_op rfl rfl (s_as (v := .int .i64 (-1)) rfl) ?_
      refine f_nil ?_
      exact f_ret (.tmp rfl (.nil)) rfl

theorem s155_j2 (v1 : ByteArray) (v2 : ByteArray) (v3 : Int) (v4 : Int) (v5 : Int) (v6 : Int) (v7 : Bool) (H : Hp) : Fin Tryz.prog Tryz.f155 ret155 81 (todoAt (bodyOf Tryz.f155) [1, 1, 1, 1, 1, 0, 1] []) [(0, .str v1), (1, .str v2), (5, .int .u32 v3), (6, .int .u32 v4), (7, .int .i64 v5), (8, .int .u32 v6), (39, .bool v7)] H (r155_j2 v1 v2 v3 v4 v5 v6 v7 H) := by
  unfold r155_j2
  refine f_if (fun h1 => ?_) (fun h1 => ?_)
  · skip
    refine f_know 39 rfl (bool_T h1) ?_
    refine f_condT rfl ?_
    refine f_seq ?_
    refine f_region ?_
    refine f_op rfl rfl (s_as (v := .int .i64 0) rfl) ?_
    refine f_nil ?_
    exact f_ret (.tmp rfl (.nil)) rfl
  · skip
    refine f_know 39 rfl (bool_F h1) ?_
    refine f_condF rfl ?_
    refine f_skip ?_
    refine f_seq ?_
    refine f_seq ?_
    refine f_region ?_
    refine f_op rfl rfl (s_mv (v := .int .i64 v5) rfl) ?_
    refine f_op rfl rfl (s_as (v := .int .i64 v5) rfl) ?_
    refine f_nil ?_
    refine f_block ?_
    refine f_loop ?_
    refine f_keep [0, 1, 5, 6, 7, 8, 10] ?_
    exact s155_l1 FUEL v1 v2 v3 v4 v5 v6 v5 H

theorem s155_l0 : ∀ (k_ : Nat) (v1 : ByteArray) (v2 : ByteArray) (v3 : Int) (v4 : Int) (v5 : Int) (v6 : Int) (v7 : Int) (H : Hp), Fin Tryz.prog Tryz.f155 ret155 81 (todoAt (bodyOf Tryz.f155) [1, 1, 1, 1, 0, 1, 0, 0] []) [(0, .str v1), (1, .str v2), (5, .int .u32 v3), (6, .int .u32 v4), (7, .int .i64 v5), (8, .int .u32 v6), (9, .int .i64 v7)] H (r155_l0 k_ v1 v2 v3 v4 v5 v6 v7 H) := by
  intro k_
  induction k_ with
  | zero => intro _ _ _ _ _ _ _ _; exact f_none
  | succ k_ ih =>
    intro v1 v2 v3 v4 v5 v6 v7 H
    rw [r155_l0]
    refine f_seq ?_
    refine f_seq ?_
    refine f_region ?_
    refine f_op rfl rfl (s_mv (v := .int .i64 v7) rfl) ?_
    refine f_op rfl rfl (s_mv (v := .int .i64 v5) rfl) ?_
    refine f_op rfl rfl (s_lss rfl rfl) ?_
    refine f_nil ?_
    refine f_if (fun h1 => ?_) (fun h1 => ?_)
    · skip
      refine f_know 20 rfl (dec_true h1) ?_
      refine f_condT rfl ?_
      refine f_skip ?_
      refine f_seq ?_
      refine f_block ?_
      refine f_region ?_
      refine f_op rfl rfl (s_mv (v := .int .u32 v6) rfl) ?_
      refine f_op rfl rfl (s_mul rfl rfl) ?_
      refine f_op rfl rfl (s_mv (v := .str v1) rfl) ?_
      refine f_op rfl rfl (s_mv (v := .int .i64 v7) rfl) ?_
      refine o_ck fun g2 => ?_
      refine f_op rfl rfl (s_indexStr Tryz.underlying9 rfl rfl g2) ?_
      refine f_op rfl rfl (s_convInt Tryz.underlying5 Tryz.underlying251 rfl) ?_
      refine f_op rfl rfl (s_add rfl rfl) ?_
      refine f_op rfl rfl (s_as (v := .int .u32 (IntKind.wrap .u32 ((IntKind.wrap .u32 (v6 * 16777619)) + (IntKind.wrap .u32 (bt v1 v7))))) rfl) ?_
      refine f_nil ?_
      refine f_inBlock ?_
      refine f_region ?_
      refine f_op rfl rfl (s_mv (v := .int .i64 v7) rfl) ?_
      refine f_op rfl rfl (s_add rfl rfl) ?_
      refine f_op rfl rfl (s_as (v := .int .i64 (w64 (v7 + 1))) rfl) ?_
      refine f_nil ?_
      refine f_inLoop ?_
      refine f_keep [0, 1, 5, 6, 7, 8, 9] ?_
      exact ih v1 v2 v3 v4 v5 (IntKind.wrap .u32 ((IntKind.wrap .u32 (v6 * 16777619)) + (IntKind.wrap .u32 (bt v1 v7)))) (w64 (v7 + 1)) H
    · skip
      refine f_know 20 rfl (dec_false h1) ?_
      refine f_condF rfl ?_
      refine f_exit rfl ?_
      refine f_seq ?_
      refine f_seq ?_
      refine f_region ?_
      refine f_op rfl rfl (s_mv (v := .int .u32 v6) rfl) ?_
      refine f_op rfl rfl (s_mv (v := .int .u32 v3) rfl) ?_
      refine f_op rfl rfl (s_eql rfl rfl) ?_
      refine f_op rfl rfl (s_mv (v := .bool (decide (v6 = v3))) rfl) ?_
      refine o_if (fun h3 => ?_) (fun h3 => ?_)
      · skip
        refine o_know 33 rfl (dec_true h3) ?_
        refine f_op rfl rfl (s_mv (v := .str v1) rfl) ?_
        refine f_op rfl rfl (s_mv (v := .int .i64 v5) rfl) ?_
        refine o_ck fun g4 => ?_
        refine f_op rfl rfl (s_sliceStr Tryz.underlying9 rfl rfl rfl g4) ?_
        refine f_op rfl rfl (s_mv (v := .str v2) rfl) ?_
        refine f_op rfl rfl (s_eqStr rfl rfl) ?_
        refine f_op rfl rfl (s_pickT (v := .bool (strEq (v1.extract (0 : Int).toNat (v5 : Int).toNat) v2)) rfl rfl) ?_
        refine f_nil ?_
        refine f_keep [0, 1, 5, 6, 7, 8, 39] ?_
        exact s155_j2 v1 v2 v3 v4 v5 v6 (strEq (v1.extract (0 : Int).toNat (v5 : Int).toNat) v2) H
      · skip
        refine o_know 33 rfl (dec_false h3) ?_
        refine f_no rfl rfl ?_
        refine f_no rfl rfl ?_
        refine f_no rfl rfl ?_
        refine f_no rfl rfl ?_
        refine f_no rfl rfl ?_
        refine f_op rfl rfl (s_pickF (v := .bool false) rfl rfl) ?_
        refine f_nil ?_
        refine f_keep [0, 1, 5, 6, 7, 8, 39] ?_
        exact s155_j2 v1 v2 v3 v4 v5 v6 false H

theorem sim155 {a0 : ByteArray} {a1 : ByteArray} {H : Hp} {p : Int × Hp} (h : r155 a0 a1 H = some p) : CallSim Tryz.prog 155 [.str a0, .str a1] H (.int .i64 p.1) p.2 := by
  refine callSim (fn := Tryz.f155) (ret := ret155) Tryz.func155 rfl Tryz.ntmps155 rfl ?_ h
  unfold r155
  refine f_seq ?_
  refine f_region ?_
  refine f_op rfl rfl (s_as (v := .int .i64 0) rfl) ?_
  refine f_nil ?_
  refine f_seq ?_
  refine f_region ?_
  refine f_op rfl rfl (s_mv (v := .str a1) rfl) ?_
  refine o_bind ?_; intro p1 hp1
  refine f_op rfl rfl (s_callF rfl ok217 (sim217 hp1)) ?_
  refine f_op rfl rfl (s_mv (v := .tup [.int .u32 p1.1.1, .int .u32 p1.1.2]) rfl) ?_
  refine f_op rfl rfl (s_extract (r := .int .u32 p1.1.1) rfl rfl) ?_
  refine f_op rfl rfl (s_extract (r := .int .u32 p1.1.2) rfl rfl) ?_
  refine f_op rfl rfl (s_as (v := .int .u32 p1.1.1) rfl) ?_
  refine f_op rfl rfl (s_as (v := .int .u32 p1.1.2) rfl) ?_
  refine f_nil ?_
  refine f_seq ?_
  refine f_region ?_
  refine f_op rfl rfl (s_mv (v := .str a1) rfl) ?_
  refine f_op rfl rfl (s_lenStr rfl Tryz.underlying9 rfl) ?_
  refine f_op rfl rfl (s_as (v := .int .i64 (a1.size : Int)) rfl) ?_
  refine f_nil ?_
  refine f_seq ?_
  refine f_region ?_
  refine f_op rfl rfl (s_as (v := .int .u32 0) rfl) ?_
  refine f_nil ?_
  refine f_seq ?_
  refine f_seq ?_
  refine f_region ?_
  refine f_op rfl rfl (s_as (v := .int .i64 0) rfl) ?_
  refine f_nil ?_
  refine f_block ?_
  refine f_loop ?_
  refine f_keep [0, 1, 5, 6, 7, 8, 9] ?_
  exact s155_l0 FUEL a0 a1 p1.1.1 p1.1.2 (a1.size : Int) 0 0 p1.2

/- 100 internal/stringslite.Index -/
theorem ok100 : FnOk Tryz.prog 100 := ⟨⟨Tryz.f100, Tryz.func100, by kernel_rfl, rfl⟩⟩
theorem s100_j0 {app : App} (happ : AppSim Tryz.prog app) (v1 : ByteArray) (v2 : ByteArray) (v3 : Int) (v4 : Bool) (H : Hp) : Fin Tryz.prog Tryz.f100 ret100 143 (todoAt (bodyOf Tryz.f100) [1, 1, 0, 0, 1] []) [(0, .str v1), (1, .str v2), (5, .int .i64 v3), (16, .bool v4)] H (r100_j0 app v1 v2 v3 v4 H) := by
  unfold r100_j0
  refine f_if (fun h1 => ?_) (fun h1 => ?_)
  · skip
    refine f_know 16 rfl (bool_T h1) ?_
    refine f_condT rfl ?_
    refine f_seq ?_
    refine f_region ?_
    refine f_op rfl rfl (s_as (v := .int .i64 0) rfl) ?_
    refine f_nil ?_
    exact f_ret (.tmp rfl (.nil)) rfl
  · skip
    refine f_know 16 rfl (bool_F h1) ?_
    refine f_condF rfl ?_
    refine f_seq ?_
    refine f_region ?_
    refine f_op rfl rfl (s_mv (v := .int .i64 v3) rfl) ?_
    refine f_op rfl rfl (s_eql rfl rfl) ?_
    refine f_op rfl rfl (s_as (v := .bool (decide (v3 = 1))) rfl) ?_
    refine f_nil ?_
    refine f_if (fun h2 => ?_) (fun h2 => ?_)
    · skip
      refine f_know 24 rfl (dec_true h2) ?_
      refine f_condT rfl ?_
      refine f_seq ?_
      refine f_region ?_
      refine f_op rfl rfl (s_mv (v := .str v1) rfl) ?_
      refine f_op rfl rfl (s_mv (v := .str v2) rfl) ?_
      refine o_ck fun g3 => ?_
      refine f_op rfl rfl (s_indexStr Tryz.underlying9 rfl rfl g3) ?_
      refine o_bind ?_; intro p4 hp4
      refine f_op rfl rfl (s_callF rfl ok152 (sim152 hp4)) ?_
      refine f_op rfl rfl (s_as (v := .int .i64 p4.1) rfl) ?_
      refine f_nil ?_
      exact f_ret (.tmp rfl (.nil)) rfl
    · skip
      refine f_know 24 rfl (dec_false h2) ?_
      refine f_condF rfl ?_
      refine f_seq ?_
      refine f_region ?_
      refine f_op rfl rfl (s_mv (v := .int .i64 v3) rfl) ?_
      refine f_op rfl rfl (s_mv (v := .str v1) rfl) ?_
      refine f_op rfl rfl (s_lenStr rfl Tryz.underlying9 rfl) ?_
      refine f_op rfl rfl (s_geq rfl rfl) ?_
      refine f_op rfl rfl (s_as (v := .bool (decide ((v1.size : Int) ≤ v3))) rfl) ?_
      refine f_nil ?_
      refine f_if (fun h5 => ?_) (fun h5 => ?_)
      · skip
        refine f_know 31 rfl (dec_true h5) ?_
        refine f_condT rfl ?_
        refine f_seq ?_
        refine f_region ?_
        refine f_op rfl rfl (s_as (v := .int .i64 (-1)) rfl) ?_
        refine f_nil ?_
        exact f_ret (.tmp rfl (.nil)) rfl
      · skip
        refine f_know 31 rfl (dec_false h5) ?_
        refine f_condF rfl ?_
        refine f_seq ?_
        refine f_region ?_
        refine f_op rfl rfl (s_mv (v := .int .i64 v3) rfl) ?_
        exact o_none

theorem sim100 {app : App} (happ : AppSim Tryz.prog app) {a0 : ByteArray} {a1 : ByteArray} {H : Hp} {p : Int × Hp} (h : r100 app a0 a1 H = some p) : CallSim Tryz.prog 100 [.str a0, .str a1] H (.int .i64 p.1) p.2 := by
  refine callSim (fn := Tryz.f100) (ret := ret100) Tryz.func100 rfl Tryz.ntmps100 rfl ?_ h
  unfold r100
  refine f_seq ?_
  refine f_region ?_
  refine f_op rfl rfl (s_as (v := .int .i64 0) rfl) ?_
  refine f_nil ?_
  refine f_seq ?_
  refine f_region ?_
  refine f_op rfl rfl (s_mv (v := .str a1) rfl) ?_
  refine f_op rfl rfl (s_lenStr rfl Tryz.underlying9 rfl) ?_
  refine f_op rfl rfl (s_as (v := .int .i64 (a1.size : Int)) rfl) ?_
  refine f_nil ?_
  refine f_seq ?_
  refine f_block ?_
  refine f_seq ?_
  refine f_region ?_
  refine f_op rfl rfl (s_mv (v := .int .i64 (a1.size : Int)) rfl) ?_
  refine f_op rfl rfl (s_eql rfl rfl) ?_
  refine f_op rfl rfl (s_mv (v := .bool (decide ((a1.size : Int) = 0))) rfl) ?_
  refine o_if (fun h1 => ?_) (fun h1 => ?_)
  · skip
    refine o_know 19 rfl (dec_true h1) ?_
    refine f_no rfl rfl ?_
    refine f_no rfl rfl ?_
    refine f_no rfl rfl ?_
    refine f_op rfl rfl (s_pickT (v := .bool true) rfl rfl) ?_
    refine f_op rfl rfl (s_as (v := .bool true) rfl) ?_
    refine f_nil ?_
    refine f_keep [0, 1, 5, 16] ?_
    exact s100_j0 happ a0 a1 (a1.size : Int) true H
  · skip
    refine o_know 19 rfl (dec_false h1) ?_
    refine f_op rfl rfl (s_mv (v := .str a1) rfl) ?_
    refine f_op rfl rfl (s_mv (v := .str a0) rfl) ?_
    refine f_op rfl rfl (s_eqStr rfl rfl) ?_
    refine f_op rfl rfl (s_pickF (v := .bool (strEq a1 a0)) rfl rfl) ?_
    refine f_op rfl rfl (s_as (v := .bool (strEq a1 a0)) rfl) ?_
    refine f_nil ?_
    refine f_keep [0, 1, 5, 16] ?_
    exact s100_j0 happ a0 a1 (a1.size : Int) (strEq a1 a0) H

/- 71 internal/stringslite.Cut -/
theorem ok71 : FnOk Tryz.prog 71 := ⟨⟨Tryz.f71, Tryz.func71, by kernel_rfl, rfl⟩⟩
theorem sim71 {app : App} (happ : AppSim Tryz.prog app) {a0 : ByteArray} {a1 : ByteArray} {H : Hp} {p : (ByteArray × ByteArray × Bool) × Hp} (h : r71 app a0 a1 H = some p) : CallSim Tryz.prog 71 [.str a0, .str a1] H (.tup [.str p.1.1, .str p.1.2.1, .bool p.1.2.2]) p.2 := by
  refine callSim (fn := Tryz.f71) (ret := ret71) Tryz.func71 rfl Tryz.ntmps71 rfl ?_ h
  unfold r71
  refine f_seq ?_
  refine f_region ?_
  refine f_op rfl rfl (s_as (v := .str (ByteArray.mk #[])) rfl) ?_
  refine f_op rfl rfl (s_as (v := .str (ByteArray.mk #[])) rfl) ?_
  refine f_op rfl rfl (s_as (v := .bool false) rfl) ?_
  refine f_nil ?_
  refine f_seq ?_
  refine f_seq ?_
  refine f_region ?_
  refine f_op rfl rfl (s_mv (v := .str a0) rfl) ?_
  refine f_op rfl rfl (s_mv (v := .str a1) rfl) ?_
  refine o_bind ?_; intro p1 hp1
  refine f_op rfl rfl (s_callF rfl ok100 (sim100 happ hp1)) ?_
  refine f_op rfl rfl (s_as (v := .int .i64 p1.1) rfl) ?_
  refine f_nil ?_
  refine f_seq ?_
  refine f_region ?_
  refine f_op rfl rfl (s_mv (v := .int .i64 p1.1) rfl) ?_
  refine f_op rfl rfl (s_geq rfl rfl) ?_
  refine f_nil ?_
  refine f_if (fun h2 => ?_) (fun h2 => ?_)
  · skip
    refine f_know 12 rfl (dec_true h2) ?_
    refine f_condT rfl ?_
    refine f_seq ?_
    refine f_ck fun g3 => ?_
    refine f_ck fun g4 => ?_
    refine f_draw (Φ := fun _ => True) (lim := 1000000) [0, 0, 0, 0, 0, 0, 0, 0, 0, 0, 0, 0] (Trc.pure rfl rfl rfl (.inl fun _ => s_mv (v := .str a0) rfl) (Trc.pure rfl rfl rfl (.inl fun _ => s_mv (v := .int .i64 p1.1) rfl) (Trc.pure rfl rfl rfl (.inl fun _ => s_sliceStr Tryz.underlying9 rfl rfl rfl g3) (Trc.pure rfl rfl rfl (.inl fun _ => s_mv (v := .str a0) rfl) (Trc.pure rfl rfl rfl (.inl fun _ => s_mv (v := .int .i64 p1.1) rfl) (Trc.pure rfl rfl rfl (.inl fun _ => s_mv (v := .str a1) rfl) (Trc.pure rfl rfl rfl (.inl fun _ => s_lenStr rfl Tryz.underlying9 rfl) (Trc.pure rfl rfl rfl (.inl fun _ => s_add rfl rfl) (Trc.pure rfl rfl rfl (.inl fun _ => s_sliceStr Tryz.underlying9 rfl rfl rfl g4) (Trc.pure rfl rfl rfl (.inl fun _ => s_as (v := .str (a0.extract (0 : Int).toNat (p1.1 : Int).toNat)) rfl) (Trc.pure rfl rfl rfl (.inl fun _ => s_as (v := .str (a0.extract (w64 (p1.1 + (a1.size : Int)) : Int).toNat ((a0.size : Int) : Int).toNat)) rfl) (Trc.pure rfl rfl rfl (.inl fun _ => s_as (v := .bool true) rfl) (Trc.nil (fun _ => trivial)))))))))))))) rfl (by decide +kernel) mixed ?_
    exact f_ret (.tmp rfl (.tmp rfl (.tmp rfl (.nil)))) rfl
  · skip
    refine f_know 12 rfl (dec_false h2) ?_
    refine f_condF rfl ?_
    refine f_skip ?_
    refine f_seq ?_
    refine f_region ?_
    refine f_op rfl rfl (s_mv (v := .str a0) rfl) ?_
    refine f_op rfl rfl (s_as (v := .str a0) rfl) ?_
    refine f_op rfl rfl (s_as (v := .str (ByteArray.mk #[])) rfl) ?_
    refine f_op rfl rfl (s_as (v := .bool false) rfl) ?_
    refine f_nil ?_
    exact f_ret (.tmp rfl (.tmp rfl (.tmp rfl (.nil)))) rfl

/- 42 strings.Cut -/
theorem ok42 : FnOk Tryz.prog 42 := ⟨⟨Tryz.f42, Tryz.func42, by kernel_rfl, rfl⟩⟩
theorem sim42 {app : App} (happ : AppSim Tryz.prog app) {a0 : ByteArray} {a1 : ByteArray} {H : Hp} {p : (ByteArray × ByteArray × Bool) × Hp} (h : r42 app a0 a1 H = some p) : CallSim Tryz.prog 42 [.str a0, .str a1] H (.tup [.str p.1.1, .str p.1.2.1, .bool p.1.2.2]) p.2 := by
  refine callSim (fn := Tryz.f42) (ret := ret42) Tryz.func42 rfl Tryz.ntmps42 rfl ?_ h
  unfold r42
  refine f_seq ?_
  refine f_region ?_
  refine f_op rfl rfl (s_as (v := .str (ByteArray.mk #[])) rfl) ?_
  refine f_op rfl rfl (s_as (v := .str (ByteArray.mk #[])) rfl) ?_
  refine f_op rfl rfl (s_as (v := .bool false) rfl) ?_
  refine f_nil ?_
  refine f_seq ?_
  refine f_region ?_
  refine f_op rfl rfl (s_mv (v := .str a0) rfl) ?_
  refine f_op rfl rfl (s_mv (v := .str a1) rfl) ?_
  refine o_bind ?_; intro p1 hp1
  refine f_op rfl rfl (s_callF rfl ok71 (sim71 happ hp1)) ?_
  refine f_op rfl rfl (s_extract (r := .str p1.1.1) rfl rfl) ?_
  refine f_op rfl rfl (s_extract (r := .str p1.1.2.1) rfl rfl) ?_
  refine f_op rfl rfl (s_extract (r := .bool p1.1.2.2) rfl rfl) ?_
  refine f_op rfl rfl (s_as (v := .str p1.1.1) rfl) ?_
  refine f_op rfl rfl (s_as (v := .str p1.1.2.1) rfl) ?_
  refine f_op rfl rfl (s_as (v := .bool p1.1.2.2) rfl) ?_
  refine f_nil ?_
  exact f_ret (.tmp rfl (.tmp rfl (.tmp rfl (.nil)))) rfl

/- 72 slices.Clone[[]congou/chest.leaf,congou/chest.leaf] -/
theorem ok72 : FnOk Tryz.prog 72 := ⟨⟨Tryz.f72, Tryz.func72, by kernel_rfl, rfl⟩⟩
theorem sim72 {a0 : Sl} {H : Hp} {p : Sl × Hp} (h : r72 a0 H = some p) : CallSim Tryz.prog 72 [.sl a0] H (.sl p.1) p.2 := by
  refine callSim (fn := Tryz.f72) (ret := ret72) Tryz.func72 rfl Tryz.ntmps72 rfl ?_ h
  unfold r72
  refine f_seq ?_
  refine f_region ?_
  refine f_op rfl rfl (s_as (v := .sl ⟨true, 0, 0, 0, 0, 0⟩) rfl) ?_
  refine f_nil ?_
  refine f_seq ?_
  refine f_seq ?_
  refine f_region ?_
  refine f_op rfl rfl (s_mv (v := .sl a0) rfl) ?_
  refine f_op rfl rfl (s_eqNil Tryz.underlying64 rfl rfl) ?_
  refine f_nil ?_
  refine f_if (fun h1 => ?_) (fun h1 => ?_)
  · skip
    refine f_know 4 rfl (bool_T h1) ?_
    refine f_condT rfl ?_
    refine f_seq ?_
    refine f_region ?_
    refine f_op rfl rfl (s_as (v := .sl ⟨true, 0, 0, 0, 0, 0⟩) rfl) ?_
    refine f_nil ?_
    exact f_ret (.tmp rfl (.nil)) rfl
  · skip
    refine f_know 4 rfl (bool_F h1) ?_
    refine f_condF rfl ?_
    refine f_skip ?_
    refine f_seq ?_
    refine f_region ?_
    refine f_op rfl rfl (s_buildSlice0 Tryz.underlying64 ty93) ?_
    refine f_op rfl rfl (s_mv (v := .sl a0) rfl) ?_
    refine o_bind ?_; intro x2 hx2
    refine o_ck fun g3 => ?_
    refine o_bind ?_; intro x4 hx4
    refine f_op rfl rfl (s_append rfl rfl Tryz.underlying64 Tryz.underlying64 ty93 (by decide) rfl (by decide) rfl rfl hx2 g3 hx4) ?_
    refine f_op rfl rfl (s_as (v := .sl x4.1) rfl) ?_
    refine f_nil ?_
    exact f_ret (.tmp rfl (.nil)) rfl

/- 73 slices.Clone[[]int,int] -/
theorem ok73 : FnOk Tryz.prog 73 := ⟨⟨Tryz.f73, Tryz.func73, by kernel_rfl, rfl⟩⟩
theorem sim73 {a0 : Sl} {H : Hp} {p : Sl × Hp} (h : r73 a0 H = some p) : CallSim Tryz.prog 73 [.sl a0] H (.sl p.1) p.2 := by
  refine callSim (fn := Tryz.f73) (ret := ret73) Tryz.func73 rfl Tryz.ntmps73 rfl ?_ h
  unfold r73
  refine f_seq ?_
  refine f_region ?_
  refine f_op rfl rfl (s_as (v := .sl ⟨true, 0, 0, 0, 0, 0⟩) rfl) ?_
  refine f_nil ?_
  refine f_seq ?_
  refine f_seq ?_
  refine f_region ?_
  refine f_op rfl rfl (s_mv (v := .sl a0) rfl) ?_
  refine f_op rfl rfl (s_eqNil Tryz.underlying30 rfl rfl) ?_
  refine f_nil ?_
  refine f_if (fun h1 => ?_) (fun h1 => ?_)
  · skip
    refine f_know 4 rfl (bool_T h1) ?_
    refine f_condT rfl ?_
    refine f_seq ?_
    refine f_region ?_
    refine f_op rfl rfl (s_as (v := .sl ⟨true, 0, 0, 0, 0, 0⟩) rfl) ?_
    refine f_nil ?_
    exact f_ret (.tmp rfl (.nil)) rfl
  · skip
    refine f_know 4 rfl (bool_F h1) ?_
    refine f_condF rfl ?_
    refine f_skip ?_
    refine f_seq ?_
    refine f_region ?_
    refine f_op rfl rfl (s_buildSlice0 Tryz.underlying30 ty3) ?_
    refine f_op rfl rfl (s_mv (v := .sl a0) rfl) ?_
    refine o_bind ?_; intro x2 hx2
    refine o_ck fun g3 => ?_
    refine o_bind ?_; intro x4 hx4
    refine f_op rfl rfl (s_append rfl rfl Tryz.underlying30 Tryz.underlying30 ty3 (by decide) rfl (by decide) rfl rfl hx2 g3 hx4) ?_
    refine f_op rfl rfl (s_as (v := .sl x4.1) rfl) ?_
    refine f_nil ?_
    exact f_ret (.tmp rfl (.nil)) rfl

/- 74 slices.Clone[[][2]int,[2]int] -/
theorem ok74 : FnOk Tryz.prog 74 := ⟨⟨Tryz.f74, Tryz.func74, by kernel_rfl, rfl⟩⟩
theorem sim74 {a0 : Sl} {H : Hp} {p : Sl × Hp} (h : r74 a0 H = some p) : CallSim Tryz.prog 74 [.sl a0] H (.sl p.1) p.2 := by
  refine callSim (fn := Tryz.f74) (ret := ret74) Tryz.func74 rfl Tryz.ntmps74 rfl ?_ h
  unfold r74
  refine f_seq ?_
  refine f_region ?_
  refine f_op rfl rfl (s_as (v := .sl ⟨true, 0, 0, 0, 0, 0⟩) rfl) ?_
  refine f_nil ?_
  refine f_seq ?_
  refine f_seq ?_
  refine f_region ?_
  refine f_op rfl rfl (s_mv (v := .sl a0) rfl) ?_
  refine f_op rfl rfl (s_eqNil Tryz.underlying67 rfl rfl) ?_
  refine f_nil ?_
  refine f_if (fun h1 => ?_) (fun h1 => ?_)
  · skip
    refine f_know 4 rfl (bool_T h1) ?_
    refine f_condT rfl ?_
    refine f_seq ?_
    refine f_region ?_
    refine f_op rfl rfl (s_as (v := .sl ⟨true, 0, 0, 0, 0, 0⟩) rfl) ?_
    refine f_nil ?_
    exact f_ret (.tmp rfl (.nil)) rfl
  · skip
    refine f_know 4 rfl (bool_F h1) ?_
    refine f_condF rfl ?_
    refine f_skip ?_
    refine f_seq ?_
    refine f_region ?_
    refine f_op rfl rfl (s_buildSlice0 Tryz.underlying67 ty65) ?_
    refine f_op rfl rfl (s_mv (v := .sl a0) rfl) ?_
    refine o_bind ?_; intro x2 hx2
    refine o_ck fun g3 => ?_
    refine o_bind ?_; intro x4 hx4
    refine f_op rfl rfl (s_append rfl rfl Tryz.underlying67 Tryz.underlying67 ty65 (by decide) rfl (by decide) rfl rfl hx2 g3 hx4) ?_
    refine f_op rfl rfl (s_as (v := .sl x4.1) rfl) ?_
    refine f_nil ?_
    exact f_ret (.tmp rfl (.nil)) rfl

/- 43 (*congou/chest.state).clone -/
theorem ok43 : FnOk Tryz.prog 43 := ⟨⟨Tryz.f43, Tryz.func43, by kernel_rfl, rfl⟩⟩
theorem sim43 {a0b : Nat} {a0o : Nat} {H : Hp} {p : (Nat × Nat) × Hp} (h : r43 a0b a0o H = some p) : CallSim Tryz.prog 43 [.ptr a0b a0o] H (.ptr p.1.1 p.1.2) p.2 := by
  refine callSim (fn := Tryz.f43) (ret := ret43) Tryz.func43 rfl Tryz.ntmps43 rfl ?_ h
  unfold r43
  refine f_seq ?_
  refine f_region ?_
  refine f_op rfl rfl (s_as (v := .nilptr) rfl) ?_
  refine f_nil ?_
  refine f_seq ?_
  refine f_bind ?_; intro x1 hx1
  refine f_bind ?_; intro p2 hp2
  refine f_bind ?_; intro x3 hx3
  refine f_bind ?_; intro p4 hp4
  refine f_bind ?_; intro x5 hx5
  refine f_bind ?_; intro x6 hx6
  refine f_bind ?_; intro x7 hx7
  refine f_bind ?_; intro x8 hx8
  refine f_bind ?_; intro x9 hx9
  refine f_bind ?_; intro p10 hp10
  refine f_ck fun g11 => ?_
  refine f_ck fun g12 => ?_
  refine f_ck fun g13 => ?_
  refine f_ck fun g14 => ?_
  refine f_ck fun g15 => ?_
  refine f_ck fun g16 => ?_
  refine f_ck fun g17 => ?_
  refine f_ck fun g18 => ?_
  refine f_ck fun g19 => ?_
  refine f_ck fun g20 => ?_
  refine f_ck fun g21 => ?_
  refine f_ck fun g22 => ?_
  refine f_ck fun g23 => ?_
  refine f_ck fun g24 => ?_
  refine f_ck fun g25 => ?_
  refine f_ck fun g26 => ?_
  refine f_ck fun g27 => ?_
  refine f_ck fun g28 => ?_
  refine f_draw (Φ := fun H_ => H_.ld a0b (a0o + 1) = some (.sl x3) ∧ H_.ld a0b (a0o + 2) = some (.int .i64 x5) ∧ H_.ld a0b ((a0o + 2) + 1) = some (.int .i64 x6) ∧ H_.ld a0b ((a0o + 2) + 2) = some (.int .i64 x7) ∧ H_.ld a0b ((a0o + 2) + 3) = some (.int .i64 x8) ∧ H_.ld a0b (a0o + 6) = some (.sl x9)) (lim := 20) [0, 0, 0, 1, 2, 0, 0, 0, 0, 2, 0, 0, 0, 0, 0, 0, 0, 0, 2, 0, 2, 0] (Trc.pure rfl rfl rfl (.inl fun _ => s_mv (v := .ptr a0b a0o) rfl) (Trc.pure rfl rfl rfl (.inl fun _ => s_nilCheck rfl) (Trc.pure rfl rfl rfl (.inl fun _ => s_fieldAddr Tryz.underlying69 rfl ty64 rfl) (Trc.read rfl rfl rfl (s_load Tryz.underlying64 rfl rfl (ldSl_eq hx1)) (Trc.eff rfl rfl rfl (fun _ => ⟨ldSl_eq g11, ldI_eq g12, ldI_eq g13, ldI_eq g14, ldI_eq g15, ldSl_eq g16⟩) (s_callF rfl ok72 (sim72 hp2)) (Trc.pure rfl rfl rfl (.inl fun _ => s_mv (v := .ptr a0b a0o) rfl) (Trc.pure rfl rfl rfl (.inl fun _ => s_nilCheck rfl) (Trc.pure rfl rfl rfl (.inl fun _ => s_fieldAddr Tryz.underlying69 rfl ty30 rfl) (Trc.pure rfl rfl rfl (.inr ⟨by decide +kernel, fun _ hp_ => s_load Tryz.underlying30 rfl rfl hp_.1⟩) (Trc.eff rfl rfl rfl (fun _ => ⟨ldSl_eq hx3, ldI_eq g17, ldI_eq g18, ldI_eq g19, ldI_eq g20, ldSl_eq g21⟩) (s_callF rfl ok73 (sim73 hp4)) (Trc.pure rfl rfl rfl (.inl fun _ => s_mv (v := .ptr a0b a0o) rfl) (Trc.pure rfl rfl rfl (.inl fun _ => s_nilCheck rfl) (Trc.pure rfl rfl rfl (.inl fun _ => s_fieldAddr Tryz.underlying69 rfl ty66 rfl) (Trc.pure rfl rfl rfl (.inr ⟨by decide +kernel, fun _ hp_ => s_loads Tryz.underlying66 rfl ty66 rfl (lds_cons hp_.2.1 (lds_cons hp_.2.2.1 (lds_cons hp_.2.2.2.1 (lds_cons hp_.2.2.2.2.1 (lds_nil)))))⟩) (Trc.pure rfl rfl rfl (.inl fun _ => s_mv (v := .ptr a0b a0o) rfl) (Trc.pure rfl rfl rfl (.inl fun _ => s_nilCheck rfl) (Trc.pure rfl rfl rfl (.inl fun _ => s_fieldAddr Tryz.underlying69 rfl ty67 rfl) (Trc.pure rfl rfl rfl (.inr ⟨by decide +kernel, fun _ hp_ => s_load Tryz.underlying67 rfl rfl hp_.2.2.2.2.2⟩) (Trc.eff rfl rfl rfl (fun _ => ⟨ldSl_eq g22, ldI_eq hx5, ldI_eq hx6, ldI_eq hx7, ldI_eq hx8, ldSl_eq hx9⟩) (s_callF rfl ok74 (sim74 hp10)) (Trc.pure rfl rfl rfl (.inl fun _ => s_build (cs := [.sl p2.1, .sl p4.1, .int .i64 x5, .int .i64 x6, .int .i64 x7, .int .i64 x8, .sl p10.1]) Tryz.underlying69 ty69 rfl pl69 rfl) (Trc.eff rfl rfl rfl (fun _ => ⟨ldSl_eq g23, ldI_eq g24, ldI_eq g25, ldI_eq g26, ldI_eq g27, ldSl_eq g28⟩) (s_box (v := .agg [.sl p2.1, .sl p4.1, .int .i64 x5, .int .i64 x6, .int .i64 x7, .int .i64 x8, .sl p10.1]) rfl rfl) (Trc.pure rfl rfl rfl (.inl fun _ => s_as (v := .ptr p10.2.n 0) rfl) (Trc.nil (fun h_ => absurd h_ (by decide +kernel))))))))))))))))))))))))) rfl (by decide +kernel) mixed ?_
  exact f_ret (.tmp rfl (.nil)) rfl

/- 218 unicode/utf8.RuneCountInString -/
theorem ok218 : FnOk Tryz.prog 218 := ⟨⟨Tryz.f218, Tryz.func218, by kernel_rfl, rfl⟩⟩
theorem s218_l0 : ∀ (k_ : Nat) (v1 : Int) (v2 : Nat) (H : Hp), Fin Tryz.prog Tryz.f218 ret218 10 (todoAt (bodyOf Tryz.f218) [1, 0, 1, 0, 0] []) [(2, .int .i64 v1), (4, .ptr v2 0)] H (r218_l0 k_ v1 v2 H) := by
  intro k_
  induction k_ with
  | zero => intro _ _ _; exact f_none
  | succ k_ ih =>
    intro v1 v2 H
    rw [r218_l0]
    refine f_seq ?_
    refine f_region ?_
    refine o_bind ?_; intro x1 hx1
    refine f_op rfl rfl (s_nextStr rfl rfl hx1) ?_
    refine f_op rfl rfl (s_next0 rfl) ?_
    refine f_nil ?_
    refine f_seq ?_
    refine f_if (fun h2 => ?_) (fun h2 => ?_)
    · skip
      refine f_know 6 rfl (bool_T h2) ?_
      refine f_condT rfl ?_
      refine f_skip ?_
      refine f_block ?_
      refine f_region ?_
      refine f_op rfl rfl (s_mv (v := .int .i64 v1) rfl) ?_
      refine f_op rfl rfl (s_add rfl rfl) ?_
      refine f_op rfl rfl (s_as (v := .int .i64 (w64 (v1 + 1))) rfl) ?_
      refine f_nil ?_
      refine f_inBlock ?_
      refine f_inLoop ?_
      refine f_keep [2, 4] ?_
      exact ih (w64 (v1 + 1)) v2 x1.2
    · skip
      refine f_know 6 rfl (bool_F h2) ?_
      refine f_condF rfl ?_
      refine f_exit rfl ?_
      refine f_seq ?_
      refine f_region ?_
      refine f_op rfl rfl (s_mv (v := .int .i64 v1) rfl) ?_
      refine f_op rfl rfl (s_as (v := .int .i64 v1) rfl) ?_
      refine f_nil ?_
      exact f_ret (.tmp rfl (.nil)) rfl

theorem sim218 {a0 : ByteArray} {H : Hp} {p : Int × Hp} (h : r218 a0 H = some p) : CallSim Tryz.prog 218 [.str a0] H (.int .i64 p.1) p.2 := by
  refine callSim (fn := Tryz.f218) (ret := ret218) Tryz.func218 rfl Tryz.ntmps218 rfl ?_ h
  unfold r218
  refine f_seq ?_
  refine f_region ?_
  refine f_op rfl rfl (s_as (v := .int .i64 0) rfl) ?_
  refine f_nil ?_
  refine f_seq ?_
  refine f_seq ?_
  refine f_region ?_
  refine f_op rfl rfl (s_mv (v := .str a0) rfl) ?_
  refine f_op rfl rfl (s_rangeStr Tryz.underlying9 rfl) ?_
  refine o_hp ?_; intro H1 hH1
  refine f_nil ?_
  refine f_block ?_
  refine f_loop ?_
  refine f_keep [2, 4] ?_
  exact s218_l0 FUEL 0 H.n H1

/- 244 unicode/utf8.decodeRuneInStringSlow -/
theorem ok244 : FnOk Tryz.prog 244 := ⟨⟨Tryz.f244, Tryz.func244, by kernel_rfl, rfl⟩⟩
theorem sim244 {a0 : ByteArray} {H : Hp} {p : (Int × Int) × Hp} (h : r244 a0 H = some p) : CallSim Tryz.prog 244 [.str a0] H (.tup [.int .i32 p.1.1, .int .i64 p.1.2]) p.2 := by
  refine callSim (fn := Tryz.f244) (ret := ret244) Tryz.func244 rfl Tryz.ntmps244 rfl ?_ h
  unfold r244
  refine f_seq ?_
  refine f_region ?_
  refine f_op rfl rfl (s_as (v := .int .i32 0) rfl) ?_
  refine f_op rfl rfl (s_as (v := .int .i64 0) rfl) ?_
  refine f_nil ?_
  refine f_seq ?_
  refine f_region ?_
  refine f_op rfl rfl (s_mv (v := .str a0) rfl) ?_
  refine f_op rfl rfl (s_lenStr rfl Tryz.underlying9 rfl) ?_
  refine f_op rfl rfl (s_as (v := .int .i64 (a0.size : Int)) rfl) ?_
  refine f_nil ?_
  refine f_seq ?_
  refine f_seq ?_
  refine f_region ?_
  refine f_op rfl rfl (s_mv (v := .int .i64 (a0.size : Int)) rfl) ?_
  refine f_op rfl rfl (s_lss rfl rfl) ?_
  refine f_nil ?_
  refine f_if (fun h1 => ?_) (fun h1 => ?_)
  · skip
    refine f_know 16 rfl (dec_true h1) ?_
    refine f_condT rfl ?_
    refine f_seq ?_
    refine f_region ?_
    refine f_op rfl rfl (s_as (v := .int .i32 65533) rfl) ?_
    refine f_op rfl rfl (s_as (v := .int .i64 0) rfl) ?_
    refine f_nil ?_
    exact f_ret (.tmp rfl (.tmp rfl (.nil))) rfl
  · skip
    refine f_know 16 rfl (dec_false h1) ?_
    refine f_condF rfl ?_
    refine f_skip ?_
    refine f_seq ?_
    refine f_region ?_
    refine f_op rfl rfl (s_mv (v := .str a0) rfl) ?_
    refine o_ck fun g2 => ?_
    refine f_op rfl rfl (s_indexStr Tryz.underlying9 rfl rfl g2) ?_
    refine f_op rfl rfl (s_as (v := .int .u8 (bt a0 0)) rfl) ?_
    refine f_nil ?_
    refine f_seq ?_
    refine f_region ?_
    refine f_op rfl rfl (s_mv (v := .int .u8 (bt a0 0)) rfl) ?_
    exact o_none

/- 219 unicode/utf8.DecodeRuneInString -/
theorem ok219 : FnOk Tryz.prog 219 := ⟨⟨Tryz.f219, Tryz.func219, by kernel_rfl, rfl⟩⟩
theorem s219_j0 (v1 : ByteArray) (v2 : Bool) (H : Hp) : Fin Tryz.prog Tryz.f219 ret219 19 (todoAt (bodyOf Tryz.f219) [1, 0, 1] []) [(0, .str v1), (10, .bool v2)] H (r219_j0 v1 v2 H) := by
  unfold r219_j0
  refine f_if (fun h1 => ?_) (fun h1 => ?_)
  · skip
    refine f_know 10 rfl (bool_T h1) ?_
    refine f_condT rfl ?_
    refine f_seq ?_
    refine f_region ?_
    refine f_op rfl rfl (s_mv (v := .str v1) rfl) ?_
    refine o_ck fun g2 => ?_
    refine f_op rfl rfl (s_indexStr Tryz.underlying9 rfl rfl g2) ?_
    refine f_op rfl rfl (s_convInt Tryz.underlying5 Tryz.underlying21 rfl) ?_
    refine f_op rfl rfl (s_as (v := .int .i32 (IntKind.wrap .i32 (bt v1 0))) rfl) ?_
    refine f_op rfl rfl (s_as (v := .int .i64 1) rfl) ?_
    refine f_nil ?_
    exact f_ret (.tmp rfl (.tmp rfl (.nil))) rfl
  · skip
    refine f_know 10 rfl (bool_F h1) ?_
    refine f_condF rfl ?_
    refine f_region ?_
    refine f_op rfl rfl (s_mv (v := .str v1) rfl) ?_
    refine o_bind ?_; intro p3 hp3
    refine f_op rfl rfl (s_callF rfl ok244 (sim244 hp3)) ?_
    refine f_op rfl rfl (s_mv (v := .tup [.int .i32 p3.1.1, .int .i64 p3.1.2]) rfl) ?_
    refine f_op rfl rfl (s_extract (r := .int .i32 p3.1.1) rfl rfl) ?_
    refine f_op rfl rfl (s_extract (r := .int .i64 p3.1.2) rfl rfl) ?_
    refine f_op rfl rfl (s_as (v := .int .i32 p3.1.1) rfl) ?_
    refine f_op rfl rfl (s_as (v := .int .i64 p3.1.2) rfl) ?_
    refine f_nil ?_
    exact f_ret (.tmp rfl (.tmp rfl (.nil))) rfl

theorem sim219 {a0 : ByteArray} {H : Hp} {p : (Int × Int) × Hp} (h : r219 a0 H = some p) : CallSim Tryz.prog 219 [.str a0] H (.tup [.int .i32 p.1.1, .int .i64 p.1.2]) p.2 := by
  refine callSim (fn := Tryz.f219) (ret := ret219) Tryz.func219 rfl Tryz.ntmps219 rfl ?_ h
  unfold r219
  refine f_seq ?_
  refine f_region ?_
  refine f_op rfl rfl (s_as (v := .int .i32 0) rfl) ?_
  refine f_op rfl rfl (s_as (v := .int .i64 0) rfl) ?_
  refine f_nil ?_
  refine f_seq ?_
  refine f_seq ?_
  refine f_region ?_
  refine f_op rfl rfl (s_mv (v := .str a0) rfl) ?_
  refine f_op rfl rfl (s_neStr rfl rfl) ?_
  refine f_op rfl rfl (s_mv (v := .bool (!(strEq a0 (ByteArray.mk #[])))) rfl) ?_
  refine o_if (fun h1 => ?_) (fun h1 => ?_)
  · skip
    refine o_know 6 rfl (bool_notT h1) ?_
    refine f_no rfl rfl ?_
    refine f_no rfl rfl ?_
    refine f_no rfl rfl ?_
    refine f_op rfl rfl (s_pickF (v := .bool false) rfl rfl) ?_
    refine f_nil ?_
    refine f_keep [0, 10] ?_
    exact s219_j0 a0 false H
  · skip
    refine o_know 6 rfl (bool_notF h1) ?_
    refine f_op rfl rfl (s_mv (v := .str a0) rfl) ?_
    refine o_ck fun g2 => ?_
    refine f_op rfl rfl (s_indexStr Tryz.underlying9 rfl rfl g2) ?_
    refine f_op rfl rfl (s_lss rfl rfl) ?_
    refine f_op rfl rfl (s_pickT (v := .bool (decide ((bt a0 0) < 128))) rfl rfl) ?_
    refine f_nil ?_
    refine f_keep [0, 10] ?_
    exact s219_j0 a0 (decide ((bt a0 0) < 128)) H

end Go.Lt.P10
