/- PRINTED BY A PROGRAM OF OURS: what each function that 'ChestPages' reaches computes on the abstract heap, and that the translated code does just that. Nothing is asked of the input. -/
import Derived.Test.YtnigfapfghgmnaaGreatDoorG4R1
set_option linter.unusedVariables false
set_option linter.unusedSimpArgs false
set_option maxRecDepth 100000
set_option maxHeartbeats 4000000
namespace Go.Lt.P10
open Go Go.Lt Go.Proofs
/- 28 (*congou/chest.Chest).none -/
theorem ok28 : FnOk Tryz.prog 28 := ⟨⟨Tryz.f28, Tryz.func28, by kernel_rfl, rfl⟩⟩
theorem sim28 {a0b : Nat} {a0o : Nat} {H : Hp} {p : Bool × Hp} (h : r28 a0b a0o H = some p) : CallSim Tryz.prog 28 [.ptr a0b a0o] H (.bool p.1) p.2 := by
  refine callSim (fn := Tryz.f28) (ret := ret28) Tryz.func28 rfl Tryz.ntmps28 rfl ?_ h
  unfold r28
  refine f_seq ?_
  refine f_region ?_
  refine f_op rfl rfl (s_as (v := .bool false) rfl) ?_
  refine f_nil ?_
  refine f_seq ?_
  refine f_region ?_
  refine f_op rfl rfl (s_mv (v := .ptr a0b a0o) rfl) ?_
  refine f_op rfl rfl (s_eqPN Tryz.underlying23 rfl rfl) ?_
  refine f_op rfl rfl (s_mv (v := .bool false) rfl) ?_
  refine f_op rfl rfl (s_mv (v := .ptr a0b a0o) rfl) ?_
  refine f_op rfl rfl (s_nilCheck rfl) ?_
  refine f_op rfl rfl (s_fieldAddr Tryz.underlying56 rfl ty54 rfl) ?_
  refine o_bind ?_; intro x1 hx1
  refine f_op rfl rfl (s_load Tryz.underlying54 rfl rfl (ldSl_eq hx1)) ?_
  refine f_op rfl rfl (s_lenS rfl Tryz.underlying54 rfl) ?_
  refine f_op rfl rfl (s_eql rfl rfl) ?_
  refine f_op rfl rfl (s_pickF (v := .bool (decide ((x1.len : Int) = 0))) rfl rfl) ?_
  refine f_op rfl rfl (s_as (v := .bool (decide ((x1.len : Int) = 0))) rfl) ?_
  refine f_nil ?_
  exact f_ret (.tmp rfl (.nil)) rfl

/- 70 slices.IndexFunc[[]int,int] -/
theorem ok70 : FnOk Tryz.prog 70 := ⟨⟨Tryz.f70, Tryz.func70, by kernel_rfl, rfl⟩⟩
theorem s70_l0 {app : App} (happ : AppSim Tryz.prog app) : ∀ (k_ : Nat) (v1 : Sl) (v2 : AV) (v3 : Int) (v4 : Int) (H : Hp), Fin Tryz.prog Tryz.f70 ret70 19 (todoAt (bodyOf Tryz.f70) [1, 0, 1, 0, 0] []) [(0, .sl v1), (1, v2), (7, .int .i64 v3), (8, .int .i64 v4)] H (r70_l0 app k_ v1 v2 v3 v4 H) := by
  intro k_
  induction k_ with
  | zero => intro _ _ _ _ _; exact f_none
  | succ k_ ih =>
    intro v1 v2 v3 v4 H
    rw [r70_l0]
    refine f_seq ?_
    refine f_region ?_
    refine f_op rfl rfl (s_lss rfl rfl) ?_
    refine f_nil ?_
    refine f_seq ?_
    refine f_if (fun h1 => ?_) (fun h1 => ?_)
    · skip
      refine f_know 9 rfl (dec_true h1) ?_
      refine f_condT rfl ?_
      refine f_skip ?_
      refine f_seq ?_
      refine f_block ?_
      refine f_seq ?_
      refine f_region ?_
      refine f_op rfl rfl (s_mv (v := .int .i64 v4) rfl) ?_
      refine f_op rfl rfl (s_as (v := .int .i64 v4) rfl) ?_
      refine f_nil ?_
      refine f_seq ?_
      refine f_region ?_
      refine f_op rfl rfl (s_mv (v := v2) rfl) ?_
      refine f_op rfl rfl (s_mv (v := .sl v1) rfl) ?_
      refine f_op rfl rfl (s_mv (v := .int .i64 v4) rfl) ?_
      refine o_ck fun g2 => ?_
      refine f_op rfl rfl (s_idx Tryz.underlying30 ty3 rfl rfl g2) ?_
      refine o_bind ?_; intro x3 hx3
      refine f_op rfl rfl (s_load Tryz.underlying3 rfl rfl (ldI_eq hx3)) ?_
      refine o_bind ?_; intro p4 hp4
      refine o_bind ?_; intro x5 hx5
      refine f_op rfl rfl (s_callv happ rfl rfl hp4) ?_
      refine o_know 16 rfl (asB_eq hx5) ?_
      refine f_nil ?_
      refine f_if (fun h6 => ?_) (fun h6 => ?_)
      · skip
        refine f_know 16 rfl (bool_T h6) ?_
        refine f_condT rfl ?_
        refine f_seq ?_
        refine f_region ?_
        refine f_op rfl rfl (s_mv (v := .int .i64 v4) rfl) ?_
        refine f_op rfl rfl (s_as (v := .int .i64 v4) rfl) ?_
        refine f_nil ?_
        exact f_ret (.tmp rfl (.nil)) rfl
      · skip
        refine f_know 16 rfl (bool_F h6) ?_
        refine f_condF rfl ?_
        refine f_skip ?_
        refine f_inBlock ?_
        refine f_region ?_
        refine f_op rfl rfl (s_add rfl rfl) ?_
        refine f_op rfl rfl (s_mv (v := .int .i64 (w64 (v4 + 1))) rfl) ?_
        refine f_nil ?_
        refine f_inLoop ?_
        refine f_keep [0, 1, 7, 8] ?_
        exact ih v1 v2 v3 (w64 (v4 + 1)) p4.2
    · skip
      refine f_know 9 rfl (dec_false h1) ?_
      refine f_condF rfl ?_
      refine f_exit rfl ?_
      refine f_seq ?_
      refine f_region ?_
      refine f_op rfl rfl (s_as (v := .int .i64 (-1)) rfl) ?_
      refine f_nil ?_
      exact f_ret (.tmp rfl (.nil)) rfl

theorem sim70 {app : App} (happ : AppSim Tryz.prog app) {a0 : Sl} {a1 : AV} {H : Hp} {p : Int × Hp} (h : r70 app a0 a1 H = some p) : CallSim Tryz.prog 70 [.sl a0, a1] H (.int .i64 p.1) p.2 := by
  refine callSim (fn := Tryz.f70) (ret := ret70) Tryz.func70 rfl Tryz.ntmps70 rfl ?_ h
  unfold r70
  refine f_seq ?_
  refine f_region ?_
  refine f_op rfl rfl (s_as (v := .int .i64 0) rfl) ?_
  refine f_nil ?_
  refine f_seq ?_
  refine f_seq ?_
  refine f_region ?_
  refine f_op rfl rfl (s_mv (v := .sl a0) rfl) ?_
  refine f_op rfl rfl (s_lenS rfl Tryz.underlying30 rfl) ?_
  refine f_op rfl rfl (s_mv (v := .int .i64 0) rfl) ?_
  refine f_nil ?_
  refine f_block ?_
  refine f_loop ?_
  refine f_keep [0, 1, 7, 8] ?_
  exact s70_l0 happ FUEL a0 a1 (a0.len : Int) 0 H

/- 40 slices.ContainsFunc[[]int,int] -/
theorem ok40 : FnOk Tryz.prog 40 := ⟨⟨Tryz.f40, Tryz.func40, by kernel_rfl, rfl⟩⟩
theorem sim40 {app : App} (happ : AppSim Tryz.prog app) {a0 : Sl} {a1 : AV} {H : Hp} {p : Bool × Hp} (h : r40 app a0 a1 H = some p) : CallSim Tryz.prog 40 [.sl a0, a1] H (.bool p.1) p.2 := by
  refine callSim (fn := Tryz.f40) (ret := ret40) Tryz.func40 rfl Tryz.ntmps40 rfl ?_ h
  unfold r40
  refine f_seq ?_
  refine f_region ?_
  refine f_op rfl rfl (s_as (v := .bool false) rfl) ?_
  refine f_nil ?_
  refine f_seq ?_
  refine f_region ?_
  refine f_op rfl rfl (s_mv (v := .sl a0) rfl) ?_
  refine f_op rfl rfl (s_mv (v := a1) rfl) ?_
  refine o_bind ?_; intro p1 hp1
  refine f_op rfl rfl (s_callF rfl ok70 (sim70 happ hp1)) ?_
  refine f_op rfl rfl (s_geq rfl rfl) ?_
  refine f_op rfl rfl (s_as (v := .bool (decide (0 ≤ p1.1))) rfl) ?_
  refine f_nil ?_
  exact f_ret (.tmp rfl (.nil)) rfl

/- 29 (*congou/chest.Chest).has -/
theorem ok29 : FnOk Tryz.prog 29 := ⟨⟨Tryz.f29, Tryz.func29, by kernel_rfl, rfl⟩⟩
theorem sim29 {app : App} (happ : AppSim Tryz.prog app) {a0b : Nat} {a0o : Nat} {a1 : Sl} {H : Hp} {p : Bool × Hp} (h : r29 app a0b a0o a1 H = some p) : CallSim Tryz.prog 29 [.ptr a0b a0o, .sl a1] H (.bool p.1) p.2 := by
  refine callSim (fn := Tryz.f29) (ret := ret29) Tryz.func29 rfl Tryz.ntmps29 rfl ?_ h
  unfold r29
  refine f_seq ?_
  refine f_region ?_
  refine f_op rfl rfl (s_box1 (v := .ptr a0b a0o) rfl rfl) ?_
  refine f_op rfl rfl (s_as (v := .bool false) rfl) ?_
  refine o_hp ?_; intro H1 hH1
  refine f_nil ?_
  refine f_seq ?_
  refine f_region ?_
  refine f_op rfl rfl (s_mv (v := .sl a1) rfl) ?_
  refine f_op rfl rfl (s_makeFunc rfl rfl) ?_
  refine o_bind ?_; intro p2 hp2
  refine f_op rfl rfl (s_callF rfl ok40 (sim40 happ hp2)) ?_
  refine f_op rfl rfl (s_not rfl) ?_
  refine f_op rfl rfl (s_as (v := .bool (!p2.1)) rfl) ?_
  refine f_nil ?_
  exact f_ret (.tmp rfl (.nil)) rfl

/- 10 (*congou/chest.Chest).Go -/
theorem ok10 : FnOk Tryz.prog 10 := ⟨⟨Tryz.f10, Tryz.func10, by kernel_rfl, rfl⟩⟩
theorem sim10 {app : App} (happ : AppSim Tryz.prog app) {a0b : Nat} {a0o : Nat} {a1 : Int} {H : Hp} {p : Int × Hp} (h : r10 app a0b a0o a1 H = some p) : CallSim Tryz.prog 10 [.ptr a0b a0o, .int .i64 a1] H (.int .i64 p.1) p.2 := by
  refine callSim (fn := Tryz.f10) (ret := ret10) Tryz.func10 rfl Tryz.ntmps10 rfl ?_ h
  unfold r10
  refine f_seq ?_
  refine f_region ?_
  refine f_op rfl rfl (s_as (v := .int .i64 0) rfl) ?_
  refine f_nil ?_
  refine f_seq ?_
  refine f_block ?_
  refine f_seq ?_
  refine f_region ?_
  refine f_op rfl rfl (s_mv (v := .ptr a0b a0o) rfl) ?_
  refine o_bind ?_; intro p1 hp1
  refine f_op rfl rfl (s_callF rfl ok28 (sim28 hp1)) ?_
  refine f_op rfl rfl (s_as (v := .bool p1.1) rfl) ?_
  refine f_nil ?_
  refine f_if (fun h2 => ?_) (fun h2 => ?_)
  · skip
    refine f_know 5 rfl (bool_T h2) ?_
    refine f_condT rfl ?_
    refine f_seq ?_
    refine f_region ?_
    refine f_op rfl rfl (s_as (v := .int .i64 1) rfl) ?_
    refine f_nil ?_
    exact f_ret (.tmp rfl (.nil)) rfl
  · skip
    refine f_know 5 rfl (bool_F h2) ?_
    refine f_condF rfl ?_
    refine f_seq ?_
    refine f_region ?_
    refine f_op rfl rfl (s_mv (v := .ptr a0b a0o) rfl) ?_
    refine f_op rfl rfl (s_mv (v := .int .i64 a1) rfl) ?_
    refine f_op rfl rfl (s_buildSlice (cs := [.int .i64 a1]) Tryz.underlying30 ty3 (by decide) (by decide) rfl (by decide) rfl) ?_
    refine o_bind ?_; intro p3 hp3
    refine f_op rfl rfl (s_callF rfl ok29 (sim29 happ hp3)) ?_
    refine f_op rfl rfl (s_not rfl) ?_
    refine f_op rfl rfl (s_as (v := .bool (!p3.1)) rfl) ?_
    refine f_nil ?_
    refine f_if (fun h4 => ?_) (fun h4 => ?_)
    · skip
      refine f_know 8 rfl (bool_notT h4) ?_
      refine f_condF rfl ?_
      refine f_skip ?_
      refine f_inBlock ?_
      refine f_seq ?_
      refine f_region ?_
      refine f_op rfl rfl (s_mv (v := .ptr a0b a0o) rfl) ?_
      refine f_op rfl rfl (s_mv (v := .int .i64 a1) rfl) ?_
      refine f_op rfl rfl (s_nilCheck rfl) ?_
      refine f_op rfl rfl (s_fieldAddr Tryz.underlying56 rfl ty3 rfl) ?_
      refine o_bind ?_; intro H5 hH5
      refine f_op rfl rfl (s_store (s := 1) ty3 rfl rfl rfl hH5) ?_
      refine f_nil ?_
      refine f_seq ?_
      refine f_region ?_
      refine f_op rfl rfl (s_as (v := .int .i64 0) rfl) ?_
      refine f_nil ?_
      exact f_ret (.tmp rfl (.nil)) rfl
    · skip
      refine f_know 8 rfl (bool_notF h4) ?_
      refine f_condT rfl ?_
      refine f_seq ?_
      refine f_region ?_
      refine f_op rfl rfl (s_as (v := .int .i64 2) rfl) ?_
      refine f_nil ?_
      exact f_ret (.tmp rfl (.nil)) rfl

/- 14 congou/chest.New -/
theorem ok14 : FnOk Tryz.prog 14 := ⟨⟨Tryz.f14, Tryz.func14, by kernel_rfl, rfl⟩⟩
theorem sim14 {H : Hp} {p : (Nat × Nat) × Hp} (h : r14 H = some p) : CallSim Tryz.prog 14 [] H (.ptr p.1.1 p.1.2) p.2 := by
  refine callSim (fn := Tryz.f14) (ret := ret14) Tryz.func14 rfl Tryz.ntmps14 rfl ?_ h
  unfold r14
  refine f_seq ?_
  refine f_region ?_
  refine f_op rfl rfl (s_as (v := .nilptr) rfl) ?_
  refine f_nil ?_
  refine f_seq ?_
  refine f_region ?_
  refine f_op rfl rfl (s_build (cs := [.sl ⟨true, 0, 0, 0, 0, 0⟩, .sl ⟨true, 0, 0, 0, 0, 0⟩, .int .i64 0, .int .i64 0, .int .i64 0, .int .i64 0, .sl ⟨true, 0, 0, 0, 0, 0⟩]) Tryz.underlying69 ty69 rfl pl69 rfl) ?_
  refine f_op rfl rfl (s_box (v := .agg [.sl ⟨true, 0, 0, 0, 0, 0⟩, .sl ⟨true, 0, 0, 0, 0, 0⟩, .int .i64 0, .int .i64 0, .int .i64 0, .int .i64 0, .sl ⟨true, 0, 0, 0, 0, 0⟩]) rfl rfl) ?_
  refine f_op rfl rfl (s_build (cs := [.str (ByteArray.mk #[]), .int .i64 0, .ptr H.n 0]) Tryz.underlying71 ty71 rfl pl71 rfl) ?_
  refine f_op rfl rfl (s_buildSlice (cs := [.str (ByteArray.mk #[]), .int .i64 0, .ptr H.n 0]) Tryz.underlying54 ty71 (by decide) (by decide) rfl (by decide) rfl) ?_
  refine f_op rfl rfl (s_build (cs := [.sl ⟨false, (H.push (.cells [.sl ⟨true, 0, 0, 0, 0, 0⟩, .sl ⟨true, 0, 0, 0, 0, 0⟩, .int .i64 0, .int .i64 0, .int .i64 0, .int .i64 0, .sl ⟨true, 0, 0, 0, 0, 0⟩] false)).n, 0, 1, 1, 0⟩, .int .i64 0]) Tryz.underlying56 ty56 rfl pl56 rfl) ?_
  refine f_op rfl rfl (s_box (v := .agg [.sl ⟨false, (H.push (.cells [.sl ⟨true, 0, 0, 0, 0, 0⟩, .sl ⟨true, 0, 0, 0, 0, 0⟩, .int .i64 0, .int .i64 0, .int .i64 0, .int .i64 0, .sl ⟨true, 0, 0, 0, 0, 0⟩] false)).n, 0, 1, 1, 0⟩, .int .i64 0]) rfl rfl) ?_
  refine f_op rfl rfl (s_as (v := .ptr (((H.push (.cells [.sl ⟨true, 0, 0, 0, 0, 0⟩, .sl ⟨true, 0, 0, 0, 0, 0⟩, .int .i64 0, .int .i64 0, .int .i64 0, .int .i64 0, .sl ⟨true, 0, 0, 0, 0, 0⟩] false)).push (.cells [.str (ByteArray.mk #[]), .int .i64 0, .ptr H.n 0] false)).n) 0) rfl) ?_
  refine o_hp ?_; intro H1 hH1
  refine f_nil ?_
  exact f_ret (.tmp rfl (.nil)) rfl

/- 15 (*congou/chest.Chest).At -/
theorem ok15 : FnOk Tryz.prog 15 := ⟨⟨Tryz.f15, Tryz.func15, by kernel_rfl, rfl⟩⟩
theorem sim15 {a0b : Nat} {a0o : Nat} {H : Hp} {p : Int × Hp} (h : r15 a0b a0o H = some p) : CallSim Tryz.prog 15 [.ptr a0b a0o] H (.int .i64 p.1) p.2 := by
  refine callSim (fn := Tryz.f15) (ret := ret15) Tryz.func15 rfl Tryz.ntmps15 rfl ?_ h
  unfold r15
  refine f_seq ?_
  refine f_region ?_
  refine f_op rfl rfl (s_as (v := .int .i64 0) rfl) ?_
  refine f_nil ?_
  refine f_seq ?_
  refine f_seq ?_
  refine f_region ?_
  refine f_op rfl rfl (s_mv (v := .ptr a0b a0o) rfl) ?_
  refine o_bind ?_; intro p1 hp1
  refine f_op rfl rfl (s_callF rfl ok28 (sim28 hp1)) ?_
  refine f_nil ?_
  refine f_if (fun h2 => ?_) (fun h2 => ?_)
  · skip
    refine f_know 4 rfl (bool_T h2) ?_
    refine f_condT rfl ?_
    refine f_seq ?_
    refine f_region ?_
    refine f_op rfl rfl (s_as (v := .int .i64 0) rfl) ?_
    refine f_nil ?_
    exact f_ret (.tmp rfl (.nil)) rfl
  · skip
    refine f_know 4 rfl (bool_F h2) ?_
    refine f_condF rfl ?_
    refine f_skip ?_
    refine f_seq ?_
    refine f_region ?_
    refine f_op rfl rfl (s_mv (v := .ptr a0b a0o) rfl) ?_
    refine f_op rfl rfl (s_nilCheck rfl) ?_
    refine f_op rfl rfl (s_fieldAddr Tryz.underlying56 rfl ty3 rfl) ?_
    refine o_bind ?_; intro x3 hx3
    refine f_op rfl rfl (s_load Tryz.underlying3 rfl rfl (ldI_eq hx3)) ?_
    refine f_op rfl rfl (s_as (v := .int .i64 x3) rfl) ?_
    refine f_nil ?_
    exact f_ret (.tmp rfl (.nil)) rfl

/- 33 (*congou/chest.Chest).now -/
theorem ok33 : FnOk Tryz.prog 33 := ⟨⟨Tryz.f33, Tryz.func33, by kernel_rfl, rfl⟩⟩
theorem sim33 {a0b : Nat} {a0o : Nat} {H : Hp} {p : (Nat × Nat) × Hp} (h : r33 a0b a0o H = some p) : CallSim Tryz.prog 33 [.ptr a0b a0o] H (.ptr p.1.1 p.1.2) p.2 := by
  refine callSim (fn := Tryz.f33) (ret := ret33) Tryz.func33 rfl Tryz.ntmps33 rfl ?_ h
  unfold r33
  refine f_seq ?_
  refine f_region ?_
  refine f_op rfl rfl (s_as (v := .nilptr) rfl) ?_
  refine f_nil ?_
  refine f_seq ?_
  refine f_bind ?_; intro x1 hx1
  refine f_bind ?_; intro x2 hx2
  refine f_ck fun g3 => ?_
  refine f_bind ?_; intro x4 hx4
  refine f_draw (Φ := fun _ => True) (lim := 1000000) [0, 0, 0, 1, 0, 0, 0, 1, 0, 0, 1, 0] (Trc.pure rfl rfl rfl (.inl fun _ => s_mv (v := .ptr a0b a0o) rfl) (Trc.pure rfl rfl rfl (.inl fun _ => s_nilCheck rfl) (Trc.pure rfl rfl rfl (.inl fun _ => s_fieldAddr Tryz.underlying56 rfl ty54 rfl) (Trc.read rfl rfl rfl (s_load Tryz.underlying54 rfl rfl (ldSl_eq hx1)) (Trc.pure rfl rfl rfl (.inl fun _ => s_mv (v := .ptr a0b a0o) rfl) (Trc.pure rfl rfl rfl (.inl fun _ => s_nilCheck rfl) (Trc.pure rfl rfl rfl (.inl fun _ => s_fieldAddr Tryz.underlying56 rfl ty3 rfl) (Trc.read rfl rfl rfl (s_load Tryz.underlying3 rfl rfl (ldI_eq hx2)) (Trc.pure rfl rfl rfl (.inl fun _ => s_idx Tryz.underlying54 ty71 rfl rfl g3) (Trc.pure rfl rfl rfl (.inl fun _ => s_fieldAddr Tryz.underlying71 rfl ty63 rfl) (Trc.read rfl rfl rfl (s_load Tryz.underlying63 rfl rfl (ldP_eq hx4)) (Trc.pure rfl rfl rfl (.inl fun _ => s_as (v := .ptr x4.1 x4.2) rfl) (Trc.nil (fun _ => trivial)))))))))))))) rfl (by decide +kernel) mixed ?_
  exact f_ret (.tmp rfl (.nil)) rfl

/- 152 internal/stringslite.IndexByte -/
theorem ok152 : FnOk Tryz.prog 152 := ⟨⟨Tryz.f152, Tryz.func152, by kernel_rfl, rfl⟩⟩
theorem sim152 {a0 : ByteArray} {a1 : Int} {H : Hp} {p : Int × Hp} (h : r152 a0 a1 H = some p) : CallSim Tryz.prog 152 [.str a0, .int .u8 a1] H (.int .i64 p.1) p.2 := by
  refine callSim (fn := Tryz.f152) (ret := ret152) Tryz.func152 rfl Tryz.ntmps152 rfl ?_ h
  unfold r152
  refine f_seq ?_
  refine f_region ?_
  refine f_op rfl rfl (s_as (v := .int .i64 0) rfl) ?_
  refine f_nil ?_
  refine f_seq ?_
  refine f_region ?_
  refine f_op rfl rfl (s_mv (v := .str a0) rfl) ?_
  refine f_op rfl rfl (s_mv (v := .int .u8 a1) rfl) ?_
  refine f_op rfl rfl (s_idxByte rfl ext216) ?_
  refine f_op rfl rfl (s_as (v := .int .i64 (strIdx a0 a1)) rfl) ?_
  refine f_nil ?_
  exact f_ret (.tmp rfl (.nil)) rfl

/- 154 internal/bytealg.Cutover -/
theorem ok154 : FnOk Tryz.prog 154 := ⟨⟨Tryz.f154, Tryz.func154, by kernel_rfl, rfl⟩⟩
theorem sim154 {a0 : Int} {H : Hp} {p : Int × Hp} (h : r154 a0 H = some p) : CallSim Tryz.prog 154 [.int .i64 a0] H (.int .i64 p.1) p.2 := by
  refine callSim (fn := Tryz.f154) (ret := ret154) Tryz.func154 rfl Tryz.ntmps154 rfl ?_ h
  unfold r154
  refine f_seq ?_
  refine f_region ?_
  refine f_op rfl rfl (s_as (v := .int .i64 0) rfl) ?_
  refine f_nil ?_
  refine f_seq ?_
  refine f_region ?_
  refine f_op rfl rfl (s_mv (v := .int .i64 a0) rfl) ?_
  refine f_op rfl rfl (s_add rfl rfl) ?_
  refine f_op rfl rfl (s_quo rfl rfl (by decide)) ?_
  refine f_op rfl rfl (s_as (v := .int .i64 (w64 (Int.tdiv (w64 (a0 + 16)) 8))) rfl) ?_
  refine f_nil ?_
  exact f_ret (.tmp rfl (.nil)) rfl

/- 100 internal/stringslite.Index -/
theorem ok100 : FnOk Tryz.prog 100 := ⟨⟨Tryz.f100, Tryz.func100, by kernel_rfl, rfl⟩⟩
theorem s100_j0 (v1 : ByteArray) (v2 : ByteArray) (v3 : Int) (v4 : Bool) (H : Hp) : Fin Tryz.prog Tryz.f100 ret100 143 (todoAt (bodyOf Tryz.f100) [1, 1, 0, 0, 1] []) [(0, .str v1), (1, .str v2), (5, .int .i64 v3), (16, .bool v4)] H (r100_j0 v1 v2 v3 v4 H) := by
  unfold r100_j0
  refine f_if (fun h1 => ?_) (fun h1 => ?_)
  · skip
    refine f_know 16 rfl (bool_T h1) ?_
    refine f_condT rfl ?_
    refine f_seq ?_
    refine f_region ?_
    refine f_op rfl rfl (s_as (v := .int .i64 0) rfl) ?_
    refine f_nil ?_
    exact f_ret (.tmp rfl (.nil)) rfl
  · skip
    refine f_know 16 rfl (bool_F h1) ?_
    refine f_condF rfl ?_
    refine f_seq ?_
    refine f_region ?_
    refine f_op rfl rfl (s_mv (v := .int .i64 v3) rfl) ?_
    refine f_op rfl rfl (s_eql rfl rfl) ?_
    refine f_op rfl rfl (s_as (v := .bool (decide (v3 = 1))) rfl) ?_
    refine f_nil ?_
    refine f_if (fun h2 => ?_) (fun h2 => ?_)
    · skip
      refine f_know 24 rfl (dec_true h2) ?_
      refine f_condT rfl ?_
      refine f_seq ?_
      refine f_region ?_
      refine f_op rfl rfl (s_mv (v := .str v1) rfl) ?_
      refine f_op rfl rfl (s_mv (v := .str v2) rfl) ?_
      refine o_ck fun g3 => ?_
      refine f_op rfl rfl (s_indexStr Tryz.underlying9 rfl rfl g3) ?_
      refine o_bind ?_; intro p4 hp4
      refine f_op rfl rfl (s_callF rfl ok152 (sim152 hp4)) ?_
      refine f_op rfl rfl (s_as (v := .int .i64 p4.1) rfl) ?_
      refine f_nil ?_
      exact f_ret (.tmp rfl (.nil)) rfl
    · skip
      refine f_know 24 rfl (dec_false h2) ?_
      refine f_condF rfl ?_
      refine f_seq ?_
      refine f_region ?_
      refine f_op rfl rfl (s_mv (v := .int .i64 v3) rfl) ?_
      refine f_op rfl rfl (s_mv (v := .str v1) rfl) ?_
      refine f_op rfl rfl (s_lenStr rfl Tryz.underlying9 rfl) ?_
      refine f_op rfl rfl (s_geq rfl rfl) ?_
      refine f_op rfl rfl (s_as (v := .bool (decide ((v1.size : Int) ≤ v3))) rfl) ?_
      refine f_nil ?_
      refine f_if (fun h5 => ?_) (fun h5 => ?_)
      · skip
        refine f_know 31 rfl (dec_true h5) ?_
        refine f_condT rfl ?_
        refine f_seq ?_
        refine f_region ?_
        refine f_op rfl rfl (s_as (v := .int .i64 (-1)) rfl) ?_
        refine f_nil ?_
        exact f_ret (.tmp rfl (.nil)) rfl
      · skip
        refine f_know 31 rfl (dec_false h5) ?_
        refine f_condF rfl ?_
        refine f_seq ?_
        refine f_region ?_
        refine f_op rfl rfl (s_mv (v := .int .i64 v3) rfl) ?_
        exact o_none

theorem sim100 {a0 : ByteArray} {a1 : ByteArray} {H : Hp} {p : Int × Hp} (h : r100 a0 a1 H = some p) : CallSim Tryz.prog 100 [.str a0, .str a1] H (.int .i64 p.1) p.2 := by
  refine callSim (fn := Tryz.f100) (ret := ret100) Tryz.func100 rfl Tryz.ntmps100 rfl ?_ h
  unfold r100
  refine f_seq ?_
  refine f_region ?_
  refine f_op rfl rfl (s_as (v := .int .i64 0) rfl) ?_
  refine f_nil ?_
  refine f_seq ?_
  refine f_region ?_
  refine f_op rfl rfl (s_mv (v := .str a1) rfl) ?_
  refine f_op rfl rfl (s_lenStr rfl Tryz.underlying9 rfl) ?_
  refine f_op rfl rfl (s_as (v := .int .i64 (a1.size : Int)) rfl) ?_
  refine f_nil ?_
  refine f_seq ?_
  refine f_block ?_
  refine f_seq ?_
  refine f_region ?_
  refine f_op rfl rfl (s_mv (v := .int .i64 (a1.size : Int)) rfl) ?_
  refine f_op rfl rfl (s_eql rfl rfl) ?_
  refine f_op rfl rfl (s_mv (v := .bool (decide ((a1.size : Int) = 0))) rfl) ?_
  refine o_if (fun h1 => ?_) (fun h1 => ?_)
  · skip
    refine o_know 19 rfl (dec_true h1) ?_
    refine f_no rfl rfl ?_
    refine f_no rfl rfl ?_
    refine f_no rfl rfl ?_
    refine f_op rfl rfl (s_pickT (v := .bool true) rfl rfl) ?_
    refine f_op rfl rfl (s_as (v := .bool true) rfl) ?_
    refine f_nil ?_
    refine f_keep [0, 1, 5, 16] ?_
    exact s100_j0 a0 a1 (a1.size : Int) true H
  · skip
    refine o_know 19 rfl (dec_false h1) ?_
    refine f_op rfl rfl (s_mv (v := .str a1) rfl) ?_
    refine f_op rfl rfl (s_mv (v := .str a0) rfl) ?_
    refine f_op rfl rfl (s_eqStr rfl rfl) ?_
    refine f_op rfl rfl (s_pickF (v := .bool (strEq a1 a0)) rfl rfl) ?_
    refine f_op rfl rfl (s_as (v := .bool (strEq a1 a0)) rfl) ?_
    refine f_nil ?_
    refine f_keep [0, 1, 5, 16] ?_
    exact s100_j0 a0 a1 (a1.size : Int) (strEq a1 a0) H

/- 71 internal/stringslite.Cut -/
theorem ok71 : FnOk Tryz.prog 71 := ⟨⟨Tryz.f71, Tryz.func71, by kernel_rfl, rfl⟩⟩
theorem sim71 {a0 : ByteArray} {a1 : ByteArray} {H : Hp} {p : (ByteArray × ByteArray × Bool) × Hp} (h : r71 a0 a1 H = some p) : CallSim Tryz.prog 71 [.str a0, .str a1] H (.tup [.str p.1.1, .str p.1.2.1, .bool p.1.2.2]) p.2 := by
  refine callSim (fn := Tryz.f71) (ret := ret71) Tryz.func71 rfl Tryz.ntmps71 rfl ?_ h
  unfold r71
  refine f_seq ?_
  refine f_region ?_
  refine f_op rfl rfl (s_as (v := .str (ByteArray.mk #[])) rfl) ?_
  refine f_op rfl rfl (s_as (v := .str (ByteArray.mk #[])) rfl) ?_
  refine f_op rfl rfl (s_as (v := .bool false) rfl) ?_
  refine f_nil ?_
  refine f_seq ?_
  refine f_seq ?_
  refine f_region ?_
  refine f_op rfl rfl (s_mv (v := .str a0) rfl) ?_
  refine f_op rfl rfl (s_mv (v := .str a1) rfl) ?_
  refine o_bind ?_; intro p1 hp1
  refine f_op rfl rfl (s_callF rfl ok100 (sim100 hp1)) ?_
  refine f_op rfl rfl (s_as (v := .int .i64 p1.1) rfl) ?_
  refine f_nil ?_
  refine f_seq ?_
  refine f_region ?_
  refine f_op rfl rfl (s_mv (v := .int .i64 p1.1) rfl) ?_
  refine f_op rfl rfl (s_geq rfl rfl) ?_
  refine f_nil ?_
  refine f_if (fun h2 => ?_) (fun h2 => ?_)
  · skip
    refine f_know 12 rfl (dec_true h2) ?_
    refine f_condT rfl ?_
    refine f_seq ?_
    refine f_ck fun g3 => ?_
    refine f_ck fun g4 => ?_
    refine f_draw (Φ := fun _ => True) (lim := 1000000) [0, 0, 0, 0, 0, 0, 0, 0, 0, 0, 0, 0] (Trc.pure rfl rfl rfl (.inl fun _ => s_mv (v := .str a0) rfl) (Trc.pure rfl rfl rfl (.inl fun _ => s_mv (v := .int .i64 p1.1) rfl) (Trc.pure rfl rfl rfl (.inl fun _ => s_sliceStr Tryz.underlying9 rfl rfl rfl g3) (Trc.pure rfl rfl rfl (.inl fun _ => s_mv (v := .str a0) rfl) (Trc.pure rfl rfl rfl (.inl fun _ => s_mv (v := .int .i64 p1.1) rfl) (Trc.pure rfl rfl rfl (.inl fun _ => s_mv (v := .str a1) rfl) (Trc.pure rfl rfl rfl (.inl fun _ => s_lenStr rfl Tryz.underlying9 rfl) (Trc.pure rfl rfl rfl (.inl fun _ => s_add rfl rfl) (Trc.pure rfl rfl rfl (.inl fun _ => s_sliceStr Tryz.underlying9 rfl rfl rfl g4) (Trc.pure rfl rfl rfl (.inl fun _ => s_as (v := .str (a0.extract (0 : Int).toNat (p1.1 : Int).toNat)) rfl) (Trc.pure rfl rfl rfl (.inl fun _ => s_as (v := .str (a0.extract (w64 (p1.1 + (a1.size : Int)) : Int).toNat ((a0.size : Int) : Int).toNat)) rfl) (Trc.pure rfl rfl rfl (.inl fun _ => s_as (v := .bool true) rfl) (Trc.nil (fun _ => trivial)))))))))))))) rfl (by decide +kernel) mixed ?_
    exact f_ret (.tmp rfl (.tmp rfl (.tmp rfl (.nil)))) rfl
  · skip
    refine f_know 12 rfl (dec_false h2) ?_
    refine f_condF rfl ?_
    refine f_skip ?_
    refine f_seq ?_
    refine f_region ?_
    refine f_op rfl rfl (s_mv (v := .str a0) rfl) ?_
    refine f_op rfl rfl (s_as (v := .str a0) rfl) ?_
    refine f_op rfl rfl (s_as (v := .str (ByteArray.mk #[])) rfl) ?_
    refine f_op rfl rfl (s_as (v := .bool false) rfl) ?_
    refine f_nil ?_
    exact f_ret (.tmp rfl (.tmp rfl (.tmp rfl (.nil)))) rfl

/- 42 strings.Cut -/
theorem ok42 : FnOk Tryz.prog 42 := ⟨⟨Tryz.f42, Tryz.func42, by kernel_rfl, rfl⟩⟩
theorem sim42 {a0 : ByteArray} {a1 : ByteArray} {H : Hp} {p : (ByteArray × ByteArray × Bool) × Hp} (h : r42 a0 a1 H = some p) : CallSim Tryz.prog 42 [.str a0, .str a1] H (.tup [.str p.1.1, .str p.1.2.1, .bool p.1.2.2]) p.2 := by
  refine callSim (fn := Tryz.f42) (ret := ret42) Tryz.func42 rfl Tryz.ntmps42 rfl ?_ h
  unfold r42
  refine f_seq ?_
  refine f_region ?_
  refine f_op rfl rfl (s_as (v := .str (ByteArray.mk #[])) rfl) ?_
  refine f_op rfl rfl (s_as (v := .str (ByteArray.mk #[])) rfl) ?_
  refine f_op rfl rfl (s_as (v := .bool false) rfl) ?_
  refine f_nil ?_
  refine f_seq ?_
  refine f_region ?_
  refine f_op rfl rfl (s_mv (v := .str a0) rfl) ?_
  refine f_op rfl rfl (s_mv (v := .str a1) rfl) ?_
  refine o_bind ?_; intro p1 hp1
  refine f_op rfl rfl (s_callF rfl ok71 (sim71 hp1)) ?_
  refine f_op rfl rfl (s_extract (r := .str p1.1.1) rfl rfl) ?_
  refine f_op rfl rfl (s_extract (r := .str p1.1.2.1) rfl rfl) ?_
  refine f_op rfl rfl (s_extract (r := .bool p1.1.2.2) rfl rfl) ?_
  refine f_op rfl rfl (s_as (v := .str p1.1.1) rfl) ?_
  refine f_op rfl rfl (s_as (v := .str p1.1.2.1) rfl) ?_
  refine f_op rfl rfl (s_as (v := .bool p1.1.2.2) rfl) ?_
  refine f_nil ?_
  exact f_ret (.tmp rfl (.tmp rfl (.tmp rfl (.nil)))) rfl

/- 72 slices.Clone[[]congou/chest.leaf,congou/chest.leaf] -/
theorem ok72 : FnOk Tryz.prog 72 := ⟨⟨Tryz.f72, Tryz.func72, by kernel_rfl, rfl⟩⟩
theorem sim72 {a0 : Sl} {H : Hp} {p : Sl × Hp} (h : r72 a0 H = some p) : CallSim Tryz.prog 72 [.sl a0] H (.sl p.1) p.2 := by
  refine callSim (fn := Tryz.f72) (ret := ret72) Tryz.func72 rfl Tryz.ntmps72 rfl ?_ h
  unfold r72
  refine f_seq ?_
  refine f_region ?_
  refine f_op rfl rfl (s_as (v := .sl ⟨true, 0, 0, 0, 0, 0⟩) rfl) ?_
  refine f_nil ?_
  refine f_seq ?_
  refine f_seq ?_
  refine f_region ?_
  refine f_op rfl rfl (s_mv (v := .sl a0) rfl) ?_
  refine f_op rfl rfl (s_eqNil Tryz.underlying64 rfl rfl) ?_
  refine f_nil ?_
  refine f_if (fun h1 => ?_) (fun h1 => ?_)
  · skip
    refine f_know 4 rfl (bool_T h1) ?_
    refine f_condT rfl ?_
    refine f_seq ?_
    refine f_region ?_
    refine f_op rfl rfl (s_as (v := .sl ⟨true, 0, 0, 0, 0, 0⟩) rfl) ?_
    refine f_nil ?_
    exact f_ret (.tmp rfl (.nil)) rfl
  · skip
    refine f_know 4 rfl (bool_F h1) ?_
    refine f_condF rfl ?_
    refine f_skip ?_
    refine f_seq ?_
    refine f_region ?_
    refine f_op rfl rfl (s_buildSlice0 Tryz.underlying64 ty93) ?_
    refine f_op rfl rfl (s_mv (v := .sl a0) rfl) ?_
    refine o_bind ?_; intro x2 hx2
    refine o_ck fun g3 => ?_
    refine o_bind ?_; intro x4 hx4
    refine f_op rfl rfl (s_append rfl rfl Tryz.underlying64 Tryz.underlying64 ty93 (by decide) rfl (by decide) rfl rfl hx2 g3 hx4) ?_
    refine f_op rfl rfl (s_as (v := .sl x4.1) rfl) ?_
    refine f_nil ?_
    exact f_ret (.tmp rfl (.nil)) rfl

/- 73 slices.Clone[[]int,int] -/
theorem ok73 : FnOk Tryz.prog 73 := ⟨⟨Tryz.f73, Tryz.func73, by kernel_rfl, rfl⟩⟩
theorem sim73 {a0 : Sl} {H : Hp} {p : Sl × Hp} (h : r73 a0 H = some p) : CallSim Tryz.prog 73 [.sl a0] H (.sl p.1) p.2 := by
  refine callSim (fn := Tryz.f73) (ret := ret73) Tryz.func73 rfl Tryz.ntmps73 rfl ?_ h
  unfold r73
  refine f_seq ?_
  refine f_region ?_
  refine f_op rfl rfl (s_as (v := .sl ⟨true, 0, 0, 0, 0, 0⟩) rfl) ?_
  refine f_nil ?_
  refine f_seq ?_
  refine f_seq ?_
  refine f_region ?_
  refine f_op rfl rfl (s_mv (v := .sl a0) rfl) ?_
  refine f_op rfl rfl (s_eqNil Tryz.underlying30 rfl rfl) ?_
  refine f_nil ?_
  refine f_if (fun h1 => ?_) (fun h1 => ?_)
  · skip
    refine f_know 4 rfl (bool_T h1) ?_
    refine f_condT rfl ?_
    refine f_seq ?_
    refine f_region ?_
    refine f_op rfl rfl (s_as (v := .sl ⟨true, 0, 0, 0, 0, 0⟩) rfl) ?_
    refine f_nil ?_
    exact f_ret (.tmp rfl (.nil)) rfl
  · skip
    refine f_know 4 rfl (bool_F h1) ?_
    refine f_condF rfl ?_
    refine f_skip ?_
    refine f_seq ?_
    refine f_region ?_
    refine f_op rfl rfl (s_buildSlice0 Tryz.underlying30 ty3) ?_
    refine f_op rfl rfl (s_mv (v := .sl a0) rfl) ?_
    refine o_bind ?_; intro x2 hx2
    refine o_ck fun g3 => ?_
    refine o_bind ?_; intro x4 hx4
    refine f_op rfl rfl (s_append rfl rfl Tryz.underlying30 Tryz.underlying30 ty3 (by decide) rfl (by decide) rfl rfl hx2 g3 hx4) ?_
    refine f_op rfl rfl (s_as (v := .sl x4.1) rfl) ?_
    refine f_nil ?_
    exact f_ret (.tmp rfl (.nil)) rfl

/- 74 slices.Clone[[][2]int,[2]int] -/
theorem ok74 : FnOk Tryz.prog 74 := ⟨⟨Tryz.f74, Tryz.func74, by kernel_rfl, rfl⟩⟩
theorem sim74 {a0 : Sl} {H : Hp} {p : Sl × Hp} (h : r74 a0 H = some p) : CallSim Tryz.prog 74 [.sl a0] H (.sl p.1) p.2 := by
  refine callSim (fn := Tryz.f74) (ret := ret74) Tryz.func74 rfl Tryz.ntmps74 rfl ?_ h
  unfold r74
  refine f_seq ?_
  refine f_region ?_
  refine f_op rfl rfl (s_as (v := .sl ⟨true, 0, 0, 0, 0, 0⟩) rfl) ?_
  refine f_nil ?_
  refine f_seq ?_
  refine f_seq ?_
  refine f_region ?_
  refine f_op rfl rfl (s_mv (v := .sl a0) rfl) ?_
  refine f_op rfl rfl (s_eqNil Tryz.underlying67 rfl rfl) ?_
  refine f_nil ?_
  refine f_if (fun h1 => ?_) (fun h1 => ?_)
  · skip
    refine f_know 4 rfl (bool_T h1) ?_
    refine f_condT rfl ?_
    refine f_seq ?_
    refine f_region ?_
    refine f_op rfl rfl (s_as (v := .sl ⟨true, 0, 0, 0, 0, 0⟩) rfl) ?_
    refine f_nil ?_
    exact f_ret (.tmp rfl (.nil)) rfl
  · skip
    refine f_know 4 rfl (bool_F h1) ?_
    refine f_condF rfl ?_
    refine f_skip ?_
    refine f_seq ?_
    refine f_region ?_
    refine f_op rfl rfl (s_buildSlice0 Tryz.underlying67 ty65) ?_
    refine f_op rfl rfl (s_mv (v := .sl a0) rfl) ?_
    refine o_bind ?_; intro x2 hx2
    refine o_ck fun g3 => ?_
    refine o_bind ?_; intro x4 hx4
    refine f_op rfl rfl (s_append rfl rfl Tryz.underlying67 Tryz.underlying67 ty65 (by decide) rfl (by decide) rfl rfl hx2 g3 hx4) ?_
    refine f_op rfl rfl (s_as (v := .sl x4.1) rfl) ?_
    refine f_nil ?_
    exact f_ret (.tmp rfl (.nil)) rfl

/- 43 (*congou/chest.state).clone -/
theorem ok43 : FnOk Tryz.prog 43 := ⟨⟨Tryz.f43, Tryz.func43, by kernel_rfl, rfl⟩⟩
theorem sim43 {a0b : Nat} {a0o : Nat} {H : Hp} {p : (Nat × Nat) × Hp} (h : r43 a0b a0o H = some p) : CallSim Tryz.prog 43 [.ptr a0b a0o] H (.ptr p.1.1 p.1.2) p.2 := by
  refine callSim (fn := Tryz.f43) (ret := ret43) Tryz.func43 rfl Tryz.ntmps43 rfl ?_ h
  unfold r43
  refine f_seq ?_
  refine f_region ?_
  refine f_op rfl rfl (s_as (v := .nilptr) rfl) ?_
  refine f_nil ?_
  refine f_seq ?_
  refine f_bind ?_; intro x1 hx1
  refine f_bind ?_; intro p2 hp2
  refine f_bind ?_; intro x3 hx3
  refine f_bind ?_; intro p4 hp4
  refine f_bind ?_; intro x5 hx5
  refine f_bind ?_; intro x6 hx6
  refine f_bind ?_; intro x7 hx7
  refine f_bind ?_; intro x8 hx8
  refine f_bind ?_; intro x9 hx9
  refine f_bind ?_; intro p10 hp10
  refine f_ck fun g11 => ?_
  refine f_ck fun g12 => ?_
  refine f_ck fun g13 => ?_
  refine f_ck fun g14 => ?_
  refine f_ck fun g15 => ?_
  refine f_ck fun g16 => ?_
  refine f_ck fun g17 => ?_
  refine f_ck fun g18 => ?_
  refine f_ck fun g19 => ?_
  refine f_ck fun g20 => ?_
  refine f_ck fun g21 => ?_
  refine f_ck fun g22 => ?_
  refine f_ck fun g23 => ?_
  refine f_ck fun g24 => ?_
  refine f_ck fun g25 => ?_
  refine f_ck fun g26 => ?_
  refine f_ck fun g27 => ?_
  refine f_ck fun g28 => ?_
  refine f_draw (Φ := fun H_ => H_.ld a0b (a0o + 1) = some (.sl x3) ∧ H_.ld a0b (a0o + 2) = some (.int .i64 x5) ∧ H_.ld a0b ((a0o + 2) + 1) = some (.int .i64 x6) ∧ H_.ld a0b ((a0o + 2) + 2) = some (.int .i64 x7) ∧ H_.ld a0b ((a0o + 2) + 3) = some (.int .i64 x8) ∧ H_.ld a0b (a0o + 6) = some (.sl x9)) (lim := 20) [0, 0, 0, 1, 2, 0, 0, 0, 0, 2, 0, 0, 0, 0, 0, 0, 0, 0, 2, 0, 2, 0] (Trc.pure rfl rfl rfl (.inl fun _ => s_mv (v := .ptr a0b a0o) rfl) (Trc.pure rfl rfl rfl (.inl fun _ => s_nilCheck rfl) (Trc.pure rfl rfl rfl (.inl fun _ => s_fieldAddr Tryz.underlying69 rfl ty64 rfl) (Trc.read rfl rfl rfl (s_load Tryz.underlying64 rfl rfl (ldSl_eq hx1)) (Trc.eff rfl rfl rfl (fun _ => ⟨ldSl_eq g11, ldI_eq g12, ldI_eq g13, ldI_eq g14, ldI_eq g15, ldSl_eq g16⟩) (s_callF rfl ok72 (sim72 hp2)) (Trc.pure rfl rfl rfl (.inl fun _ => s_mv (v := .ptr a0b a0o) rfl) (Trc.pure rfl rfl rfl (.inl fun _ => s_nilCheck rfl) (Trc.pure rfl rfl rfl (.inl fun _ => s_fieldAddr Tryz.underlying69 rfl ty30 rfl) (Trc.pure rfl rfl rfl (.inr ⟨by decide +kernel, fun _ hp_ => s_load Tryz.underlying30 rfl rfl hp_.1⟩) (Trc.eff rfl rfl rfl (fun _ => ⟨ldSl_eq hx3, ldI_eq g17, ldI_eq g18, ldI_eq g19, ldI_eq g20, ldSl_eq g21⟩) (s_callF rfl ok73 (sim73 hp4)) (Trc.pure rfl rfl rfl (.inl fun _ => s_mv (v := .ptr a0b a0o) rfl) (Trc.pure rfl rfl rfl (.inl fun _ => s_nilCheck rfl) (Trc.pure rfl rfl rfl (.inl fun _ => s_fieldAddr Tryz.underlying69 rfl ty66 rfl) (Trc.pure rfl rfl rfl (.inr ⟨by decide +kernel, fun _ hp_ => s_loads Tryz.underlying66 rfl ty66 rfl (lds_cons hp_.2.1 (lds_cons hp_.2.2.1 (lds_cons hp_.2.2.2.1 (lds_cons hp_.2.2.2.2.1 (lds_nil)))))⟩) (Trc.pure rfl rfl rfl (.inl fun _ => s_mv (v := .ptr a0b a0o) rfl) (Trc.pure rfl rfl rfl (.inl fun _ => s_nilCheck rfl) (Trc.pure rfl rfl rfl (.inl fun _ => s_fieldAddr Tryz.underlying69 rfl ty67 rfl) (Trc.pure rfl rfl rfl (.inr ⟨by decide +kernel, fun _ hp_ => s_load Tryz.underlying67 rfl rfl hp_.2.2.2.2.2⟩) (Trc.eff rfl rfl rfl (fun _ => ⟨ldSl_eq g22, ldI_eq hx5, ldI_eq hx6, ldI_eq hx7, ldI_eq hx8, ldSl_eq hx9⟩) (s_callF rfl ok74 (sim74 hp10)) (Trc.pure rfl rfl rfl (.inl fun _ => s_build (cs := [.sl p2.1, .sl p4.1, .int .i64 x5, .int .i64 x6, .int .i64 x7, .int .i64 x8, .sl p10.1]) Tryz.underlying69 ty69 rfl pl69 rfl) (Trc.eff rfl rfl rfl (fun _ => ⟨ldSl_eq g23, ldI_eq g24, ldI_eq g25, ldI_eq g26, ldI_eq g27, ldSl_eq g28⟩) (s_box (v := .agg [.sl p2.1, .sl p4.1, .int .i64 x5, .int .i64 x6, .int .i64 x7, .int .i64 x8, .sl p10.1]) rfl rfl) (Trc.pure rfl rfl rfl (.inl fun _ => s_as (v := .ptr p10.2.n 0) rfl) (Trc.nil (fun h_ => absurd h_ (by decide +kernel))))))))))))))))))))))))) rfl (by decide +kernel) mixed ?_
  exact f_ret (.tmp rfl (.nil)) rfl

/- 160 strings.Index -/
theorem ok160 : FnOk Tryz.prog 160 := ⟨⟨Tryz.f160, Tryz.func160, by kernel_rfl, rfl⟩⟩
theorem sim160 {a0 : ByteArray} {a1 : ByteArray} {H : Hp} {p : Int × Hp} (h : r160 a0 a1 H = some p) : CallSim Tryz.prog 160 [.str a0, .str a1] H (.int .i64 p.1) p.2 := by
  refine callSim (fn := Tryz.f160) (ret := ret160) Tryz.func160 rfl Tryz.ntmps160 rfl ?_ h
  unfold r160
  refine f_seq ?_
  refine f_region ?_
  refine f_op rfl rfl (s_as (v := .int .i64 0) rfl) ?_
  refine f_nil ?_
  refine f_seq ?_
  refine f_region ?_
  refine f_op rfl rfl (s_mv (v := .str a0) rfl) ?_
  refine f_op rfl rfl (s_mv (v := .str a1) rfl) ?_
  refine o_bind ?_; intro p1 hp1
  refine f_op rfl rfl (s_callF rfl ok100 (sim100 hp1)) ?_
  refine f_op rfl rfl (s_as (v := .int .i64 p1.1) rfl) ?_
  refine f_nil ?_
  exact f_ret (.tmp rfl (.nil)) rfl

/- 159 strings.Count -/
theorem ok159 : FnOk Tryz.prog 159 := ⟨⟨Tryz.f159, Tryz.func159, by kernel_rfl, rfl⟩⟩
theorem s159_l0 : ∀ (k_ : Nat) (v1 : ByteArray) (v2 : ByteArray) (v3 : Int) (H : Hp), Fin Tryz.prog Tryz.f159 ret159 34 (todoAt (bodyOf Tryz.f159) [1, 1, 1, 1, 0, 0] []) [(0, .str v1), (1, .str v2), (5, .int .i64 v3)] H (r159_l0 k_ v1 v2 v3 H) := by
  intro k_
  induction k_ with
  | zero => intro _ _ _ _; exact f_none
  | succ k_ ih =>
    intro v1 v2 v3 H
    rw [r159_l0]
    refine f_block ?_
    refine f_seq ?_
    refine f_region ?_
    refine f_op rfl rfl (s_mv (v := .str v1) rfl) ?_
    refine f_op rfl rfl (s_mv (v := .str v2) rfl) ?_
    refine o_bind ?_; intro p1 hp1
    refine f_op rfl rfl (s_callF rfl ok160 (sim160 hp1)) ?_
    refine f_op rfl rfl (s_as (v := .int .i64 p1.1) rfl) ?_
    refine f_nil ?_
    refine f_seq ?_
    refine f_seq ?_
    refine f_region ?_
    refine f_op rfl rfl (s_mv (v := .int .i64 p1.1) rfl) ?_
    refine f_op rfl rfl (s_eql rfl rfl) ?_
    refine f_nil ?_
    refine f_if (fun h2 => ?_) (fun h2 => ?_)
    · skip
      refine f_know 24 rfl (dec_true h2) ?_
      refine f_condT rfl ?_
      refine f_seq ?_
      refine f_region ?_
      refine f_op rfl rfl (s_mv (v := .int .i64 v3) rfl) ?_
      refine f_op rfl rfl (s_as (v := .int .i64 v3) rfl) ?_
      refine f_nil ?_
      exact f_ret (.tmp rfl (.nil)) rfl
    · skip
      refine f_know 24 rfl (dec_false h2) ?_
      refine f_condF rfl ?_
      refine f_skip ?_
      refine f_seq ?_
      refine f_region ?_
      refine f_op rfl rfl (s_mv (v := .int .i64 v3) rfl) ?_
      refine f_op rfl rfl (s_add rfl rfl) ?_
      refine f_op rfl rfl (s_as (v := .int .i64 (w64 (v3 + 1))) rfl) ?_
      refine f_nil ?_
      refine f_region ?_
      refine f_op rfl rfl (s_mv (v := .str v1) rfl) ?_
      refine f_op rfl rfl (s_mv (v := .int .i64 p1.1) rfl) ?_
      refine f_op rfl rfl (s_mv (v := .str v2) rfl) ?_
      refine f_op rfl rfl (s_lenStr rfl Tryz.underlying9 rfl) ?_
      refine f_op rfl rfl (s_add rfl rfl) ?_
      refine o_ck fun g3 => ?_
      refine f_op rfl rfl (s_sliceStr Tryz.underlying9 rfl rfl rfl g3) ?_
      refine f_op rfl rfl (s_as (v := .str (v1.extract (w64 (p1.1 + (v2.size : Int)) : Int).toNat ((v1.size : Int) : Int).toNat)) rfl) ?_
      refine f_nil ?_
      refine f_inBlock ?_
      refine f_inLoop ?_
      refine f_keep [0, 1, 5] ?_
      exact ih (v1.extract (w64 (p1.1 + (v2.size : Int)) : Int).toNat ((v1.size : Int) : Int).toNat) v2 (w64 (v3 + 1)) p1.2

theorem sim159 {a0 : ByteArray} {a1 : ByteArray} {H : Hp} {p : Int × Hp} (h : r159 a0 a1 H = some p) : CallSim Tryz.prog 159 [.str a0, .str a1] H (.int .i64 p.1) p.2 := by
  refine callSim (fn := Tryz.f159) (ret := ret159) Tryz.func159 rfl Tryz.ntmps159 rfl ?_ h
  unfold r159
  refine f_seq ?_
  refine f_region ?_
  refine f_op rfl rfl (s_as (v := .int .i64 0) rfl) ?_
  refine f_nil ?_
  refine f_seq ?_
  refine f_seq ?_
  refine f_region ?_
  refine f_op rfl rfl (s_mv (v := .str a1) rfl) ?_
  refine f_op rfl rfl (s_lenStr rfl Tryz.underlying9 rfl) ?_
  refine f_op rfl rfl (s_eql rfl rfl) ?_
  refine f_nil ?_
  refine f_if (fun h1 => ?_) (fun h1 => ?_)
  · skip
    refine f_know 9 rfl (dec_true h1) ?_
    refine f_condT rfl ?_
    refine f_seq ?_
    refine f_region ?_
    refine f_op rfl rfl (s_mv (v := .str a0) rfl) ?_
    exact o_none
  · skip
    refine f_know 9 rfl (dec_false h1) ?_
    refine f_condF rfl ?_
    refine f_skip ?_
    refine f_seq ?_
    refine f_seq ?_
    refine f_region ?_
    refine f_op rfl rfl (s_mv (v := .str a1) rfl) ?_
    refine f_op rfl rfl (s_lenStr rfl Tryz.underlying9 rfl) ?_
    refine f_op rfl rfl (s_eql rfl rfl) ?_
    refine f_nil ?_
    refine f_if (fun h2 => ?_) (fun h2 => ?_)
    · skip
      refine f_know 15 rfl (dec_true h2) ?_
      refine f_condT rfl ?_
      refine f_seq ?_
      refine f_region ?_
      refine f_op rfl rfl (s_mv (v := .str a0) rfl) ?_
      refine f_op rfl rfl (s_mv (v := .str a1) rfl) ?_
      refine o_ck fun g3 => ?_
      refine f_op rfl rfl (s_indexStr Tryz.underlying9 rfl rfl g3) ?_
      refine f_op rfl rfl (s_cntByte rfl ext220) ?_
      refine f_op rfl rfl (s_as (v := .int .i64 (strCnt a0 (bt a1 0))) rfl) ?_
      refine f_nil ?_
      exact f_ret (.tmp rfl (.nil)) rfl
    · skip
      refine f_know 15 rfl (dec_false h2) ?_
      refine f_condF rfl ?_
      refine f_skip ?_
      refine f_seq ?_
      refine f_region ?_
      refine f_op rfl rfl (s_as (v := .int .i64 0) rfl) ?_
      refine f_nil ?_
      refine f_block ?_
      refine f_loop ?_
      refine f_keep [0, 1, 5] ?_
      exact s159_l0 FUEL a0 a1 0 H

/- 107 strings.genSplit -/
theorem ok107 : FnOk Tryz.prog 107 := ⟨⟨Tryz.f107, Tryz.func107, by kernel_rfl, rfl⟩⟩
theorem s107_j2 (v1 : ByteArray) (v2 : Sl) (v3 : Int) (H : Hp) : Fin Tryz.prog Tryz.f107 ret107 66 (todoAt (bodyOf Tryz.f107) [1, 1, 1, 1, 1, 1, 1, 1, 1] []) [(0, .str v1), (9, .sl v2), (10, .int .i64 v3)] H (r107_j2 v1 v2 v3 H) := by
  unfold r107_j2
  refine f_seq ?_
  refine f_region ?_
  refine f_op rfl rfl (s_mv (v := .sl v2) rfl) ?_
  refine f_op rfl rfl (s_mv (v := .int .i64 v3) rfl) ?_
  refine f_op rfl rfl (s_mv (v := .str v1) rfl) ?_
  refine o_ck fun g1 => ?_
  refine f_op rfl rfl (s_idx Tryz.underlying38 ty9 rfl rfl g1) ?_
  refine o_bind ?_; intro H2 hH2
  refine f_op rfl rfl (s_store (s := 1) ty9 rfl rfl rfl hH2) ?_
  refine f_nil ?_
  refine f_seq ?_
  refine f_region ?_
  refine f_op rfl rfl (s_mv (v := .sl v2) rfl) ?_
  refine f_op rfl rfl (s_mv (v := .int .i64 v3) rfl) ?_
  refine f_op rfl rfl (s_add rfl rfl) ?_
  refine o_ck fun g3 => ?_
  refine f_op rfl rfl (s_slice Tryz.underlying38 ty9 rfl rfl rfl g3.1 g3.2) ?_
  refine f_op rfl rfl (s_as (v := .sl (v2.cut 1 (0 : Int).toNat (w64 (v3 + 1) : Int).toNat)) rfl) ?_
  refine f_nil ?_
  exact f_ret (.tmp rfl (.nil)) rfl

theorem s107_l0 : ∀ (k_ : Nat) (v1 : ByteArray) (v2 : ByteArray) (v3 : Int) (v4 : Int) (v5 : Sl) (v6 : Int) (H : Hp), Fin Tryz.prog Tryz.f107 ret107 66 (todoAt (bodyOf Tryz.f107) [1, 1, 1, 1, 1, 1, 1, 1, 0, 0, 0] []) [(0, .str v1), (1, .str v2), (2, .int .i64 v3), (3, .int .i64 v4), (9, .sl v5), (10, .int .i64 v6)] H (r107_l0 k_ v1 v2 v3 v4 v5 v6 H) := by
  intro k_
  induction k_ with
  | zero => intro _ _ _ _ _ _ _; exact f_none
  | succ k_ ih =>
    intro v1 v2 v3 v4 v5 v6 H
    rw [r107_l0]
    refine f_seq ?_
    refine f_seq ?_
    refine f_region ?_
    refine f_op rfl rfl (s_mv (v := .int .i64 v6) rfl) ?_
    refine f_op rfl rfl (s_mv (v := .int .i64 v4) rfl) ?_
    refine f_op rfl rfl (s_lss rfl rfl) ?_
    refine f_nil ?_
    refine f_if (fun h1 => ?_) (fun h1 => ?_)
    · skip
      refine f_know 36 rfl (dec_true h1) ?_
      refine f_condT rfl ?_
      refine f_skip ?_
      refine f_block ?_
      refine f_seq ?_
      refine f_region ?_
      refine f_op rfl rfl (s_mv (v := .str v1) rfl) ?_
      refine f_op rfl rfl (s_mv (v := .str v2) rfl) ?_
      refine o_bind ?_; intro p2 hp2
      refine f_op rfl rfl (s_callF rfl ok160 (sim160 hp2)) ?_
      refine f_op rfl rfl (s_as (v := .int .i64 p2.1) rfl) ?_
      refine f_nil ?_
      refine f_seq ?_
      refine f_seq ?_
      refine f_region ?_
      refine f_op rfl rfl (s_mv (v := .int .i64 p2.1) rfl) ?_
      refine f_op rfl rfl (s_lss rfl rfl) ?_
      refine f_nil ?_
      refine f_if (fun h3 => ?_) (fun h3 => ?_)
      · skip
        refine f_know 41 rfl (dec_true h3) ?_
        refine f_condT rfl ?_
        refine f_exit rfl ?_
        refine f_keep [0, 9, 10] ?_
        exact s107_j2 v1 v5 v6 p2.2
      · skip
        refine f_know 41 rfl (dec_false h3) ?_
        refine f_condF rfl ?_
        refine f_skip ?_
        refine f_seq ?_
        refine f_region ?_
        refine f_op rfl rfl (s_mv (v := .sl v5) rfl) ?_
        refine f_op rfl rfl (s_mv (v := .int .i64 v6) rfl) ?_
        refine f_op rfl rfl (s_mv (v := .str v1) rfl) ?_
        refine f_op rfl rfl (s_mv (v := .int .i64 p2.1) rfl) ?_
        refine f_op rfl rfl (s_mv (v := .int .i64 v3) rfl) ?_
        refine f_op rfl rfl (s_add rfl rfl) ?_
        refine o_ck fun g4 => ?_
        refine f_op rfl rfl (s_sliceStr Tryz.underlying9 rfl rfl rfl g4) ?_
        refine o_ck fun g5 => ?_
        refine f_op rfl rfl (s_idx Tryz.underlying38 ty9 rfl rfl g5) ?_
        refine o_bind ?_; intro H6 hH6
        refine f_op rfl rfl (s_store (s := 1) ty9 rfl rfl rfl hH6) ?_
        refine f_nil ?_
        refine f_seq ?_
        refine f_region ?_
        refine f_op rfl rfl (s_mv (v := .str v1) rfl) ?_
        refine f_op rfl rfl (s_mv (v := .int .i64 p2.1) rfl) ?_
        refine f_op rfl rfl (s_mv (v := .str v2) rfl) ?_
        refine f_op rfl rfl (s_lenStr rfl Tryz.underlying9 rfl) ?_
        refine f_op rfl rfl (s_add rfl rfl) ?_
        refine o_ck fun g7 => ?_
        refine f_op rfl rfl (s_sliceStr Tryz.underlying9 rfl rfl rfl g7) ?_
        refine f_op rfl rfl (s_as (v := .str (v1.extract (w64 (p2.1 + (v2.size : Int)) : Int).toNat ((v1.size : Int) : Int).toNat)) rfl) ?_
        refine f_nil ?_
        refine f_region ?_
        refine f_op rfl rfl (s_mv (v := .int .i64 v6) rfl) ?_
        refine f_op rfl rfl (s_add rfl rfl) ?_
        refine f_op rfl rfl (s_as (v := .int .i64 (w64 (v6 + 1))) rfl) ?_
        refine f_nil ?_
        refine f_inBlock ?_
        refine f_inLoop ?_
        refine f_keep [0, 1, 2, 3, 9, 10] ?_
        exact ih (v1.extract (w64 (p2.1 + (v2.size : Int)) : Int).toNat ((v1.size : Int) : Int).toNat) v2 v3 v4 v5 (w64 (v6 + 1)) H6
    · skip
      refine f_know 36 rfl (dec_false h1) ?_
      refine f_condF rfl ?_
      refine f_exit rfl ?_
      refine f_keep [0, 9, 10] ?_
      exact s107_j2 v1 v5 v6 H

theorem s107_j1 (v1 : ByteArray) (v2 : ByteArray) (v3 : Int) (v4 : Int) (H : Hp) : Fin Tryz.prog Tryz.f107 ret107 66 (todoAt (bodyOf Tryz.f107) [1, 1, 1, 1] []) [(0, .str v1), (1, .str v2), (2, .int .i64 v3), (3, .int .i64 v4)] H (r107_j1 v1 v2 v3 v4 H) := by
  unfold r107_j1
  refine f_seq ?_
  refine f_region ?_
  refine f_op rfl rfl (s_mv (v := .int .i64 v4) rfl) ?_
  refine f_op rfl rfl (s_mv (v := .str v1) rfl) ?_
  refine f_op rfl rfl (s_lenStr rfl Tryz.underlying9 rfl) ?_
  refine f_op rfl rfl (s_add rfl rfl) ?_
  refine f_op rfl rfl (s_min2 rfl rfl) ?_
  refine f_op rfl rfl (s_as (v := .int .i64 (if (w64 ((v1.size : Int) + 1)) < v4 then (w64 ((v1.size : Int) + 1)) else v4)) rfl) ?_
  refine f_nil ?_
  refine f_seq ?_
  refine f_region ?_
  refine f_op rfl rfl (s_mv (v := .int .i64 (if (w64 ((v1.size : Int) + 1)) < v4 then (w64 ((v1.size : Int) + 1)) else v4)) rfl) ?_
  refine o_ck fun g1 => ?_
  refine f_op rfl rfl (s_makeSlice Tryz.underlying38 ty9 rfl rfl (by decide) (by decide) rfl rfl g1) ?_
  refine f_op rfl rfl (s_as (v := .sl ⟨false, H.n, 0, ((if (w64 ((v1.size : Int) + 1)) < v4 then (w64 ((v1.size : Int) + 1)) else v4) : Int).toNat, ((if (w64 ((v1.size : Int) + 1)) < v4 then (w64 ((v1.size : Int) + 1)) else v4) : Int).toNat, 0⟩) rfl) ?_
  refine o_hp ?_; intro H2 hH2
  refine f_nil ?_
  refine f_seq ?_
  refine f_region ?_
  refine f_op rfl rfl (s_mv (v := .int .i64 (if (w64 ((v1.size : Int) + 1)) < v4 then (w64 ((v1.size : Int) + 1)) else v4)) rfl) ?_
  refine f_op rfl rfl (s_sub rfl rfl) ?_
  refine f_op rfl rfl (s_as (v := .int .i64 (w64 ((if (w64 ((v1.size : Int) + 1)) < v4 then (w64 ((v1.size : Int) + 1)) else v4) - 1))) rfl) ?_
  refine f_nil ?_
  refine f_seq ?_
  refine f_region ?_
  refine f_op rfl rfl (s_as (v := .int .i64 0) rfl) ?_
  refine f_nil ?_
  refine f_seq ?_
  refine f_block ?_
  refine f_loop ?_
  refine f_keep [0, 1, 2, 3, 9, 10] ?_
  exact s107_l0 FUEL v1 v2 v3 (w64 ((if (w64 ((v1.size : Int) + 1)) < v4 then (w64 ((v1.size : Int) + 1)) else v4) - 1)) ⟨false, H.n, 0, ((if (w64 ((v1.size : Int) + 1)) < v4 then (w64 ((v1.size : Int) + 1)) else v4) : Int).toNat, ((if (w64 ((v1.size : Int) + 1)) < v4 then (w64 ((v1.size : Int) + 1)) else v4) : Int).toNat, 0⟩ 0 H2

theorem sim107 {a0 : ByteArray} {a1 : ByteArray} {a2 : Int} {a3 : Int} {H : Hp} {p : Sl × Hp} (h : r107 a0 a1 a2 a3 H = some p) : CallSim Tryz.prog 107 [.str a0, .str a1, .int .i64 a2, .int .i64 a3] H (.sl p.1) p.2 := by
  refine callSim (fn := Tryz.f107) (ret := ret107) Tryz.func107 rfl Tryz.ntmps107 rfl ?_ h
  unfold r107
  refine f_seq ?_
  refine f_region ?_
  refine f_op rfl rfl (s_as (v := .sl ⟨true, 0, 0, 0, 0, 0⟩) rfl) ?_
  refine f_nil ?_
  refine f_seq ?_
  refine f_seq ?_
  refine f_region ?_
  refine f_op rfl rfl (s_mv (v := .int .i64 a3) rfl) ?_
  refine f_op rfl rfl (s_eql rfl rfl) ?_
  refine f_nil ?_
  refine f_if (fun h1 => ?_) (fun h1 => ?_)
  · skip
    refine f_know 13 rfl (dec_true h1) ?_
    refine f_condT rfl ?_
    refine f_seq ?_
    refine f_region ?_
    refine f_op rfl rfl (s_as (v := .sl ⟨true, 0, 0, 0, 0, 0⟩) rfl) ?_
    refine f_nil ?_
    exact f_ret (.tmp rfl (.nil)) rfl
  · skip
    refine f_know 13 rfl (dec_false h1) ?_
    refine f_condF rfl ?_
    refine f_skip ?_
    refine f_seq ?_
    refine f_seq ?_
    refine f_region ?_
    refine f_op rfl rfl (s_mv (v := .str a1) rfl) ?_
    refine f_op rfl rfl (s_eqStr rfl rfl) ?_
    refine f_nil ?_
    refine f_if (fun h2 => ?_) (fun h2 => ?_)
    · skip
      refine f_know 15 rfl (bool_T h2) ?_
      refine f_condT rfl ?_
      refine f_seq ?_
      refine f_region ?_
      refine f_op rfl rfl (s_mv (v := .str a0) rfl) ?_
      refine f_op rfl rfl (s_mv (v := .int .i64 a3) rfl) ?_
      exact o_none
    · skip
      refine f_know 15 rfl (bool_F h2) ?_
      refine f_condF rfl ?_
      refine f_skip ?_
      refine f_seq ?_
      refine f_seq ?_
      refine f_region ?_
      refine f_op rfl rfl (s_mv (v := .int .i64 a3) rfl) ?_
      refine f_op rfl rfl (s_lss rfl rfl) ?_
      refine f_nil ?_
      refine f_if (fun h3 => ?_) (fun h3 => ?_)
      · skip
        refine f_know 20 rfl (dec_true h3) ?_
        refine f_condT rfl ?_
        refine f_region ?_
        refine f_op rfl rfl (s_mv (v := .str a0) rfl) ?_
        refine f_op rfl rfl (s_mv (v := .str a1) rfl) ?_
        refine o_bind ?_; intro p4 hp4
        refine f_op rfl rfl (s_callF rfl ok159 (sim159 hp4)) ?_
        refine f_op rfl rfl (s_add rfl rfl) ?_
        refine f_op rfl rfl (s_as (v := .int .i64 (w64 (p4.1 + 1))) rfl) ?_
        refine f_nil ?_
        refine f_keep [0, 1, 2, 3] ?_
        exact s107_j1 a0 a1 a2 (w64 (p4.1 + 1)) p4.2
      · skip
        refine f_know 20 rfl (dec_false h3) ?_
        refine f_condF rfl ?_
        refine f_skip ?_
        refine f_keep [0, 1, 2, 3] ?_
        exact s107_j1 a0 a1 a2 a3 H

/- 79 strings.Split -/
theorem ok79 : FnOk Tryz.prog 79 := ⟨⟨Tryz.f79, Tryz.func79, by kernel_rfl, rfl⟩⟩
theorem sim79 {a0 : ByteArray} {a1 : ByteArray} {H : Hp} {p : Sl × Hp} (h : r79 a0 a1 H = some p) : CallSim Tryz.prog 79 [.str a0, .str a1] H (.sl p.1) p.2 := by
  refine callSim (fn := Tryz.f79) (ret := ret79) Tryz.func79 rfl Tryz.ntmps79 rfl ?_ h
  unfold r79
  refine f_seq ?_
  refine f_region ?_
  refine f_op rfl rfl (s_as (v := .sl ⟨true, 0, 0, 0, 0, 0⟩) rfl) ?_
  refine f_nil ?_
  refine f_seq ?_
  refine f_region ?_
  refine f_op rfl rfl (s_mv (v := .str a0) rfl) ?_
  refine f_op rfl rfl (s_mv (v := .str a1) rfl) ?_
  refine o_bind ?_; intro p1 hp1
  refine f_op rfl rfl (s_callF rfl ok107 (sim107 hp1)) ?_
  refine f_op rfl rfl (s_as (v := .sl p1.1) rfl) ?_
  refine f_nil ?_
  exact f_ret (.tmp rfl (.nil)) rfl

/- 161 slices.Index[[]string,string] -/
theorem ok161 : FnOk Tryz.prog 161 := ⟨⟨Tryz.f161, Tryz.func161, by kernel_rfl, rfl⟩⟩
theorem s161_l0 : ∀ (k_ : Nat) (v1 : Sl) (v2 : ByteArray) (v3 : Int) (v4 : Int) (H : Hp), Fin Tryz.prog Tryz.f161 ret161 19 (todoAt (bodyOf Tryz.f161) [1, 0, 1, 0, 0] []) [(0, .sl v1), (1, .str v2), (7, .int .i64 v3), (8, .int .i64 v4)] H (r161_l0 k_ v1 v2 v3 v4 H) := by
  intro k_
  induction k_ with
  | zero => intro _ _ _ _ _; exact f_none
  | succ k_ ih =>
    intro v1 v2 v3 v4 H
    rw [r161_l0]
    refine f_seq ?_
    refine f_region ?_
    refine f_op rfl rfl (s_lss rfl rfl) ?_
    refine f_nil ?_
    refine f_seq ?_
    refine f_if (fun h1 => ?_) (fun h1 => ?_)
    · skip
      refine f_know 9 rfl (dec_true h1) ?_
      refine f_condT rfl ?_
      refine f_skip ?_
      refine f_seq ?_
      refine f_block ?_
      refine f_seq ?_
      refine f_region ?_
      refine f_op rfl rfl (s_mv (v := .int .i64 v4) rfl) ?_
      refine f_op rfl rfl (s_as (v := .int .i64 v4) rfl) ?_
      refine f_nil ?_
      refine f_seq ?_
      refine f_region ?_
      refine f_op rfl rfl (s_mv (v := .str v2) rfl) ?_
      refine f_op rfl rfl (s_mv (v := .sl v1) rfl) ?_
      refine f_op rfl rfl (s_mv (v := .int .i64 v4) rfl) ?_
      refine o_ck fun g2 => ?_
      refine f_op rfl rfl (s_idx Tryz.underlying38 ty9 rfl rfl g2) ?_
      refine o_bind ?_; intro x3 hx3
      refine f_op rfl rfl (s_load Tryz.underlying9 rfl rfl (ldStr_eq hx3)) ?_
      refine f_op rfl rfl (s_eqStr rfl rfl) ?_
      refine f_nil ?_
      refine f_if (fun h4 => ?_) (fun h4 => ?_)
      · skip
        refine f_know 16 rfl (bool_T h4) ?_
        refine f_condT rfl ?_
        refine f_seq ?_
        refine f_region ?_
        refine f_op rfl rfl (s_mv (v := .int .i64 v4) rfl) ?_
        refine f_op rfl rfl (s_as (v := .int .i64 v4) rfl) ?_
        refine f_nil ?_
        exact f_ret (.tmp rfl (.nil)) rfl
      · skip
        refine f_know 16 rfl (bool_F h4) ?_
        refine f_condF rfl ?_
        refine f_skip ?_
        refine f_inBlock ?_
        refine f_region ?_
        refine f_op rfl rfl (s_add rfl rfl) ?_
        refine f_op rfl rfl (s_mv (v := .int .i64 (w64 (v4 + 1))) rfl) ?_
        refine f_nil ?_
        refine f_inLoop ?_
        refine f_keep [0, 1, 7, 8] ?_
        exact ih v1 v2 v3 (w64 (v4 + 1)) H
    · skip
      refine f_know 9 rfl (dec_false h1) ?_
      refine f_condF rfl ?_
      refine f_exit rfl ?_
      refine f_seq ?_
      refine f_region ?_
      refine f_op rfl rfl (s_as (v := .int .i64 (-1)) rfl) ?_
      refine f_nil ?_
      exact f_ret (.tmp rfl (.nil)) rfl

theorem sim161 {a0 : Sl} {a1 : ByteArray} {H : Hp} {p : Int × Hp} (h : r161 a0 a1 H = some p) : CallSim Tryz.prog 161 [.sl a0, .str a1] H (.int .i64 p.1) p.2 := by
  refine callSim (fn := Tryz.f161) (ret := ret161) Tryz.func161 rfl Tryz.ntmps161 rfl ?_ h
  unfold r161
  refine f_seq ?_
  refine f_region ?_
  refine f_op rfl rfl (s_as (v := .int .i64 0) rfl) ?_
  refine f_nil ?_
  refine f_seq ?_
  refine f_seq ?_
  refine f_region ?_
  refine f_op rfl rfl (s_mv (v := .sl a0) rfl) ?_
  refine f_op rfl rfl (s_lenS rfl Tryz.underlying38 rfl) ?_
  refine f_op rfl rfl (s_mv (v := .int .i64 0) rfl) ?_
  refine f_nil ?_
  refine f_block ?_
  refine f_loop ?_
  refine f_keep [0, 1, 7, 8] ?_
  exact s161_l0 FUEL a0 a1 (a0.len : Int) 0 H

/- 108 slices.Contains[[]string,string] -/
theorem ok108 : FnOk Tryz.prog 108 := ⟨⟨Tryz.f108, Tryz.func108, by kernel_rfl, rfl⟩⟩
theorem sim108 {a0 : Sl} {a1 : ByteArray} {H : Hp} {p : Bool × Hp} (h : r108 a0 a1 H = some p) : CallSim Tryz.prog 108 [.sl a0, .str a1] H (.bool p.1) p.2 := by
  refine callSim (fn := Tryz.f108) (ret := ret108) Tryz.func108 rfl Tryz.ntmps108 rfl ?_ h
  unfold r108
  refine f_seq ?_
  refine f_region ?_
  refine f_op rfl rfl (s_as (v := .bool false) rfl) ?_
  refine f_nil ?_
  refine f_seq ?_
  refine f_region ?_
  refine f_op rfl rfl (s_mv (v := .sl a0) rfl) ?_
  refine f_op rfl rfl (s_mv (v := .str a1) rfl) ?_
  refine o_bind ?_; intro p1 hp1
  refine f_op rfl rfl (s_callF rfl ok161 (sim161 hp1)) ?_
  refine f_op rfl rfl (s_geq rfl rfl) ?_
  refine f_op rfl rfl (s_as (v := .bool (decide (0 ≤ p1.1))) rfl) ?_
  refine f_nil ?_
  exact f_ret (.tmp rfl (.nil)) rfl

/- 162 slices.IndexFunc[[]byte,byte] -/
theorem ok162 : FnOk Tryz.prog 162 := ⟨⟨Tryz.f162, Tryz.func162, by kernel_rfl, rfl⟩⟩
theorem s162_l0 {app : App} (happ : AppSim Tryz.prog app) : ∀ (k_ : Nat) (v1 : Sl) (v2 : AV) (v3 : Int) (v4 : Int) (H : Hp), Fin Tryz.prog Tryz.f162 ret162 19 (todoAt (bodyOf Tryz.f162) [1, 0, 1, 0, 0] []) [(0, .sl v1), (1, v2), (7, .int .i64 v3), (8, .int .i64 v4)] H (r162_l0 app k_ v1 v2 v3 v4 H) := by
  intro k_
  induction k_ with
  | zero => intro _ _ _ _ _; exact f_none
  | succ k_ ih =>
    intro v1 v2 v3 v4 H
    rw [r162_l0]
    refine f_seq ?_
    refine f_region ?_
    refine f_op rfl rfl (s_lss rfl rfl) ?_
    refine f_nil ?_
    refine f_seq ?_
    refine f_if (fun h1 => ?_) (fun h1 => ?_)
    · skip
      refine f_know 9 rfl (dec_true h1) ?_
      refine f_condT rfl ?_
      refine f_skip ?_
      refine f_seq ?_
      refine f_block ?_
      refine f_seq ?_
      refine f_region ?_
      refine f_op rfl rfl (s_mv (v := .int .i64 v4) rfl) ?_
      refine f_op rfl rfl (s_as (v := .int .i64 v4) rfl) ?_
      refine f_nil ?_
      refine f_seq ?_
      refine f_region ?_
      refine f_op rfl rfl (s_mv (v := v2) rfl) ?_
      refine f_op rfl rfl (s_mv (v := .sl v1) rfl) ?_
      refine f_op rfl rfl (s_mv (v := .int .i64 v4) rfl) ?_
      refine o_ck fun g2 => ?_
      refine f_op rfl rfl (s_idx Tryz.underlying40 ty5 rfl rfl g2) ?_
      refine o_bind ?_; intro x3 hx3
      refine f_op rfl rfl (s_load Tryz.underlying5 rfl rfl (ldI_eq hx3)) ?_
      refine o_bind ?_; intro p4 hp4
      refine o_bind ?_; intro x5 hx5
      refine f_op rfl rfl (s_callv happ rfl rfl hp4) ?_
      refine o_know 16 rfl (asB_eq hx5) ?_
      refine f_nil ?_
      refine f_if (fun h6 => ?_) (fun h6 => ?_)
      · skip
        refine f_know 16 rfl (bool_T h6) ?_
        refine f_condT rfl ?_
        refine f_seq ?_
        refine f_region ?_
        refine f_op rfl rfl (s_mv (v := .int .i64 v4) rfl) ?_
        refine f_op rfl rfl (s_as (v := .int .i64 v4) rfl) ?_
        refine f_nil ?_
        exact f_ret (.tmp rfl (.nil)) rfl
      · skip
        refine f_know 16 rfl (bool_F h6) ?_
        refine f_condF rfl ?_
        refine f_skip ?_
        refine f_inBlock ?_
        refine f_region ?_
        refine f_op rfl rfl (s_add rfl rfl) ?_
        refine f_op rfl rfl (s_mv (v := .int .i64 (w64 (v4 + 1))) rfl) ?_
        refine f_nil ?_
        refine f_inLoop ?_
        refine f_keep [0, 1, 7, 8] ?_
        exact ih v1 v2 v3 (w64 (v4 + 1)) p4.2
    · skip
      refine f_know 9 rfl (dec_false h1) ?_
      refine f_condF rfl ?_
      refine f_exit rfl ?_
      refine f_seq ?_
      refine f_region ?_
      refine f_op rfl rfl (s_as (v := .int .i64 (-1)) rfl) ?_
      refine f_nil ?_
      exact f_ret (.tmp rfl (.nil)) rfl

theorem sim162 {app : App} (happ : AppSim Tryz.prog app) {a0 : Sl} {a1 : AV} {H : Hp} {p : Int × Hp} (h : r162 app a0 a1 H = some p) : CallSim Tryz.prog 162 [.sl a0, a1] H (.int .i64 p.1) p.2 := by
  refine callSim (fn := Tryz.f162) (ret := ret162) Tryz.func162 rfl Tryz.ntmps162 rfl ?_ h
  unfold r162
  refine f_seq ?_
  refine f_region ?_
  refine f_op rfl rfl (s_as (v := .int .i64 0) rfl) ?_
  refine f_nil ?_
  refine f_seq ?_
  refine f_seq ?_
  refine f_region ?_
  refine f_op rfl rfl (s_mv (v := .sl a0) rfl) ?_
  refine f_op rfl rfl (s_lenS rfl Tryz.underlying40 rfl) ?_
  refine f_op rfl rfl (s_mv (v := .int .i64 0) rfl) ?_
  refine f_nil ?_
  refine f_block ?_
  refine f_loop ?_
  refine f_keep [0, 1, 7, 8] ?_
  exact s162_l0 happ FUEL a0 a1 (a0.len : Int) 0 H

/- 109 slices.ContainsFunc[[]byte,byte] -/
theorem ok109 : FnOk Tryz.prog 109 := ⟨⟨Tryz.f109, Tryz.func109, by kernel_rfl, rfl⟩⟩
theorem sim109 {app : App} (happ : AppSim Tryz.prog app) {a0 : Sl} {a1 : AV} {H : Hp} {p : Bool × Hp} (h : r109 app a0 a1 H = some p) : CallSim Tryz.prog 109 [.sl a0, a1] H (.bool p.1) p.2 := by
  refine callSim (fn := Tryz.f109) (ret := ret109) Tryz.func109 rfl Tryz.ntmps109 rfl ?_ h
  unfold r109
  refine f_seq ?_
  refine f_region ?_
  refine f_op rfl rfl (s_as (v := .bool false) rfl) ?_
  refine f_nil ?_
  refine f_seq ?_
  refine f_region ?_
  refine f_op rfl rfl (s_mv (v := .sl a0) rfl) ?_
  refine f_op rfl rfl (s_mv (v := a1) rfl) ?_
  refine o_bind ?_; intro p1 hp1
  refine f_op rfl rfl (s_callF rfl ok162 (sim162 happ hp1)) ?_
  refine f_op rfl rfl (s_geq rfl rfl) ?_
  refine f_op rfl rfl (s_as (v := .bool (decide (0 ≤ p1.1))) rfl) ?_
  refine f_nil ?_
  exact f_ret (.tmp rfl (.nil)) rfl

end Go.Lt.P10
