/- PRINTED BY A PROGRAM OF OURS: what each function that 'ChestBooks' reaches computes on the abstract heap, and that the translated code does just that. Nothing is asked of the input. -/
import Derived.Test.YtopildlfbhfghaaGreatDoorG7P2
set_option linter.unusedVariables false
set_option linter.unusedSimpArgs false
set_option maxRecDepth 100000
set_option maxHeartbeats 4000000
namespace Go.Lt.P10
open Go Go.Lt Go.Proofs
/- 34 congou/congoulaw10.awake -/
theorem ok34 : FnOk Tryz.prog 34 := ⟨⟨Tryz.f34, Tryz.func34, by kernel_rfl, rfl⟩⟩
theorem sim34 {app : App} (happ : AppSim Tryz.prog app) {H : Hp} {p : Bool × Hp} (h : r34 app H = some p) : CallSim Tryz.prog 34 [] H (.bool p.1) p.2 := by
  refine callSim (fn := Tryz.f34) (ret := ret34) Tryz.func34 rfl Tryz.ntmps34 rfl ?_ h
  unfold r34
  refine f_seq ?_
  refine f_region ?_
  refine f_op rfl rfl (s_as (v := .bool false) rfl) ?_
  refine f_nil ?_
  refine f_seq ?_
  refine f_region ?_
  refine o_bind ?_; intro p1 hp1
  refine f_op rfl rfl (s_callF rfl ok47 (sim47 hp1)) ?_
  refine f_op rfl rfl (s_as (v := .ptr p1.1.1 p1.1.2) rfl) ?_
  refine f_nil ?_
  refine f_seq ?_
  refine f_region ?_
  refine f_op rfl rfl (s_mv (v := .ptr p1.1.1 p1.1.2) rfl) ?_
  refine o_bind ?_; intro p2 hp2
  refine f_op rfl rfl (s_callF rfl ok20 (sim20 happ hp2)) ?_
  refine f_op rfl rfl (s_mv (v := .tup [.str p2.1.1, .int .i64 p2.1.2]) rfl) ?_
  refine f_op rfl rfl (s_extract (r := .str p2.1.1) rfl rfl) ?_
  refine f_op rfl rfl (s_extract (r := .int .i64 p2.1.2) rfl rfl) ?_
  refine f_op rfl rfl (s_as (v := .str p2.1.1) rfl) ?_
  refine f_op rfl rfl (s_as (v := .int .i64 p2.1.2) rfl) ?_
  refine f_nil ?_
  refine f_seq ?_
  refine f_region ?_
  refine f_op rfl rfl (s_mv (v := .ptr p1.1.1 p1.1.2) rfl) ?_
  refine o_bind ?_; intro p3 hp3
  refine f_op rfl rfl (s_callF rfl ok14 (sim14 happ hp3)) ?_
  refine f_op rfl rfl (s_mv (v := .tup [.str p3.1.1, .int .i64 p3.1.2]) rfl) ?_
  refine f_op rfl rfl (s_extract (r := .str p3.1.1) rfl rfl) ?_
  refine f_op rfl rfl (s_extract (r := .int .i64 p3.1.2) rfl rfl) ?_
  refine f_op rfl rfl (s_as (v := .str p3.1.1) rfl) ?_
  refine f_op rfl rfl (s_as (v := .int .i64 p3.1.2) rfl) ?_
  refine f_nil ?_
  refine f_seq ?_
  refine f_region ?_
  refine f_op rfl rfl (s_mv (v := .int .i64 p2.1.2) rfl) ?_
  refine f_op rfl rfl (s_eql rfl rfl) ?_
  refine f_op rfl rfl (s_mv (v := .bool (decide (p2.1.2 = 0))) rfl) ?_
  refine o_if (fun h4 => ?_) (fun h4 => ?_)
  · skip
    refine o_know 19 rfl (dec_true h4) ?_
    refine f_op rfl rfl (s_mv (v := .int .i64 p3.1.2) rfl) ?_
    refine f_op rfl rfl (s_eql rfl rfl) ?_
    refine f_op rfl rfl (s_pickT (v := .bool (decide (p3.1.2 = 0))) rfl rfl) ?_
    refine f_op rfl rfl (s_mv (v := .bool (decide (p3.1.2 = 0))) rfl) ?_
    refine o_if (fun h5 => ?_) (fun h5 => ?_)
    · skip
      refine o_know 23 rfl (dec_true h5) ?_
      refine f_op rfl rfl (s_mv (v := .str p2.1.1) rfl) ?_
      refine f_op rfl rfl (s_eqStr rfl rfl) ?_
      refine f_op rfl rfl (s_pickT (v := .bool (strEq p2.1.1 (ByteArray.mk #[108, 101, 97, 102]))) rfl rfl) ?_
      refine f_op rfl rfl (s_mv (v := .bool (strEq p2.1.1 (ByteArray.mk #[108, 101, 97, 102]))) rfl) ?_
      refine o_if (fun h6 => ?_) (fun h6 => ?_)
      · skip
        refine o_know 27 rfl (bool_T h6) ?_
        refine f_op rfl rfl (s_mv (v := .str p3.1.1) rfl) ?_
        refine f_op rfl rfl (s_eqStr rfl rfl) ?_
        refine f_op rfl rfl (s_pickT (v := .bool (strEq p3.1.1 (ByteArray.mk #[103, 97, 112, 32, 48]))) rfl rfl) ?_
        refine f_op rfl rfl (s_mv (v := .bool (strEq p3.1.1 (ByteArray.mk #[103, 97, 112, 32, 48]))) rfl) ?_
        refine o_if (fun h7 => ?_) (fun h7 => ?_)
        · skip
          refine o_know 31 rfl (bool_T h7) ?_
          refine f_op rfl rfl (s_mv (v := .ptr p1.1.1 p1.1.2) rfl) ?_
          refine o_bind ?_; intro p8 hp8
          refine f_op rfl rfl (s_callF rfl ok38 (sim38 hp8)) ?_
          refine f_op rfl rfl (s_eql rfl rfl) ?_
          refine f_op rfl rfl (s_pickT (v := .bool (decide (p8.1 = 1))) rfl rfl) ?_
          refine f_op rfl rfl (s_as (v := .bool (decide (p8.1 = 1))) rfl) ?_
          refine f_nil ?_
          exact f_ret (.tmp rfl (.nil)) rfl
        · skip
          refine o_know 31 rfl (bool_F h7) ?_
          refine f_no rfl rfl ?_
          refine f_no rfl rfl ?_
          refine f_no rfl rfl ?_
          refine f_op rfl rfl (s_pickF (v := .bool false) rfl rfl) ?_
          refine f_op rfl rfl (s_as (v := .bool false) rfl) ?_
          refine f_nil ?_
          exact f_ret (.tmp rfl (.nil)) rfl
      · skip
        refine o_know 27 rfl (bool_F h6) ?_
        refine f_no rfl rfl ?_
        refine f_no rfl rfl ?_
        refine f_op rfl rfl (s_pickF (v := .bool false) rfl rfl) ?_
        refine f_op rfl rfl (s_mv (v := .bool false) rfl) ?_
        refine f_no rfl rfl ?_
        refine f_no rfl rfl ?_
        refine f_no rfl rfl ?_
        refine f_op rfl rfl (s_pickF (v := .bool false) rfl rfl) ?_
        refine f_op rfl rfl (s_as (v := .bool false) rfl) ?_
        refine f_nil ?_
        exact f_ret (.tmp rfl (.nil)) rfl
    · skip
      refine o_know 23 rfl (dec_false h5) ?_
      refine f_no rfl rfl ?_
      refine f_no rfl rfl ?_
      refine f_op rfl rfl (s_pickF (v := .bool false) rfl rfl) ?_
      refine f_op rfl rfl (s_mv (v := .bool false) rfl) ?_
      refine f_no rfl rfl ?_
      refine f_no rfl rfl ?_
      refine f_op rfl rfl (s_pickF (v := .bool false) rfl rfl) ?_
      refine f_op rfl rfl (s_mv (v := .bool false) rfl) ?_
      refine f_no rfl rfl ?_
      refine f_no rfl rfl ?_
      refine f_no rfl rfl ?_
      refine f_op rfl rfl (s_pickF (v := .bool false) rfl rfl) ?_
      refine f_op rfl rfl (s_as (v := .bool false) rfl) ?_
      refine f_nil ?_
      exact f_ret (.tmp rfl (.nil)) rfl
  · skip
    refine o_know 19 rfl (dec_false h4) ?_
    refine f_no rfl rfl ?_
    refine f_no rfl rfl ?_
    refine f_op rfl rfl (s_pickF (v := .bool false) rfl rfl) ?_
    refine f_op rfl rfl (s_mv (v := .bool false) rfl) ?_
    refine f_no rfl rfl ?_
    refine f_no rfl rfl ?_
    refine f_op rfl rfl (s_pickF (v := .bool false) rfl rfl) ?_
    refine f_op rfl rfl (s_mv (v := .bool false) rfl) ?_
    refine f_no rfl rfl ?_
    refine f_no rfl rfl ?_
    refine f_op rfl rfl (s_pickF (v := .bool false) rfl rfl) ?_
    refine f_op rfl rfl (s_mv (v := .bool false) rfl) ?_
    refine f_no rfl rfl ?_
    refine f_no rfl rfl ?_
    refine f_no rfl rfl ?_
    refine f_op rfl rfl (s_pickF (v := .bool false) rfl rfl) ?_
    refine f_op rfl rfl (s_as (v := .bool false) rfl) ?_
    refine f_nil ?_
    exact f_ret (.tmp rfl (.nil)) rfl

/- 35 (*congou/chest.Chest).Bytes -/
theorem ok35 : FnOk Tryz.prog 35 := ⟨⟨Tryz.f35, Tryz.func35, by kernel_rfl, rfl⟩⟩
theorem s35_l0 : ∀ (k_ : Nat) (v1 : Sl) (v2 : Sl) (v3 : Int) (v4 : Int) (H : Hp), Fin Tryz.prog Tryz.f35 ret35 34 (todoAt (bodyOf Tryz.f35) [1, 1, 1, 0, 1, 0, 0] []) [(3, .sl v1), (12, .sl v2), (13, .int .i64 v3), (14, .int .i64 v4)] H (r35_l0 k_ v1 v2 v3 v4 H) := by
  intro k_
  induction k_ with
  | zero => intro _ _ _ _ _; exact f_none
  | succ k_ ih =>
    intro v1 v2 v3 v4 H
    rw [r35_l0]
    refine f_seq ?_
    refine f_region ?_
    refine f_op rfl rfl (s_lss rfl rfl) ?_
    refine f_nil ?_
    refine f_seq ?_
    refine f_if (fun h1 => ?_) (fun h1 => ?_)
    · skip
      refine f_know 15 rfl (dec_true h1) ?_
      refine f_condT rfl ?_
      refine f_skip ?_
      refine f_seq ?_
      refine f_block ?_
      refine f_seq ?_
      refine f_region ?_
      refine o_ck fun g2 => ?_
      refine f_op rfl rfl (s_idx Tryz.underlying116 ty120 rfl rfl g2) ?_
      refine o_bind ?_; intro x3 hx3
      refine o_bind ?_; intro x4 hx4
      refine o_bind ?_; intro x5 hx5
      refine f_op rfl rfl (s_loads Tryz.underlying120 rfl ty120 rfl (lds_cons (ldStr_eq hx3) (lds_cons (ldI_eq hx4) (lds_cons (ldP_eq hx5) (lds_nil))))) ?_
      refine f_op rfl rfl (s_alloc (zs := [.str (ByteArray.mk #[]), .int .i64 0, .nilptr]) ty120 rfl rfl) ?_
      refine o_bind ?_; intro H6 hH6
      refine f_op rfl rfl (s_stores ty120 rfl rfl rfl rfl hH6 (Nat.le_of_eq (sts_mono hH6).symm)) ?_
      refine f_nil ?_
      refine f_seq ?_
      refine f_region ?_
      refine f_op rfl rfl (s_mv (v := .sl v1) rfl) ?_
      refine f_op rfl rfl (s_fieldAddr Tryz.underlying120 rfl ty3 rfl) ?_
      refine o_bind ?_; intro x7 hx7
      refine f_op rfl rfl (s_load Tryz.underlying3 rfl rfl (ldI_eq hx7)) ?_
      refine f_op rfl rfl (s_convInt Tryz.underlying3 Tryz.underlying5 rfl) ?_
      refine f_op rfl rfl (s_fieldAddr Tryz.underlying120 rfl ty9 rfl) ?_
      refine o_bind ?_; intro x8 hx8
      refine f_op rfl rfl (s_load Tryz.underlying9 rfl rfl (ldStr_eq hx8)) ?_
      refine f_op rfl rfl (s_lenStr rfl Tryz.underlying9 rfl) ?_
      refine f_op rfl rfl (s_convInt Tryz.underlying3 Tryz.underlying5 rfl) ?_
      refine f_op rfl rfl (s_buildSlice (cs := [.int .u8 (IntKind.wrap .u8 (x7)), .int .u8 (IntKind.wrap .u8 ((x8.size : Int)))]) Tryz.underlying75 ty5 (by decide) (by decide) rfl (by decide) rfl) ?_
      refine o_bind ?_; intro x9 hx9
      refine f_op rfl rfl (s_ap rfl rfl Tryz.underlying75 Tryz.underlying75 ty5 rfl rfl rfl rfl rfl rfl rfl hx9) ?_
      refine f_op rfl rfl (s_as (v := .sl x9.1) rfl) ?_
      refine f_nil ?_
      refine f_region ?_
      refine f_op rfl rfl (s_mv (v := .sl x9.1) rfl) ?_
      refine f_op rfl rfl (s_fieldAddr Tryz.underlying120 rfl ty9 rfl) ?_
      refine o_bind ?_; intro x10 hx10
      refine f_op rfl rfl (s_load Tryz.underlying9 rfl rfl (ldStr_eq hx10)) ?_
      refine o_bind ?_; intro x11 hx11
      refine f_op rfl rfl (s_appendStr rfl rfl Tryz.underlying75 Tryz.underlying9 ty5 rfl (by decide) rfl (by decide) rfl rfl hx11) ?_
      refine f_op rfl rfl (s_as (v := .sl x11.1) rfl) ?_
      refine f_nil ?_
      refine f_inBlock ?_
      refine f_region ?_
      refine f_op rfl rfl (s_add rfl rfl) ?_
      refine f_op rfl rfl (s_mv (v := .int .i64 (w64 (v4 + 1))) rfl) ?_
      refine f_nil ?_
      refine f_inLoop ?_
      refine f_keep [3, 12, 13, 14] ?_
      exact ih x11.1 v2 v3 (w64 (v4 + 1)) x11.2
    · skip
      refine f_know 15 rfl (dec_false h1) ?_
      refine f_condF rfl ?_
      refine f_exit rfl ?_
      refine f_seq ?_
      refine f_region ?_
      refine f_op rfl rfl (s_mv (v := .sl v1) rfl) ?_
      refine f_op rfl rfl (s_as (v := .sl v1) rfl) ?_
      refine f_nil ?_
      exact f_ret (.tmp rfl (.nil)) rfl

theorem sim35 {a0b : Nat} {a0o : Nat} {H : Hp} {p : Sl × Hp} (h : r35 a0b a0o H = some p) : CallSim Tryz.prog 35 [.ptr a0b a0o] H (.sl p.1) p.2 := by
  refine callSim (fn := Tryz.f35) (ret := ret35) Tryz.func35 rfl Tryz.ntmps35 rfl ?_ h
  unfold r35
  refine f_seq ?_
  refine f_region ?_
  refine f_op rfl rfl (s_as (v := .sl ⟨true, 0, 0, 0, 0, 0⟩) rfl) ?_
  refine f_nil ?_
  refine f_seq ?_
  refine f_seq ?_
  refine f_region ?_
  refine f_op rfl rfl (s_mv (v := .ptr a0b a0o) rfl) ?_
  refine o_bind ?_; intro p1 hp1
  refine f_op rfl rfl (s_callF rfl ok60 (sim60 hp1)) ?_
  refine f_nil ?_
  refine f_if (fun h2 => ?_) (fun h2 => ?_)
  · skip
    refine f_know 7 rfl (bool_T h2) ?_
    refine f_condT rfl ?_
    refine f_seq ?_
    refine f_region ?_
    refine f_op rfl rfl (s_as (v := .sl ⟨true, 0, 0, 0, 0, 0⟩) rfl) ?_
    refine f_nil ?_
    exact f_ret (.tmp rfl (.nil)) rfl
  · skip
    refine f_know 7 rfl (bool_F h2) ?_
    refine f_condF rfl ?_
    refine f_skip ?_
    refine f_seq ?_
    refine f_region ?_
    refine f_op rfl rfl (s_as (v := .sl ⟨true, 0, 0, 0, 0, 0⟩) rfl) ?_
    refine f_nil ?_
    refine f_seq ?_
    refine f_seq ?_
    refine f_region ?_
    refine f_op rfl rfl (s_mv (v := .ptr a0b a0o) rfl) ?_
    refine f_op rfl rfl (s_nilCheck rfl) ?_
    refine f_op rfl rfl (s_fieldAddr Tryz.underlying118 rfl ty116 rfl) ?_
    refine o_bind ?_; intro x3 hx3
    refine f_op rfl rfl (s_load Tryz.underlying116 rfl rfl (ldSl_eq hx3)) ?_
    refine o_ck fun g4 => ?_
    refine f_op rfl rfl (s_slice Tryz.underlying116 ty120 rfl rfl rfl g4.1 g4.2) ?_
    refine f_op rfl rfl (s_lenS rfl Tryz.underlying116 rfl) ?_
    refine f_op rfl rfl (s_mv (v := .int .i64 0) rfl) ?_
    refine f_nil ?_
    refine f_block ?_
    refine f_loop ?_
    refine f_keep [3, 12, 13, 14] ?_
    exact s35_l0 FUEL ⟨true, 0, 0, 0, 0, 0⟩ (x3.cut 3 (1 : Int).toNat ((x3.len : Int) : Int).toNat) ((x3.cut 3 (1 : Int).toNat ((x3.len : Int) : Int).toNat).len : Int) 0 p1.2

/- 36 congou/chest.Read -/
theorem ok36 : FnOk Tryz.prog 36 := ⟨⟨Tryz.f36, Tryz.func36, by kernel_rfl, rfl⟩⟩
theorem s36_j2 {app : App} (happ : AppSim Tryz.prog app) (kt0 : Sl → Nat → Nat → Hp → Option ((AV × Int) × Hp)) (hkt0 : ∀ (v1 : Sl) (v2 : Nat) (v3 : Nat) (H : Hp), Fin Tryz.prog Tryz.f36 ret36 74 (todoAt (bodyOf Tryz.f36) [1, 1, 0, 0, 0] []) [(0, .sl v1), (4, .ptr v2 v3)] H (kt0 v1 v2 v3 H)) (v1 : Sl) (v2 : Nat) (v3 : Nat) (v4 : ByteArray) (v5 : Bool) (H : Hp) : Fin Tryz.prog Tryz.f36 ret36 74 (todoAt (bodyOf Tryz.f36) [1, 1, 0, 0, 0, 1, 0, 1, 1, 1, 0, 1, 1] []) [(0, .sl v1), (4, .ptr v2 v3), (6, .str v4), (64, .bool v5)] H (r36_j2 app kt0 v1 v2 v3 v4 v5 H) := by
  unfold r36_j2
  refine f_if (fun h1 => ?_) (fun h1 => ?_)
  · skip
    refine f_know 64 rfl (bool_T h1) ?_
    refine f_condT rfl ?_
    refine f_seq ?_
    refine f_region ?_
    refine f_op rfl rfl (s_as (v := .nilptr) rfl) ?_
    refine f_op rfl rfl (s_as (v := .int .i64 3) rfl) ?_
    refine f_nil ?_
    exact f_ret (.tmp rfl (.tmp rfl (.nil))) rfl
  · skip
    refine f_know 64 rfl (bool_F h1) ?_
    refine f_condF rfl ?_
    refine f_skip ?_
    refine f_region ?_
    refine f_op rfl rfl (s_mv (v := .sl v1) rfl) ?_
    refine f_op rfl rfl (s_mv (v := .str v4) rfl) ?_
    refine f_op rfl rfl (s_lenStr rfl Tryz.underlying9 rfl) ?_
    refine f_op rfl rfl (s_add rfl rfl) ?_
    refine o_ck fun g2 => ?_
    refine f_op rfl rfl (s_slice Tryz.underlying75 ty5 rfl rfl rfl g2.1 g2.2) ?_
    refine f_op rfl rfl (s_as (v := .sl (v1.cut 1 (w64 (2 + (v4.size : Int)) : Int).toNat ((v1.len : Int) : Int).toNat)) rfl) ?_
    refine f_nil ?_
    refine f_inBlock ?_
    refine f_inLoop ?_
    refine f_keep [0, 4] ?_
    exact hkt0 (v1.cut 1 (w64 (2 + (v4.size : Int)) : Int).toNat ((v1.len : Int) : Int).toNat) v2 v3 H

theorem s36_j1 {app : App} (happ : AppSim Tryz.prog app) (kt0 : Sl → Nat → Nat → Hp → Option ((AV × Int) × Hp)) (hkt0 : ∀ (v1 : Sl) (v2 : Nat) (v3 : Nat) (H : Hp), Fin Tryz.prog Tryz.f36 ret36 74 (todoAt (bodyOf Tryz.f36) [1, 1, 0, 0, 0] []) [(0, .sl v1), (4, .ptr v2 v3)] H (kt0 v1 v2 v3 H)) (v1 : Sl) (v2 : Nat) (v3 : Nat) (v4 : Bool) (H : Hp) : Fin Tryz.prog Tryz.f36 ret36 74 (todoAt (bodyOf Tryz.f36) [1, 1, 0, 0, 0, 1, 0, 0, 1] []) [(0, .sl v1), (4, .ptr v2 v3), (34, .bool v4)] H (r36_j1 app kt0 v1 v2 v3 v4 H) := by
  unfold r36_j1
  refine f_if (fun h1 => ?_) (fun h1 => ?_)
  · skip
    refine f_know 34 rfl (bool_T h1) ?_
    refine f_condT rfl ?_
    refine f_seq ?_
    refine f_region ?_
    refine f_op rfl rfl (s_as (v := .nilptr) rfl) ?_
    refine f_op rfl rfl (s_as (v := .int .i64 3) rfl) ?_
    refine f_nil ?_
    exact f_ret (.tmp rfl (.tmp rfl (.nil))) rfl
  · skip
    refine f_know 34 rfl (bool_F h1) ?_
    refine f_condF rfl ?_
    refine f_skip ?_
    refine f_seq ?_
    refine f_region ?_
    refine f_op rfl rfl (s_mv (v := .ptr v2 v3) rfl) ?_
    refine f_op rfl rfl (s_nilCheck rfl) ?_
    refine f_op rfl rfl (s_fieldAddr Tryz.underlying118 rfl ty116 rfl) ?_
    refine o_bind ?_; intro x2 hx2
    refine f_op rfl rfl (s_load Tryz.underlying116 rfl rfl (ldSl_eq hx2)) ?_
    refine f_op rfl rfl (s_lenS rfl Tryz.underlying116 rfl) ?_
    refine f_op rfl rfl (s_as (v := .int .i64 (x2.len : Int)) rfl) ?_
    refine f_nil ?_
    refine f_seq ?_
    refine f_region ?_
    refine f_op rfl rfl (s_mv (v := .sl v1) rfl) ?_
    refine f_op rfl rfl (s_mv (v := .sl v1) rfl) ?_
    refine o_ck fun g3 => ?_
    refine f_op rfl rfl (s_idx Tryz.underlying75 ty5 rfl rfl g3) ?_
    refine o_bind ?_; intro x4 hx4
    refine f_op rfl rfl (s_load Tryz.underlying5 rfl rfl (ldI_eq hx4)) ?_
    refine f_op rfl rfl (s_convInt Tryz.underlying5 Tryz.underlying3 rfl) ?_
    refine f_op rfl rfl (s_add rfl rfl) ?_
    refine o_ck fun g5 => ?_
    refine f_op rfl rfl (s_slice Tryz.underlying75 ty5 rfl rfl rfl g5.1 g5.2) ?_
    refine o_bind ?_; intro x6 hx6
    refine o_bind ?_; intro x7 hx7
    refine f_op rfl rfl (s_bytesStr Tryz.underlying75 Tryz.underlying9 Tryz.underlying5 rfl hx6 hx7) ?_
    refine f_op rfl rfl (s_as (v := .str (strOfNums x7)) rfl) ?_
    refine f_nil ?_
    refine f_seq ?_
    refine f_seq ?_
    refine f_region ?_
    refine f_op rfl rfl (s_mv (v := .ptr v2 v3) rfl) ?_
    refine f_op rfl rfl (s_mv (v := .str (strOfNums x7)) rfl) ?_
    refine o_bind ?_; intro p8 hp8
    refine f_op rfl rfl (s_callF rfl ok20 (sim20 happ hp8)) ?_
    refine f_op rfl rfl (s_mv (v := .tup [.str p8.1.1, .int .i64 p8.1.2]) rfl) ?_
    refine f_op rfl rfl (s_extract (r := .str p8.1.1) rfl rfl) ?_
    refine f_op rfl rfl (s_extract (r := .int .i64 p8.1.2) rfl rfl) ?_
    refine f_op rfl rfl (s_as (v := .str p8.1.1) rfl) ?_
    refine f_op rfl rfl (s_as (v := .int .i64 p8.1.2) rfl) ?_
    refine f_nil ?_
    refine f_seq ?_
    refine f_region ?_
    refine f_op rfl rfl (s_mv (v := .int .i64 p8.1.2) rfl) ?_
    refine f_op rfl rfl (s_neq rfl rfl) ?_
    refine f_op rfl rfl (s_mv (v := .bool (decide (p8.1.2 ≠ 0))) rfl) ?_
    refine o_if (fun h9 => ?_) (fun h9 => ?_)
    · skip
      refine o_know 56 rfl (dec_true h9) ?_
      refine f_no rfl rfl ?_
      refine f_no rfl rfl ?_
      refine f_no rfl rfl ?_
      refine f_no rfl rfl ?_
      refine f_no rfl rfl ?_
      refine f_no rfl rfl ?_
      refine f_no rfl rfl ?_
      refine f_op rfl rfl (s_pickT (v := .bool true) rfl rfl) ?_
      refine f_nil ?_
      refine f_keep [0, 4, 6, 64] ?_
      exact s36_j2 happ _ hkt0 v1 v2 v3 (strOfNums x7) true p8.2
    · skip
      refine o_know 56 rfl (dec_false h9) ?_
      refine f_op rfl rfl (s_mv (v := .ptr v2 v3) rfl) ?_
      refine f_op rfl rfl (s_nilCheck rfl) ?_
      refine f_op rfl rfl (s_fieldAddr Tryz.underlying118 rfl ty116 rfl) ?_
      refine o_bind ?_; intro x10 hx10
      refine f_op rfl rfl (s_load Tryz.underlying116 rfl rfl (ldSl_eq hx10)) ?_
      refine f_op rfl rfl (s_lenS rfl Tryz.underlying116 rfl) ?_
      refine f_op rfl rfl (s_mv (v := .int .i64 (x2.len : Int)) rfl) ?_
      refine f_op rfl rfl (s_eql rfl rfl) ?_
      refine f_op rfl rfl (s_pickF (v := .bool (decide ((x10.len : Int) = (x2.len : Int)))) rfl rfl) ?_
      refine f_nil ?_
      refine f_keep [0, 4, 6, 64] ?_
      exact s36_j2 happ _ hkt0 v1 v2 v3 (strOfNums x7) (decide ((x10.len : Int) = (x2.len : Int))) p8.2

theorem s36_l0 {app : App} (happ : AppSim Tryz.prog app) : ∀ (k_ : Nat) (v1 : Sl) (v2 : Nat) (v3 : Nat) (H : Hp), Fin Tryz.prog Tryz.f36 ret36 74 (todoAt (bodyOf Tryz.f36) [1, 1, 0, 0, 0] []) [(0, .sl v1), (4, .ptr v2 v3)] H (r36_l0 app k_ v1 v2 v3 H) := by
  intro k_
  induction k_ with
  | zero => intro _ _ _ _; exact f_none
  | succ k_ ih =>
    intro v1 v2 v3 H
    rw [r36_l0]
    refine f_seq ?_
    refine f_seq ?_
    refine f_region ?_
    refine f_op rfl rfl (s_mv (v := .sl v1) rfl) ?_
    refine f_op rfl rfl (s_lenS rfl Tryz.underlying75 rfl) ?_
    refine f_op rfl rfl (s_gtr rfl rfl) ?_
    refine f_nil ?_
    refine f_if (fun h1 => ?_) (fun h1 => ?_)
    · skip
      refine f_know 12 rfl (dec_true h1) ?_
      refine f_condT rfl ?_
      refine f_skip ?_
      refine f_block ?_
      refine f_seq ?_
      refine f_seq ?_
      refine f_region ?_
      refine f_op rfl rfl (s_mv (v := .sl v1) rfl) ?_
      refine f_op rfl rfl (s_lenS rfl Tryz.underlying75 rfl) ?_
      refine f_op rfl rfl (s_lss rfl rfl) ?_
      refine f_op rfl rfl (s_mv (v := .bool (decide ((v1.len : Int) < 2))) rfl) ?_
      refine o_if (fun h2 => ?_) (fun h2 => ?_)
      · skip
        refine o_know 16 rfl (dec_true h2) ?_
        refine f_no rfl rfl ?_
        refine f_no rfl rfl ?_
        refine f_no rfl rfl ?_
        refine f_no rfl rfl ?_
        refine f_no rfl rfl ?_
        refine f_no rfl rfl ?_
        refine f_no rfl rfl ?_
        refine f_no rfl rfl ?_
        refine f_op rfl rfl (s_pickT (v := .bool true) rfl rfl) ?_
        refine f_op rfl rfl (s_mv (v := .bool true) rfl) ?_
        refine f_no rfl rfl ?_
        refine f_no rfl rfl ?_
        refine f_no rfl rfl ?_
        refine f_no rfl rfl ?_
        refine f_no rfl rfl ?_
        refine f_no rfl rfl ?_
        refine f_no rfl rfl ?_
        refine f_op rfl rfl (s_pickT (v := .bool true) rfl rfl) ?_
        refine f_nil ?_
        refine f_keep [0, 4, 34] ?_
        exact s36_j1 happ _ (fun v1_ v2_ v3_ H_ => ih v1_ v2_ v3_ H_) v1 v2 v3 true H
      · skip
        refine o_know 16 rfl (dec_false h2) ?_
        refine f_op rfl rfl (s_mv (v := .sl v1) rfl) ?_
        refine f_op rfl rfl (s_lenS rfl Tryz.underlying75 rfl) ?_
        refine f_op rfl rfl (s_mv (v := .sl v1) rfl) ?_
        refine o_ck fun g3 => ?_
        refine f_op rfl rfl (s_idx Tryz.underlying75 ty5 rfl rfl g3) ?_
        refine o_bind ?_; intro x4 hx4
        refine f_op rfl rfl (s_load Tryz.underlying5 rfl rfl (ldI_eq hx4)) ?_
        refine f_op rfl rfl (s_convInt Tryz.underlying5 Tryz.underlying3 rfl) ?_
        refine f_op rfl rfl (s_add rfl rfl) ?_
        refine f_op rfl rfl (s_lss rfl rfl) ?_
        refine f_op rfl rfl (s_pickF (v := .bool (decide ((v1.len : Int) < (w64 (2 + (w64 (x4))))))) rfl rfl) ?_
        refine f_op rfl rfl (s_mv (v := .bool (decide ((v1.len : Int) < (w64 (2 + (w64 (x4))))))) rfl) ?_
        refine o_if (fun h5 => ?_) (fun h5 => ?_)
        · skip
          refine o_know 26 rfl (dec_true h5) ?_
          refine f_no rfl rfl ?_
          refine f_no rfl rfl ?_
          refine f_no rfl rfl ?_
          refine f_no rfl rfl ?_
          refine f_no rfl rfl ?_
          refine f_no rfl rfl ?_
          refine f_no rfl rfl ?_
          refine f_op rfl rfl (s_pickT (v := .bool true) rfl rfl) ?_
          refine f_nil ?_
          refine f_keep [0, 4, 34] ?_
          exact s36_j1 happ _ (fun v1_ v2_ v3_ H_ => ih v1_ v2_ v3_ H_) v1 v2 v3 true H
        · skip
          refine o_know 26 rfl (dec_false h5) ?_
          refine f_op rfl rfl (s_mv (v := .ptr v2 v3) rfl) ?_
          refine f_op rfl rfl (s_mv (v := .sl v1) rfl) ?_
          refine o_ck fun g6 => ?_
          refine f_op rfl rfl (s_idx Tryz.underlying75 ty5 rfl rfl g6) ?_
          refine o_bind ?_; intro x7 hx7
          refine f_op rfl rfl (s_load Tryz.underlying5 rfl rfl (ldI_eq hx7)) ?_
          refine f_op rfl rfl (s_convInt Tryz.underlying5 Tryz.underlying3 rfl) ?_
          refine o_bind ?_; intro p8 hp8
          refine f_op rfl rfl (s_callF rfl ok40 (sim40 happ hp8)) ?_
          refine f_op rfl rfl (s_neq rfl rfl) ?_
          refine f_op rfl rfl (s_pickF (v := .bool (decide (p8.1 ≠ 0))) rfl rfl) ?_
          refine f_nil ?_
          refine f_keep [0, 4, 34] ?_
          exact s36_j1 happ _ (fun v1_ v2_ v3_ H_ => ih v1_ v2_ v3_ H_) v1 v2 v3 (decide (p8.1 ≠ 0)) p8.2
    · skip
      refine f_know 12 rfl (dec_false h1) ?_
      refine f_condF rfl ?_
      refine f_exit rfl ?_
      refine f_seq ?_
      refine f_region ?_
      refine f_op rfl rfl (s_mv (v := .ptr v2 v3) rfl) ?_
      refine f_op rfl rfl (s_nilCheck rfl) ?_
      refine f_op rfl rfl (s_fieldAddr Tryz.underlying118 rfl ty3 rfl) ?_
      refine o_bind ?_; intro H9 hH9
      refine f_op rfl rfl (s_store (s := 1) ty3 rfl rfl rfl hH9) ?_
      refine f_nil ?_
      refine f_seq ?_
      refine f_region ?_
      refine f_op rfl rfl (s_mv (v := .ptr v2 v3) rfl) ?_
      refine f_op rfl rfl (s_as (v := .ptr v2 v3) rfl) ?_
      refine f_op rfl rfl (s_as (v := .int .i64 0) rfl) ?_
      refine f_nil ?_
      exact f_ret (.tmp rfl (.tmp rfl (.nil))) rfl

theorem sim36 {app : App} (happ : AppSim Tryz.prog app) {a0 : Sl} {H : Hp} {p : (AV × Int) × Hp} (h : r36 app a0 H = some p) : CallSim Tryz.prog 36 [.sl a0] H (.tup [p.1.1, .int .i64 p.1.2]) p.2 := by
  refine callSim (fn := Tryz.f36) (ret := ret36) Tryz.func36 rfl Tryz.ntmps36 rfl ?_ h
  unfold r36
  refine f_seq ?_
  refine f_region ?_
  refine f_op rfl rfl (s_as (v := .nilptr) rfl) ?_
  refine f_op rfl rfl (s_as (v := .int .i64 0) rfl) ?_
  refine f_nil ?_
  refine f_seq ?_
  refine f_region ?_
  refine o_bind ?_; intro p1 hp1
  refine f_op rfl rfl (s_callF rfl ok47 (sim47 hp1)) ?_
  refine f_op rfl rfl (s_as (v := .ptr p1.1.1 p1.1.2) rfl) ?_
  refine f_nil ?_
  refine f_seq ?_
  refine f_block ?_
  refine f_loop ?_
  refine f_keep [0, 4] ?_
  exact s36_l0 happ FUEL a0 p1.1.1 p1.1.2 p1.2

/- 37 bytes.Clone -/
theorem ok37 : FnOk Tryz.prog 37 := ⟨⟨Tryz.f37, Tryz.func37, by kernel_rfl, rfl⟩⟩
theorem sim37 {a0 : Sl} {H : Hp} {p : Sl × Hp} (h : r37 a0 H = some p) : CallSim Tryz.prog 37 [.sl a0] H (.sl p.1) p.2 := by
  refine callSim (fn := Tryz.f37) (ret := ret37) Tryz.func37 rfl Tryz.ntmps37 rfl ?_ h
  unfold r37
  refine f_seq ?_
  refine f_region ?_
  refine f_op rfl rfl (s_as (v := .sl ⟨true, 0, 0, 0, 0, 0⟩) rfl) ?_
  refine f_nil ?_
  refine f_seq ?_
  refine f_seq ?_
  refine f_region ?_
  refine f_op rfl rfl (s_mv (v := .sl a0) rfl) ?_
  refine f_op rfl rfl (s_eqNil Tryz.underlying75 rfl rfl) ?_
  refine f_nil ?_
  refine f_if (fun h1 => ?_) (fun h1 => ?_)
  · skip
    refine f_know 4 rfl (bool_T h1) ?_
    refine f_condT rfl ?_
    refine f_seq ?_
    refine f_region ?_
    refine f_op rfl rfl (s_as (v := .sl ⟨true, 0, 0, 0, 0, 0⟩) rfl) ?_
    refine f_nil ?_
    exact f_ret (.tmp rfl (.nil)) rfl
  · skip
    refine f_know 4 rfl (bool_F h1) ?_
    refine f_condF rfl ?_
    refine f_skip ?_
    refine f_seq ?_
    refine f_region ?_
    refine f_op rfl rfl (s_buildSlice0 Tryz.underlying75 ty5) ?_
    refine f_op rfl rfl (s_mv (v := .sl a0) rfl) ?_
    refine o_bind ?_; intro x2 hx2
    refine o_ck fun g3 => ?_
    refine o_bind ?_; intro x4 hx4
    refine f_op rfl rfl (s_append rfl rfl Tryz.underlying75 Tryz.underlying75 ty5 (by decide) rfl (by decide) rfl rfl hx2 g3 hx4) ?_
    refine f_op rfl rfl (s_as (v := .sl x4.1) rfl) ?_
    refine f_nil ?_
    exact f_ret (.tmp rfl (.nil)) rfl

/- 39 bytes.Equal -/
theorem ok39 : FnOk Tryz.prog 39 := ⟨⟨Tryz.f39, Tryz.func39, by kernel_rfl, rfl⟩⟩
theorem sim39 {a0 : Sl} {a1 : Sl} {H : Hp} {p : Bool × Hp} (h : r39 a0 a1 H = some p) : CallSim Tryz.prog 39 [.sl a0, .sl a1] H (.bool p.1) p.2 := by
  refine callSim (fn := Tryz.f39) (ret := ret39) Tryz.func39 rfl Tryz.ntmps39 rfl ?_ h
  unfold r39
  refine f_seq ?_
  refine f_region ?_
  refine f_op rfl rfl (s_as (v := .bool false) rfl) ?_
  refine f_nil ?_
  refine f_seq ?_
  refine f_region ?_
  refine f_op rfl rfl (s_mv (v := .sl a0) rfl) ?_
  refine o_bind ?_; intro x1 hx1
  refine o_bind ?_; intro x2 hx2
  refine f_op rfl rfl (s_bytesStr Tryz.underlying75 Tryz.underlying9 Tryz.underlying5 rfl hx1 hx2) ?_
  refine f_op rfl rfl (s_mv (v := .sl a1) rfl) ?_
  refine o_bind ?_; intro x3 hx3
  refine o_bind ?_; intro x4 hx4
  refine f_op rfl rfl (s_bytesStr Tryz.underlying75 Tryz.underlying9 Tryz.underlying5 rfl hx3 hx4) ?_
  refine f_op rfl rfl (s_eqStr rfl rfl) ?_
  refine f_op rfl rfl (s_as (v := .bool (strEq (strOfNums x2) (strOfNums x4))) rfl) ?_
  refine f_nil ?_
  exact f_ret (.tmp rfl (.nil)) rfl

/- 133 (*congou/chest.state).names -/
theorem ok133 : FnOk Tryz.prog 133 := ⟨⟨Tryz.f133, Tryz.func133, by kernel_rfl, rfl⟩⟩
theorem s133_l0 : ∀ (k_ : Nat) (v1 : Nat) (v2 : Nat) (v3 : Sl) (v4 : Sl) (v5 : Int) (v6 : Int) (H : Hp), Fin Tryz.prog Tryz.f133 ret133 27 (todoAt (bodyOf Tryz.f133) [1, 1, 0, 1, 0, 0] []) [(0, .ptr v1 v2), (5, .sl v3), (8, .sl v4), (9, .int .i64 v5), (10, .int .i64 v6)] H (r133_l0 k_ v1 v2 v3 v4 v5 v6 H) := by
  intro k_
  induction k_ with
  | zero => intro _ _ _ _ _ _ _; exact f_none
  | succ k_ ih =>
    intro v1 v2 v3 v4 v5 v6 H
    rw [r133_l0]
    refine f_seq ?_
    refine f_region ?_
    refine f_op rfl rfl (s_lss rfl rfl) ?_
    refine f_nil ?_
    refine f_seq ?_
    refine f_if (fun h1 => ?_) (fun h1 => ?_)
    · skip
      refine f_know 11 rfl (dec_true h1) ?_
      refine f_condT rfl ?_
      refine f_skip ?_
      refine f_seq ?_
      refine f_block ?_
      refine f_seq ?_
      refine f_region ?_
      refine o_ck fun g2 => ?_
      refine f_op rfl rfl (s_idx Tryz.underlying25 ty3 rfl rfl g2) ?_
      refine o_bind ?_; intro x3 hx3
      refine f_op rfl rfl (s_load Tryz.underlying3 rfl rfl (ldI_eq hx3)) ?_
      refine f_op rfl rfl (s_as (v := .int .i64 x3) rfl) ?_
      refine f_nil ?_
      refine f_region ?_
      refine f_op rfl rfl (s_mv (v := .sl v3) rfl) ?_
      refine f_op rfl rfl (s_mv (v := .ptr v1 v2) rfl) ?_
      refine f_op rfl rfl (s_nilCheck rfl) ?_
      refine f_op rfl rfl (s_fieldAddr Tryz.underlying150 rfl ty147 rfl) ?_
      refine o_bind ?_; intro x4 hx4
      refine f_op rfl rfl (s_load Tryz.underlying147 rfl rfl (ldSl_eq hx4)) ?_
      refine f_op rfl rfl (s_mv (v := .int .i64 x3) rfl) ?_
      refine o_ck fun g5 => ?_
      refine f_op rfl rfl (s_idx Tryz.underlying147 ty186 rfl rfl g5) ?_
      refine f_op rfl rfl (s_fieldAddr Tryz.underlying186 rfl ty9 rfl) ?_
      refine o_bind ?_; intro x6 hx6
      refine f_op rfl rfl (s_load Tryz.underlying9 rfl rfl (ldStr_eq hx6)) ?_
      refine f_op rfl rfl (s_buildSlice (cs := [.str x6]) Tryz.underlying22 ty9 (by decide) (by decide) rfl (by decide) rfl) ?_
      refine o_bind ?_; intro x7 hx7
      refine f_op rfl rfl (s_ap rfl rfl Tryz.underlying22 Tryz.underlying22 ty9 rfl rfl rfl rfl rfl rfl rfl hx7) ?_
      refine f_op rfl rfl (s_as (v := .sl x7.1) rfl) ?_
      refine f_nil ?_
      refine f_inBlock ?_
      refine f_region ?_
      refine f_op rfl rfl (s_add rfl rfl) ?_
      refine f_op rfl rfl (s_mv (v := .int .i64 (w64 (v6 + 1))) rfl) ?_
      refine f_nil ?_
      refine f_inLoop ?_
      refine f_keep [0, 5, 8, 9, 10] ?_
      exact ih v1 v2 x7.1 v4 v5 (w64 (v6 + 1)) x7.2
    · skip
      refine f_know 11 rfl (dec_false h1) ?_
      refine f_condF rfl ?_
      refine f_exit rfl ?_
      refine f_seq ?_
      refine f_region ?_
      refine f_op rfl rfl (s_mv (v := .sl v3) rfl) ?_
      refine f_op rfl rfl (s_as (v := .sl v3) rfl) ?_
      refine f_nil ?_
      exact f_ret (.tmp rfl (.nil)) rfl

theorem sim133 {a0b : Nat} {a0o : Nat} {a1 : Sl} {H : Hp} {p : Sl × Hp} (h : r133 a0b a0o a1 H = some p) : CallSim Tryz.prog 133 [.ptr a0b a0o, .sl a1] H (.sl p.1) p.2 := by
  refine callSim (fn := Tryz.f133) (ret := ret133) Tryz.func133 rfl Tryz.ntmps133 rfl ?_ h
  unfold r133
  refine f_seq ?_
  refine f_region ?_
  refine f_op rfl rfl (s_as (v := .sl ⟨true, 0, 0, 0, 0, 0⟩) rfl) ?_
  refine f_nil ?_
  refine f_seq ?_
  refine f_region ?_
  refine f_op rfl rfl (s_as (v := .sl ⟨true, 0, 0, 0, 0, 0⟩) rfl) ?_
  refine f_nil ?_
  refine f_seq ?_
  refine f_seq ?_
  refine f_region ?_
  refine f_op rfl rfl (s_mv (v := .sl a1) rfl) ?_
  refine f_op rfl rfl (s_lenS rfl Tryz.underlying25 rfl) ?_
  refine f_op rfl rfl (s_mv (v := .int .i64 0) rfl) ?_
  refine f_nil ?_
  refine f_block ?_
  refine f_loop ?_
  refine f_keep [0, 5, 8, 9, 10] ?_
  exact s133_l0 FUEL a0b a0o ⟨true, 0, 0, 0, 0, 0⟩ a1 (a1.len : Int) 0 H

/- 134 congou/chest.numbers -/
theorem ok134 : FnOk Tryz.prog 134 := ⟨⟨Tryz.f134, Tryz.func134, by kernel_rfl, rfl⟩⟩
theorem s134_l0 {app : App} (happ : AppSim Tryz.prog app) : ∀ (k_ : Nat) (v1 : Sl) (v2 : Sl) (v3 : Int) (v4 : Int) (H : Hp), Fin Tryz.prog Tryz.f134 ret134 19 (todoAt (bodyOf Tryz.f134) [1, 1, 0, 1, 0, 0] []) [(3, .sl v1), (6, .sl v2), (7, .int .i64 v3), (8, .int .i64 v4)] H (r134_l0 app k_ v1 v2 v3 v4 H) := by
  intro k_
  induction k_ with
  | zero => intro _ _ _ _ _; exact f_none
  | succ k_ ih =>
    intro v1 v2 v3 v4 H
    rw [r134_l0]
    refine f_seq ?_
    refine f_region ?_
    refine f_op rfl rfl (s_lss rfl rfl) ?_
    refine f_nil ?_
    refine f_seq ?_
    refine f_if (fun h1 => ?_) (fun h1 => ?_)
    · skip
      refine f_know 9 rfl (dec_true h1) ?_
      refine f_condT rfl ?_
      refine f_skip ?_
      refine f_seq ?_
      refine f_block ?_
      refine f_seq ?_
      refine f_region ?_
      refine o_ck fun g2 => ?_
      refine f_op rfl rfl (s_idx Tryz.underlying25 ty3 rfl rfl g2) ?_
      refine o_bind ?_; intro x3 hx3
      refine f_op rfl rfl (s_load Tryz.underlying3 rfl rfl (ldI_eq hx3)) ?_
      refine f_op rfl rfl (s_as (v := .int .i64 x3) rfl) ?_
      refine f_nil ?_
      refine f_region ?_
      refine f_op rfl rfl (s_mv (v := .sl v1) rfl) ?_
      refine f_op rfl rfl (s_mv (v := .int .i64 x3) rfl) ?_
      refine o_bind ?_; intro p4 hp4
      refine o_bind ?_; intro x5 hx5
      refine f_op rfl rfl (s_callA happ rfl hp4) ?_
      refine o_know 14 rfl (asStr_eq hx5) ?_
      refine f_op rfl rfl (s_buildSlice (cs := [.str x5]) Tryz.underlying22 ty9 (by decide) (by decide) rfl (by decide) rfl) ?_
      refine o_bind ?_; intro x6 hx6
      refine f_op rfl rfl (s_ap rfl rfl Tryz.underlying22 Tryz.underlying22 ty9 rfl rfl rfl rfl rfl rfl rfl hx6) ?_
      refine f_op rfl rfl (s_as (v := .sl x6.1) rfl) ?_
      refine f_nil ?_
      refine f_inBlock ?_
      refine f_region ?_
      refine f_op rfl rfl (s_add rfl rfl) ?_
      refine f_op rfl rfl (s_mv (v := .int .i64 (w64 (v4 + 1))) rfl) ?_
      refine f_nil ?_
      refine f_inLoop ?_
      refine f_keep [3, 6, 7, 8] ?_
      exact ih x6.1 v2 v3 (w64 (v4 + 1)) x6.2
    · skip
      refine f_know 9 rfl (dec_false h1) ?_
      refine f_condF rfl ?_
      refine f_exit rfl ?_
      refine f_seq ?_
      refine f_region ?_
      refine f_op rfl rfl (s_mv (v := .sl v1) rfl) ?_
      refine f_op rfl rfl (s_as (v := .sl v1) rfl) ?_
      refine f_nil ?_
      exact f_ret (.tmp rfl (.nil)) rfl

theorem sim134 {app : App} (happ : AppSim Tryz.prog app) {a0 : Sl} {H : Hp} {p : Sl × Hp} (h : r134 app a0 H = some p) : CallSim Tryz.prog 134 [.sl a0] H (.sl p.1) p.2 := by
  refine callSim (fn := Tryz.f134) (ret := ret134) Tryz.func134 rfl Tryz.ntmps134 rfl ?_ h
  unfold r134
  refine f_seq ?_
  refine f_region ?_
  refine f_op rfl rfl (s_as (v := .sl ⟨true, 0, 0, 0, 0, 0⟩) rfl) ?_
  refine f_nil ?_
  refine f_seq ?_
  refine f_region ?_
  refine f_op rfl rfl (s_as (v := .sl ⟨true, 0, 0, 0, 0, 0⟩) rfl) ?_
  refine f_nil ?_
  refine f_seq ?_
  refine f_seq ?_
  refine f_region ?_
  refine f_op rfl rfl (s_mv (v := .sl a0) rfl) ?_
  refine f_op rfl rfl (s_lenS rfl Tryz.underlying25 rfl) ?_
  refine f_op rfl rfl (s_mv (v := .int .i64 0) rfl) ?_
  refine f_nil ?_
  refine f_block ?_
  refine f_loop ?_
  refine f_keep [3, 6, 7, 8] ?_
  exact s134_l0 happ FUEL ⟨true, 0, 0, 0, 0, 0⟩ a0 (a0.len : Int) 0 H

/- 186 slices.Grow[[]int,int] -/
theorem ok186 : FnOk Tryz.prog 186 := ⟨⟨Tryz.f186, Tryz.func186, by kernel_rfl, rfl⟩⟩
theorem sim186 {a0 : Sl} {a1 : Int} {H : Hp} {p : Sl × Hp} (h : r186 a0 a1 H = some p) : CallSim Tryz.prog 186 [.sl a0, .int .i64 a1] H (.sl p.1) p.2 := by
  refine callSim (fn := Tryz.f186) (ret := ret186) Tryz.func186 rfl Tryz.ntmps186 rfl ?_ h
  unfold r186
  refine f_seq ?_
  refine f_region ?_
  refine f_op rfl rfl (s_as (v := .sl ⟨true, 0, 0, 0, 0, 0⟩) rfl) ?_
  refine f_nil ?_
  refine f_seq ?_
  refine f_seq ?_
  refine f_region ?_
  refine f_op rfl rfl (s_mv (v := .int .i64 a1) rfl) ?_
  refine f_op rfl rfl (s_lss rfl rfl) ?_
  refine f_nil ?_
  refine f_if (fun h1 => ?_) (fun h1 => ?_)
  · skip
    refine f_know 6 rfl (dec_true h1) ?_
    refine f_condT rfl ?_
    refine f_region ?_
    exact o_none
  · skip
    refine f_know 6 rfl (dec_false h1) ?_
    refine f_condF rfl ?_
    refine f_skip ?_
    refine f_seq ?_
    refine f_seq ?_
    refine f_region ?_
    refine f_op rfl rfl (s_mv (v := .int .i64 a1) rfl) ?_
    refine f_op rfl rfl (s_mv (v := .sl a0) rfl) ?_
    refine o_ck fun g2 => ?_
    refine f_op rfl rfl (s_capS rfl Tryz.underlying25 rfl g2) ?_
    refine f_op rfl rfl (s_mv (v := .sl a0) rfl) ?_
    refine f_op rfl rfl (s_lenS rfl Tryz.underlying25 rfl) ?_
    refine f_op rfl rfl (s_sub rfl rfl) ?_
    refine f_op rfl rfl (s_sub rfl rfl) ?_
    refine f_op rfl rfl (s_as (v := .int .i64 (w64 (a1 - (w64 ((a0.cap : Int) - (a0.len : Int)))))) rfl) ?_
    refine f_nil ?_
    refine f_seq ?_
    refine f_region ?_
    refine f_op rfl rfl (s_mv (v := .int .i64 (w64 (a1 - (w64 ((a0.cap : Int) - (a0.len : Int)))))) rfl) ?_
    refine f_op rfl rfl (s_gtr rfl rfl) ?_
    refine f_nil ?_
    refine f_if (fun h3 => ?_) (fun h3 => ?_)
    · skip
      refine f_know 16 rfl (dec_true h3) ?_
      refine f_condT rfl ?_
      refine f_region ?_
      refine f_op rfl rfl (s_mv (v := .sl a0) rfl) ?_
      refine f_op rfl rfl (s_mv (v := .sl a0) rfl) ?_
      refine o_ck fun g4 => ?_
      refine f_op rfl rfl (s_capS rfl Tryz.underlying25 rfl g4) ?_
      refine o_ck fun g5 => ?_
      refine f_op rfl rfl (s_slice Tryz.underlying25 ty3 rfl rfl rfl g5.1 g5.2) ?_
      refine f_op rfl rfl (s_mv (v := .int .i64 (w64 (a1 - (w64 ((a0.cap : Int) - (a0.len : Int)))))) rfl) ?_
      refine o_ck fun g6 => ?_
      refine o_ck fun g7 => ?_
      refine f_op rfl rfl (s_appendMk0 rfl rfl rfl Tryz.underlying25 Tryz.underlying3 ty3 rfl rfl (by decide) (by decide) rfl rfl g6 g7) ?_
      refine f_op rfl rfl (s_mv (v := .sl a0) rfl) ?_
      refine f_op rfl rfl (s_lenS rfl Tryz.underlying25 rfl) ?_
      refine o_ck fun g8 => ?_
      refine f_op rfl rfl (s_slice Tryz.underlying25 ty3 rfl rfl rfl g8.1 g8.2) ?_
      refine f_op rfl rfl (s_as (v := .sl ((⟨false, H.n, 0, (w64 (a1 - (w64 ((a0.cap : Int) - (a0.len : Int)))) : Int).toNat, (w64 (a1 - (w64 ((a0.cap : Int) - (a0.len : Int)))) : Int).toNat, 1⟩ : Sl).cut 1 (0 : Int).toNat ((a0.len : Int) : Int).toNat)) rfl) ?_
      refine o_hp ?_; intro H9 hH9
      refine f_nil ?_
      refine f_seq ?_
      refine f_region ?_
      refine f_op rfl rfl (s_mv (v := .sl ((⟨false, H.n, 0, (w64 (a1 - (w64 ((a0.cap : Int) - (a0.len : Int)))) : Int).toNat, (w64 (a1 - (w64 ((a0.cap : Int) - (a0.len : Int)))) : Int).toNat, 1⟩ : Sl).cut 1 (0 : Int).toNat ((a0.len : Int) : Int).toNat)) rfl) ?_
      refine f_op rfl rfl (s_as (v := .sl ((⟨false, H.n, 0, (w64 (a1 - (w64 ((a0.cap : Int) - (a0.len : Int)))) : Int).toNat, (w64 (a1 - (w64 ((a0.cap : Int) - (a0.len : Int)))) : Int).toNat, 1⟩ : Sl).cut 1 (0 : Int).toNat ((a0.len : Int) : Int).toNat)) rfl) ?_
      refine f_nil ?_
      exact f_ret (.tmp rfl (.nil)) rfl
    · skip
      refine f_know 16 rfl (dec_false h3) ?_
      refine f_condF rfl ?_
      refine f_skip ?_
      refine f_seq ?_
      refine f_region ?_
      refine f_op rfl rfl (s_mv (v := .sl a0) rfl) ?_
      refine f_op rfl rfl (s_as (v := .sl a0) rfl) ?_
      refine f_nil ?_
      exact f_ret (.tmp rfl (.nil)) rfl

/- 135 slices.Concat[[]int,int] -/
theorem ok135 : FnOk Tryz.prog 135 := ⟨⟨Tryz.f135, Tryz.func135, by kernel_rfl, rfl⟩⟩
theorem s135_l1 : ∀ (k_ : Nat) (v1 : Sl) (v2 : Sl) (v3 : Int) (v4 : Int) (H : Hp), Fin Tryz.prog Tryz.f135 ret135 36 (todoAt (bodyOf Tryz.f135) [1, 1, 1, 1, 0, 1, 0, 0] []) [(6, .sl v1), (25, .sl v2), (26, .int .i64 v3), (27, .int .i64 v4)] H (r135_l1 k_ v1 v2 v3 v4 H) := by
  intro k_
  induction k_ with
  | zero => intro _ _ _ _ _; exact f_none
  | succ k_ ih =>
    intro v1 v2 v3 v4 H
    rw [r135_l1]
    refine f_seq ?_
    refine f_region ?_
    refine f_op rfl rfl (s_lss rfl rfl) ?_
    refine f_nil ?_
    refine f_seq ?_
    refine f_if (fun h1 => ?_) (fun h1 => ?_)
    · skip
      refine f_know 28 rfl (dec_true h1) ?_
      refine f_condT rfl ?_
      refine f_skip ?_
      refine f_seq ?_
      refine f_block ?_
      refine f_seq ?_
      refine f_region ?_
      refine o_ck fun g2 => ?_
      refine f_op rfl rfl (s_idx Tryz.underlying31 ty25 rfl rfl g2) ?_
      refine o_bind ?_; intro x3 hx3
      refine f_op rfl rfl (s_load Tryz.underlying25 rfl rfl (ldSl_eq hx3)) ?_
      refine f_op rfl rfl (s_as (v := .sl x3) rfl) ?_
      refine f_nil ?_
      refine f_region ?_
      refine f_op rfl rfl (s_mv (v := .sl v1) rfl) ?_
      refine f_op rfl rfl (s_mv (v := .sl x3) rfl) ?_
      refine o_bind ?_; intro x4 hx4
      refine o_ck fun g5 => ?_
      refine o_bind ?_; intro x6 hx6
      refine f_op rfl rfl (s_append rfl rfl Tryz.underlying25 Tryz.underlying25 ty3 (by decide) rfl (by decide) rfl rfl hx4 g5 hx6) ?_
      refine f_op rfl rfl (s_as (v := .sl x6.1) rfl) ?_
      refine f_nil ?_
      refine f_inBlock ?_
      refine f_region ?_
      refine f_op rfl rfl (s_add rfl rfl) ?_
      refine f_op rfl rfl (s_mv (v := .int .i64 (w64 (v4 + 1))) rfl) ?_
      refine f_nil ?_
      refine f_inLoop ?_
      refine f_keep [6, 25, 26, 27] ?_
      exact ih x6.1 v2 v3 (w64 (v4 + 1)) x6.2
    · skip
      refine f_know 28 rfl (dec_false h1) ?_
      refine f_condF rfl ?_
      refine f_exit rfl ?_
      refine f_seq ?_
      refine f_region ?_
      refine f_op rfl rfl (s_mv (v := .sl v1) rfl) ?_
      refine f_op rfl rfl (s_as (v := .sl v1) rfl) ?_
      refine f_nil ?_
      exact f_ret (.tmp rfl (.nil)) rfl

theorem s135_l0 : ∀ (k_ : Nat) (v1 : Sl) (v2 : Int) (v3 : Sl) (v4 : Int) (v5 : Int) (H : Hp), Fin Tryz.prog Tryz.f135 ret135 36 (todoAt (bodyOf Tryz.f135) [1, 1, 0, 1, 0, 0] []) [(0, .sl v1), (3, .int .i64 v2), (9, .sl v3), (10, .int .i64 v4), (11, .int .i64 v5)] H (r135_l0 k_ v1 v2 v3 v4 v5 H) := by
  intro k_
  induction k_ with
  | zero => intro _ _ _ _ _ _; exact f_none
  | succ k_ ih =>
    intro v1 v2 v3 v4 v5 H
    rw [r135_l0]
    refine f_seq ?_
    refine f_region ?_
    refine f_op rfl rfl (s_lss rfl rfl) ?_
    refine f_nil ?_
    refine f_seq ?_
    refine f_if (fun h1 => ?_) (fun h1 => ?_)
    · skip
      refine f_know 12 rfl (dec_true h1) ?_
      refine f_condT rfl ?_
      refine f_skip ?_
      refine f_seq ?_
      refine f_block ?_
      refine f_seq ?_
      refine f_region ?_
      refine o_ck fun g2 => ?_
      refine f_op rfl rfl (s_idx Tryz.underlying31 ty25 rfl rfl g2) ?_
      refine o_bind ?_; intro x3 hx3
      refine f_op rfl rfl (s_load Tryz.underlying25 rfl rfl (ldSl_eq hx3)) ?_
      refine f_op rfl rfl (s_as (v := .sl x3) rfl) ?_
      refine f_nil ?_
      refine f_seq ?_
      refine f_region ?_
      refine f_op rfl rfl (s_mv (v := .int .i64 v2) rfl) ?_
      refine f_op rfl rfl (s_mv (v := .sl x3) rfl) ?_
      refine f_op rfl rfl (s_lenS rfl Tryz.underlying25 rfl) ?_
      refine f_op rfl rfl (s_add rfl rfl) ?_
      refine f_op rfl rfl (s_as (v := .int .i64 (w64 (v2 + (x3.len : Int)))) rfl) ?_
      refine f_nil ?_
      refine f_seq ?_
      refine f_region ?_
      refine f_op rfl rfl (s_mv (v := .int .i64 (w64 (v2 + (x3.len : Int)))) rfl) ?_
      refine f_op rfl rfl (s_lss rfl rfl) ?_
      refine f_nil ?_
      refine f_if (fun h4 => ?_) (fun h4 => ?_)
      · skip
        refine f_know 20 rfl (dec_true h4) ?_
        refine f_condT rfl ?_
        refine f_region ?_
        exact o_none
      · skip
        refine f_know 20 rfl (dec_false h4) ?_
        refine f_condF rfl ?_
        refine f_skip ?_
        refine f_inBlock ?_
        refine f_region ?_
        refine f_op rfl rfl (s_add rfl rfl) ?_
        refine f_op rfl rfl (s_mv (v := .int .i64 (w64 (v5 + 1))) rfl) ?_
        refine f_nil ?_
        refine f_inLoop ?_
        refine f_keep [0, 3, 9, 10, 11] ?_
        exact ih v1 (w64 (v2 + (x3.len : Int))) v3 v4 (w64 (v5 + 1)) H
    · skip
      refine f_know 12 rfl (dec_false h1) ?_
      refine f_condF rfl ?_
      refine f_exit rfl ?_
      refine f_seq ?_
      refine f_region ?_
      refine f_op rfl rfl (s_mv (v := .int .i64 v2) rfl) ?_
      refine o_bind ?_; intro p5 hp5
      refine f_op rfl rfl (s_callF rfl ok186 (sim186 hp5)) ?_
      refine f_op rfl rfl (s_as (v := .sl p5.1) rfl) ?_
      refine f_nil ?_
      refine f_seq ?_
      refine f_seq ?_
      refine f_region ?_
      refine f_op rfl rfl (s_mv (v := .sl v1) rfl) ?_
      refine f_op rfl rfl (s_lenS rfl Tryz.underlying31 rfl) ?_
      refine f_op rfl rfl (s_mv (v := .int .i64 0) rfl) ?_
      refine f_nil ?_
      refine f_block ?_
      refine f_loop ?_
      refine f_keep [6, 25, 26, 27] ?_
      exact s135_l1 FUEL p5.1 v1 (v1.len : Int) 0 p5.2

theorem sim135 {a0 : Sl} {H : Hp} {p : Sl × Hp} (h : r135 a0 H = some p) : CallSim Tryz.prog 135 [.sl a0] H (.sl p.1) p.2 := by
  refine callSim (fn := Tryz.f135) (ret := ret135) Tryz.func135 rfl Tryz.ntmps135 rfl ?_ h
  unfold r135
  refine f_seq ?_
  refine f_region ?_
  refine f_op rfl rfl (s_as (v := .sl ⟨true, 0, 0, 0, 0, 0⟩) rfl) ?_
  refine f_nil ?_
  refine f_seq ?_
  refine f_region ?_
  refine f_op rfl rfl (s_as (v := .int .i64 0) rfl) ?_
  refine f_nil ?_
  refine f_seq ?_
  refine f_seq ?_
  refine f_region ?_
  refine f_op rfl rfl (s_mv (v := .sl a0) rfl) ?_
  refine f_op rfl rfl (s_lenS rfl Tryz.underlying31 rfl) ?_
  refine f_op rfl rfl (s_mv (v := .int .i64 0) rfl) ?_
  refine f_nil ?_
  refine f_block ?_
  refine f_loop ?_
  refine f_keep [0, 3, 9, 10, 11] ?_
  exact s135_l0 FUEL a0 0 a0 (a0.len : Int) 0 H

/- 80 (*congou/chest.state).text -/
theorem ok80 : FnOk Tryz.prog 80 := ⟨⟨Tryz.f80, Tryz.func80, by kernel_rfl, rfl⟩⟩
theorem s80_l1 {app : App} (happ : AppSim Tryz.prog app) : ∀ (k_ : Nat) (v1 : Nat) (v2 : Nat) (v3 : Sl) (v4 : Sl) (v5 : Int) (v6 : Int) (H : Hp), Fin Tryz.prog Tryz.f80 ret80 79 (todoAt (bodyOf Tryz.f80) [1, 1, 1, 1, 1, 1, 1, 0, 1, 0, 0] []) [(3, .ptr v1 0), (6, .fn 132 [] [.ptr v2 0]), (7, .sl v3), (57, .sl v4), (58, .int .i64 v5), (59, .int .i64 v6)] H (r80_l1 app k_ v1 v2 v3 v4 v5 v6 H) := by
  intro k_
  induction k_ with
  | zero => intro _ _ _ _ _ _ _; exact f_none
  | succ k_ ih =>
    intro v1 v2 v3 v4 v5 v6 H
    rw [r80_l1]
    refine f_seq ?_
    refine f_region ?_
    refine f_op rfl rfl (s_lss rfl rfl) ?_
    refine f_nil ?_
    refine f_seq ?_
    refine f_if (fun h1 => ?_) (fun h1 => ?_)
    · skip
      refine f_know 60 rfl (dec_true h1) ?_
      refine f_condT rfl ?_
      refine f_skip ?_
      refine f_seq ?_
      refine f_block ?_
      refine f_seq ?_
      refine f_region ?_
      refine o_ck fun g2 => ?_
      refine f_op rfl rfl (s_idx Tryz.underlying27 ty101 rfl rfl g2) ?_
      refine o_bind ?_; intro x3 hx3
      refine o_bind ?_; intro x4 hx4
      refine f_op rfl rfl (s_loads Tryz.underlying101 rfl ty101 rfl (lds_cons (ldI_eq hx3) (lds_cons (ldI_eq hx4) (lds_nil)))) ?_
      refine f_op rfl rfl (s_alloc (zs := [.int .i64 0, .int .i64 0]) ty101 rfl rfl) ?_
      refine o_bind ?_; intro H5 hH5
      refine f_op rfl rfl (s_stores ty101 rfl rfl rfl rfl hH5 (Nat.le_of_eq (sts_mono hH5).symm)) ?_
      refine f_nil ?_
      refine f_bind ?_; intro x6 hx6
      refine f_bind ?_; intro p7 hp7
      refine f_bind ?_; intro x8 hx8
      refine f_ck fun g9 => ?_
      refine f_bind ?_; intro x10 hx10
      refine f_bind ?_; intro p11 hp11
      refine f_bind ?_; intro x12 hx12
      refine f_ck fun g13 => ?_
      refine f_bind ?_; intro x14 hx14
      refine f_ck fun g15 => ?_
      refine f_draw (Φ := fun H_ => H_.ld H.n (0 + (1 : Int).toNat * 1) = some (.int .i64 x10)) (lim := 7) [0, 0, 1, 2, 0, 0, 0, 2, 0, 2, 2, 0] (Trc.pure rfl rfl rfl (.inl fun _ => s_mv (v := .sl v3) rfl) (Trc.pure rfl rfl rfl (.inl fun _ => s_idxA Tryz.underlying101 ty3 rfl rfl (by decide)) (Trc.read rfl rfl rfl (s_load Tryz.underlying3 rfl rfl (ldI_eq hx6)) (Trc.eff rfl rfl rfl (fun _ => ldI_eq g15) (s_callA happ rfl hp7) (Trc.know 66 rfl (asStr_eq hx8) (Trc.pure rfl rfl rfl (.inl fun _ => s_addStr rfl rfl g9) (Trc.pure rfl rfl rfl (.inl fun _ => s_idxA Tryz.underlying101 ty3 rfl rfl (by decide)) (Trc.pure rfl rfl rfl (.inr ⟨by decide +kernel, fun _ hp_ => s_load Tryz.underlying3 rfl rfl hp_⟩) (Trc.eff rfl rfl rfl (fun _ => ldI_eq hx10) (s_callA happ rfl hp11) (Trc.know 70 rfl (asStr_eq hx12) (Trc.pure rfl rfl rfl (.inl fun _ => s_addStr rfl rfl g13) (Trc.eff rfl rfl rfl (fun h_ => absurd h_ (by decide +kernel)) (s_buildSlice (cs := [.str ((x8 ++ (ByteArray.mk #[44])) ++ x12)]) Tryz.underlying22 ty9 (by decide) (by decide) rfl (by decide) rfl) (Trc.eff rfl rfl rfl (fun h_ => absurd h_ (by decide +kernel)) (s_ap rfl rfl Tryz.underlying22 Tryz.underlying22 ty9 rfl rfl rfl rfl rfl rfl rfl hx14) (Trc.pure rfl rfl rfl (.inl fun _ => s_as (v := .sl x14.1) rfl) (Trc.nil (fun h_ => absurd h_ (by decide +kernel))))))))))))))))) rfl (by decide +kernel) mixed ?_
      refine f_inBlock ?_
      refine f_region ?_
      refine f_op rfl rfl (s_add rfl rfl) ?_
      refine f_op rfl rfl (s_mv (v := .int .i64 (w64 (v6 + 1))) rfl) ?_
      refine f_nil ?_
      refine f_inLoop ?_
      refine f_keep [3, 6, 7, 57, 58, 59] ?_
      exact ih v1 v2 x14.1 v4 v5 (w64 (v6 + 1)) x14.2
    · skip
      refine f_know 60 rfl (dec_false h1) ?_
      refine f_condF rfl ?_
      refine f_exit rfl ?_
      refine f_seq ?_
      refine f_region ?_
      refine f_op rfl rfl (s_mv (v := .fn 132 [] [.ptr v2 0]) rfl) ?_
      refine f_op rfl rfl (s_mv (v := .sl v3) rfl) ?_
      refine o_bind ?_; intro p16 hp16
      refine f_op rfl rfl (s_callv happ rfl rfl hp16) ?_
      refine f_nil ?_
      refine f_seq ?_
      refine f_region ?_
      refine o_bind ?_; intro p17 hp17
      refine o_bind ?_; intro x18 hx18
      refine f_op rfl rfl (s_callA happ rfl hp17) ?_
      refine o_know 78 rfl (asStr_eq hx18) ?_
      refine f_op rfl rfl (s_as (v := .str x18) rfl) ?_
      refine f_nil ?_
      exact f_ret (.tmp rfl (.nil)) rfl

theorem s80_l0 {app : App} (happ : AppSim Tryz.prog app) : ∀ (k_ : Nat) (v1 : Nat) (v2 : Nat) (v3 : Nat) (v4 : Sl) (v5 : Int) (v6 : Int) (H : Hp), Fin Tryz.prog Tryz.f80 ret80 79 (todoAt (bodyOf Tryz.f80) [1, 1, 0, 1, 0, 0] []) [(0, .ptr v1 v2), (3, .ptr v3 0), (13, .sl v4), (14, .int .i64 v5), (15, .int .i64 v6)] H (r80_l0 app k_ v1 v2 v3 v4 v5 v6 H) := by
  intro k_
  induction k_ with
  | zero => intro _ _ _ _ _ _ _; exact f_none
  | succ k_ ih =>
    intro v1 v2 v3 v4 v5 v6 H
    rw [r80_l0]
    refine f_seq ?_
    refine f_region ?_
    refine f_op rfl rfl (s_lss rfl rfl) ?_
    refine f_nil ?_
    refine f_seq ?_
    refine f_if (fun h1 => ?_) (fun h1 => ?_)
    · skip
      refine f_know 16 rfl (dec_true h1) ?_
      refine f_condT rfl ?_
      refine f_skip ?_
      refine f_seq ?_
      refine f_block ?_
      refine f_seq ?_
      refine f_region ?_
      refine o_ck fun g2 => ?_
      refine f_op rfl rfl (s_idx Tryz.underlying147 ty186 rfl rfl g2) ?_
      refine o_bind ?_; intro x3 hx3
      refine o_bind ?_; intro x4 hx4
      refine f_op rfl rfl (s_loads Tryz.underlying186 rfl ty186 rfl (lds_cons (ldStr_eq hx3) (lds_cons (ldI_eq hx4) (lds_nil)))) ?_
      refine f_op rfl rfl (s_alloc (zs := [.str (ByteArray.mk #[]), .int .i64 0]) ty186 rfl rfl) ?_
      refine o_bind ?_; intro H5 hH5
      refine f_op rfl rfl (s_stores ty186 rfl rfl rfl rfl hH5 (Nat.le_of_eq (sts_mono hH5).symm)) ?_
      refine f_nil ?_
      refine f_bind ?_; intro x6 hx6
      refine f_ck fun g7 => ?_
      refine f_ck fun g8 => ?_
      refine f_bind ?_; intro x9 hx9
      refine f_bind ?_; intro p10 hp10
      refine f_bind ?_; intro x11 hx11
      refine f_ck fun g12 => ?_
      refine f_ck fun g13 => ?_
      refine f_bind ?_; intro p14 hp14
      refine f_bind ?_; intro x15 hx15
      refine f_ck fun g16 => ?_
      refine f_bind ?_; intro x17 hx17
      refine f_bind ?_; intro x18 hx18
      refine f_bind ?_; intro x19 hx19
      refine f_ck fun g20 => ?_
      refine f_draw (Φ := fun H_ => H_.ld H.n (0 + 0) = some (.str x6)) (lim := 9) [0, 0, 0, 0, 0, 1, 2, 0, 0, 2] (Trc.pure rfl rfl rfl (.inl fun _ => s_fieldAddr Tryz.underlying186 rfl ty9 rfl) (Trc.pure rfl rfl rfl (.inr ⟨by decide +kernel, fun _ hp_ => s_load Tryz.underlying9 rfl rfl hp_⟩) (Trc.pure rfl rfl rfl (.inl fun _ => s_addStr rfl rfl g7) (Trc.pure rfl rfl rfl (.inl fun _ => s_addStr rfl rfl g8) (Trc.pure rfl rfl rfl (.inl fun _ => s_fieldAddr Tryz.underlying186 rfl ty3 rfl) (Trc.read rfl rfl rfl (s_load Tryz.underlying3 rfl rfl (ldI_eq hx9)) (Trc.eff rfl rfl rfl (fun _ => ldStr_eq hx6) (s_callA happ rfl hp10) (Trc.know 25 rfl (asStr_eq hx11) (Trc.pure rfl rfl rfl (.inl fun _ => s_addStr rfl rfl g12) (Trc.pure rfl rfl rfl (.inl fun _ => s_addStr rfl rfl g13) (Trc.eff rfl rfl rfl (fun _ => ldStr_eq g20) (s_callA happ rfl hp14) (Trc.know 28 rfl (tupOf2 hx15 g16 (gete hx17 (asI_eq hx18)) (gete hx19 (rfl))) (Trc.nil (fun h_ => absurd h_ (by decide +kernel))))))))))))))) rfl (by decide +kernel) mixed ?_
      refine f_inBlock ?_
      refine f_region ?_
      refine f_op rfl rfl (s_add rfl rfl) ?_
      refine f_op rfl rfl (s_mv (v := .int .i64 (w64 (v6 + 1))) rfl) ?_
      refine f_nil ?_
      refine f_inLoop ?_
      refine f_keep [0, 3, 13, 14, 15] ?_
      exact ih v1 v2 v3 v4 v5 (w64 (v6 + 1)) p14.2
    · skip
      refine f_know 16 rfl (dec_false h1) ?_
      refine f_condF rfl ?_
      refine f_exit rfl ?_
      refine f_seq ?_
      refine f_region ?_
      refine f_op rfl rfl (s_makeFunc rfl rfl) ?_
      refine f_op rfl rfl (s_as (v := .fn 132 [] [.ptr v3 0]) rfl) ?_
      refine f_nil ?_
      refine f_seq ?_
      refine f_region ?_
      refine f_op rfl rfl (s_mv (v := .fn 132 [] [.ptr v3 0]) rfl) ?_
      refine f_op rfl rfl (s_mv (v := .ptr v1 v2) rfl) ?_
      refine f_op rfl rfl (s_mv (v := .ptr v1 v2) rfl) ?_
      refine f_op rfl rfl (s_nilCheck rfl) ?_
      refine f_op rfl rfl (s_fieldAddr Tryz.underlying150 rfl ty25 rfl) ?_
      refine o_bind ?_; intro x21 hx21
      refine f_op rfl rfl (s_load Tryz.underlying25 rfl rfl (ldSl_eq hx21)) ?_
      refine o_bind ?_; intro p22 hp22
      refine f_op rfl rfl (s_callF rfl ok133 (sim133 hp22)) ?_
      refine o_bind ?_; intro p23 hp23
      refine f_op rfl rfl (s_callv happ rfl rfl hp23) ?_
      refine f_nil ?_
      refine f_seq ?_
      refine f_bind ?_; intro p24 hp24
      refine f_bind ?_; intro p25 hp25
      refine f_bind ?_; intro p26 hp26
      refine f_draw (Φ := fun _ => True) (lim := 1000000) [0, 0, 0, 0, 0, 0, 0, 0, 0, 0, 0, 2, 2, 2, 2] (Trc.pure rfl rfl rfl (.inl fun _ => s_mv (v := .fn 132 [] [.ptr v3 0]) rfl) (Trc.pure rfl rfl rfl (.inl fun _ => s_mv (v := .ptr v1 v2) rfl) (Trc.pure rfl rfl rfl (.inl fun _ => s_nilCheck rfl) (Trc.pure rfl rfl rfl (.inl fun _ => s_fieldAddr Tryz.underlying150 rfl ty148 rfl) (Trc.pure rfl rfl rfl (.inl fun _ => s_idxA Tryz.underlying148 ty101 rfl rfl (by decide)) (Trc.pure rfl rfl rfl (.inl fun _ => s_sliceA Tryz.underlying101 ty3 rfl rfl rfl (by decide)) (Trc.pure rfl rfl rfl (.inl fun _ => s_mv (v := .ptr v1 v2) rfl) (Trc.pure rfl rfl rfl (.inl fun _ => s_nilCheck rfl) (Trc.pure rfl rfl rfl (.inl fun _ => s_fieldAddr Tryz.underlying150 rfl ty148 rfl) (Trc.pure rfl rfl rfl (.inl fun _ => s_idxA Tryz.underlying148 ty101 rfl rfl (by decide)) (Trc.pure rfl rfl rfl (.inl fun _ => s_sliceA Tryz.underlying101 ty3 rfl rfl rfl (by decide)) (Trc.eff rfl rfl rfl (fun _ => trivial) (s_buildSlice (cs := [.sl ⟨false, v1, ((v2 + 2) + (0 : Int).toNat * 2) + (0 : Int).toNat * 1, (((2 : Nat) : Int) : Int).toNat - (0 : Int).toNat, 2 - (0 : Int).toNat, 0⟩, .sl ⟨false, v1, ((v2 + 2) + (1 : Int).toNat * 2) + (0 : Int).toNat * 1, (((2 : Nat) : Int) : Int).toNat - (0 : Int).toNat, 2 - (0 : Int).toNat, 0⟩]) Tryz.underlying31 ty25 (by decide) (by decide) rfl (by decide) rfl) (Trc.eff rfl rfl rfl (fun _ => trivial) (s_callF rfl ok135 (sim135 hp24)) (Trc.eff rfl rfl rfl (fun _ => trivial) (s_callF rfl ok134 (sim134 happ hp25)) (Trc.eff rfl rfl rfl (fun _ => trivial) (s_callv happ rfl rfl hp26) (Trc.nil (fun _ => trivial))))))))))))))))) rfl (by decide +kernel) mixed ?_
      refine f_seq ?_
      refine f_region ?_
      refine f_op rfl rfl (s_as (v := .sl ⟨true, 0, 0, 0, 0, 0⟩) rfl) ?_
      refine f_nil ?_
      refine f_seq ?_
      refine f_seq ?_
      refine f_region ?_
      refine f_op rfl rfl (s_mv (v := .ptr v1 v2) rfl) ?_
      refine f_op rfl rfl (s_nilCheck rfl) ?_
      refine f_op rfl rfl (s_fieldAddr Tryz.underlying150 rfl ty27 rfl) ?_
      refine o_bind ?_; intro x27 hx27
      refine f_op rfl rfl (s_load Tryz.underlying27 rfl rfl (ldSl_eq hx27)) ?_
      refine f_op rfl rfl (s_lenS rfl Tryz.underlying27 rfl) ?_
      refine f_op rfl rfl (s_mv (v := .int .i64 0) rfl) ?_
      refine f_nil ?_
      refine f_block ?_
      refine f_loop ?_
      refine f_keep [3, 6, 7, 57, 58, 59] ?_
      exact s80_l1 happ FUEL v3 v3 ⟨true, 0, 0, 0, 0, 0⟩ x27 (x27.len : Int) 0 p26.2

theorem sim80 {app : App} (happ : AppSim Tryz.prog app) {a0b : Nat} {a0o : Nat} {H : Hp} {p : ByteArray × Hp} (h : r80 app a0b a0o H = some p) : CallSim Tryz.prog 80 [.ptr a0b a0o] H (.str p.1) p.2 := by
  refine callSim (fn := Tryz.f80) (ret := ret80) Tryz.func80 rfl Tryz.ntmps80 rfl ?_ h
  unfold r80
  refine f_seq ?_
  refine f_region ?_
  refine f_op rfl rfl (s_as (v := .str (ByteArray.mk #[])) rfl) ?_
  refine f_nil ?_
  refine f_seq ?_
  refine f_region ?_
  refine f_op rfl rfl (s_allocB rfl ty184) ?_
  refine o_hp ?_; intro H1 hH1
  refine f_nil ?_
  refine f_seq ?_
  refine f_seq ?_
  refine f_region ?_
  refine f_op rfl rfl (s_mv (v := .ptr a0b a0o) rfl) ?_
  refine f_op rfl rfl (s_nilCheck rfl) ?_
  refine f_op rfl rfl (s_fieldAddr Tryz.underlying150 rfl ty147 rfl) ?_
  refine o_bind ?_; intro x2 hx2
  refine f_op rfl rfl (s_load Tryz.underlying147 rfl rfl (ldSl_eq hx2)) ?_
  refine f_op rfl rfl (s_lenS rfl Tryz.underlying147 rfl) ?_
  refine f_op rfl rfl (s_mv (v := .int .i64 0) rfl) ?_
  refine f_nil ?_
  refine f_block ?_
  refine f_loop ?_
  refine f_keep [0, 3, 13, 14, 15] ?_
  exact s80_l0 happ FUEL a0b a0o H.n x2 (x2.len : Int) 0 H1

/- 41 (*congou/chest.Chest).State -/
theorem ok41 : FnOk Tryz.prog 41 := ⟨⟨Tryz.f41, Tryz.func41, by kernel_rfl, rfl⟩⟩
theorem sim41 {app : App} (happ : AppSim Tryz.prog app) {a0b : Nat} {a0o : Nat} {H : Hp} {p : ByteArray × Hp} (h : r41 app a0b a0o H = some p) : CallSim Tryz.prog 41 [.ptr a0b a0o] H (.str p.1) p.2 := by
  refine callSim (fn := Tryz.f41) (ret := ret41) Tryz.func41 rfl Tryz.ntmps41 rfl ?_ h
  unfold r41
  refine f_seq ?_
  refine f_region ?_
  refine f_op rfl rfl (s_as (v := .str (ByteArray.mk #[])) rfl) ?_
  refine f_nil ?_
  refine f_seq ?_
  refine f_seq ?_
  refine f_region ?_
  refine f_op rfl rfl (s_mv (v := .ptr a0b a0o) rfl) ?_
  refine o_bind ?_; intro p1 hp1
  refine f_op rfl rfl (s_callF rfl ok60 (sim60 hp1)) ?_
  refine f_nil ?_
  refine f_if (fun h2 => ?_) (fun h2 => ?_)
  · skip
    refine f_know 4 rfl (bool_T h2) ?_
    refine f_condT rfl ?_
    refine f_seq ?_
    refine f_region ?_
    refine f_op rfl rfl (s_as (v := .str (ByteArray.mk #[])) rfl) ?_
    refine f_nil ?_
    exact f_ret (.tmp rfl (.nil)) rfl
  · skip
    refine f_know 4 rfl (bool_F h2) ?_
    refine f_condF rfl ?_
    refine f_skip ?_
    refine f_seq ?_
    refine f_region ?_
    refine f_op rfl rfl (s_mv (v := .ptr a0b a0o) rfl) ?_
    refine o_bind ?_; intro p3 hp3
    refine f_op rfl rfl (s_callF rfl ok61 (sim61 hp3)) ?_
    refine o_bind ?_; intro p4 hp4
    refine f_op rfl rfl (s_callF rfl ok80 (sim80 happ hp4)) ?_
    refine f_op rfl rfl (s_as (v := .str p4.1) rfl) ?_
    refine f_nil ?_
    exact f_ret (.tmp rfl (.nil)) rfl

end Go.Lt.P10
