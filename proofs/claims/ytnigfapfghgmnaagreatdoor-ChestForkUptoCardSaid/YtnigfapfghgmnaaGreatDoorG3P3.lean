/- PRINTED BY A PROGRAM OF OURS: what each function that 'ChestFork' reaches computes on the abstract heap, and that the translated code does just that. Nothing is asked of the input. -/
import Derived.Test.YtnigfapfghgmnaaGreatDoorG3P2
set_option linter.unusedVariables false
set_option linter.unusedSimpArgs false
set_option maxRecDepth 100000
set_option maxHeartbeats 4000000
namespace Go.Lt.P10
open Go Go.Lt Go.Proofs
/- 27 (*congou/chest.Chest).Ask -/
theorem ok27 : FnOk Tryz.prog 27 := ⟨⟨Tryz.f27, Tryz.func27, by kernel_rfl, rfl⟩⟩
theorem sim27 {app : App} (happ : AppSim Tryz.prog app) {a0b : Nat} {a0o : Nat} {a1 : ByteArray} {H : Hp} {p : (ByteArray × Int) × Hp} (h : r27 app a0b a0o a1 H = some p) : CallSim Tryz.prog 27 [.ptr a0b a0o, .str a1] H (.tup [.str p.1.1, .int .i64 p.1.2]) p.2 := by
  refine callSim (fn := Tryz.f27) (ret := ret27) Tryz.func27 rfl Tryz.ntmps27 rfl ?_ h
  unfold r27
  refine f_seq ?_
  refine f_region ?_
  refine f_op rfl rfl (s_as (v := .str (ByteArray.mk #[])) rfl) ?_
  refine f_op rfl rfl (s_as (v := .int .i64 0) rfl) ?_
  refine f_nil ?_
  refine f_seq ?_
  refine f_seq ?_
  refine f_region ?_
  refine f_op rfl rfl (s_mv (v := .ptr a0b a0o) rfl) ?_
  refine o_bind ?_; intro p1 hp1
  refine f_op rfl rfl (s_callF rfl ok28 (sim28 hp1)) ?_
  refine f_nil ?_
  refine f_if (fun h2 => ?_) (fun h2 => ?_)
  · skip
    refine f_know 7 rfl (bool_T h2) ?_
    refine f_condT rfl ?_
    refine f_seq ?_
    refine f_region ?_
    refine f_op rfl rfl (s_as (v := .str (ByteArray.mk #[])) rfl) ?_
    refine f_op rfl rfl (s_as (v := .int .i64 1) rfl) ?_
    refine f_nil ?_
    exact f_ret (.tmp rfl (.tmp rfl (.nil))) rfl
  · skip
    refine f_know 7 rfl (bool_F h2) ?_
    refine f_condF rfl ?_
    refine f_skip ?_
    refine f_seq ?_
    refine f_region ?_
    refine f_op rfl rfl (s_mv (v := .ptr a0b a0o) rfl) ?_
    refine o_bind ?_; intro p3 hp3
    refine f_op rfl rfl (s_callF rfl ok33 (sim33 hp3)) ?_
    refine f_op rfl rfl (s_mv (v := .str a1) rfl) ?_
    refine o_bind ?_; intro p4 hp4
    refine f_op rfl rfl (s_callF rfl ok39 (sim39 happ hp4)) ?_
    refine f_op rfl rfl (s_extract (r := .str p4.1.1) rfl rfl) ?_
    refine f_op rfl rfl (s_extract (r := .int .i64 p4.1.2) rfl rfl) ?_
    refine f_op rfl rfl (s_as (v := .str p4.1.1) rfl) ?_
    refine f_op rfl rfl (s_as (v := .int .i64 p4.1.2) rfl) ?_
    refine f_nil ?_
    exact f_ret (.tmp rfl (.tmp rfl (.nil))) rfl

/- 13 congou/congoulaw10.awake -/
theorem ok13 : FnOk Tryz.prog 13 := ⟨⟨Tryz.f13, Tryz.func13, by kernel_rfl, rfl⟩⟩
theorem sim13 {app : App} (happ : AppSim Tryz.prog app) {H : Hp} {p : Bool × Hp} (h : r13 app H = some p) : CallSim Tryz.prog 13 [] H (.bool p.1) p.2 := by
  refine callSim (fn := Tryz.f13) (ret := ret13) Tryz.func13 rfl Tryz.ntmps13 rfl ?_ h
  unfold r13
  refine f_seq ?_
  refine f_region ?_
  refine f_op rfl rfl (s_as (v := .bool false) rfl) ?_
  refine f_nil ?_
  refine f_seq ?_
  refine f_region ?_
  refine o_bind ?_; intro p1 hp1
  refine f_op rfl rfl (s_callF rfl ok14 (sim14 hp1)) ?_
  refine f_op rfl rfl (s_as (v := .ptr p1.1.1 p1.1.2) rfl) ?_
  refine f_nil ?_
  refine f_seq ?_
  refine f_region ?_
  refine f_op rfl rfl (s_mv (v := .ptr p1.1.1 p1.1.2) rfl) ?_
  refine o_bind ?_; intro p2 hp2
  refine f_op rfl rfl (s_callF rfl ok18 (sim18 happ hp2)) ?_
  refine f_op rfl rfl (s_mv (v := .tup [.str p2.1.1, .int .i64 p2.1.2]) rfl) ?_
  refine f_op rfl rfl (s_extract (r := .str p2.1.1) rfl rfl) ?_
  refine f_op rfl rfl (s_extract (r := .int .i64 p2.1.2) rfl rfl) ?_
  refine f_op rfl rfl (s_as (v := .str p2.1.1) rfl) ?_
  refine f_op rfl rfl (s_as (v := .int .i64 p2.1.2) rfl) ?_
  refine f_nil ?_
  refine f_seq ?_
  refine f_region ?_
  refine f_op rfl rfl (s_mv (v := .ptr p1.1.1 p1.1.2) rfl) ?_
  refine o_bind ?_; intro p3 hp3
  refine f_op rfl rfl (s_callF rfl ok27 (sim27 happ hp3)) ?_
  refine f_op rfl rfl (s_mv (v := .tup [.str p3.1.1, .int .i64 p3.1.2]) rfl) ?_
  refine f_op rfl rfl (s_extract (r := .str p3.1.1) rfl rfl) ?_
  refine f_op rfl rfl (s_extract (r := .int .i64 p3.1.2) rfl rfl) ?_
  refine f_op rfl rfl (s_as (v := .str p3.1.1) rfl) ?_
  refine f_op rfl rfl (s_as (v := .int .i64 p3.1.2) rfl) ?_
  refine f_nil ?_
  refine f_seq ?_
  refine f_region ?_
  refine f_op rfl rfl (s_mv (v := .int .i64 p2.1.2) rfl) ?_
  refine f_op rfl rfl (s_eql rfl rfl) ?_
  refine f_op rfl rfl (s_mv (v := .bool (decide (p2.1.2 = 0))) rfl) ?_
  refine o_if (fun h4 => ?_) (fun h4 => ?_)
  · skip
    refine o_know 19 rfl (dec_true h4) ?_
    refine f_op rfl rfl (s_mv (v := .int .i64 p3.1.2) rfl) ?_
    refine f_op rfl rfl (s_eql rfl rfl) ?_
    refine f_op rfl rfl (s_pickT (v := .bool (decide (p3.1.2 = 0))) rfl rfl) ?_
    refine f_op rfl rfl (s_mv (v := .bool (decide (p3.1.2 = 0))) rfl) ?_
    refine o_if (fun h5 => ?_) (fun h5 => ?_)
    · skip
      refine o_know 23 rfl (dec_true h5) ?_
      refine f_op rfl rfl (s_mv (v := .str p2.1.1) rfl) ?_
      refine f_op rfl rfl (s_eqStr rfl rfl) ?_
      refine f_op rfl rfl (s_pickT (v := .bool (strEq p2.1.1 (ByteArray.mk #[108, 101, 97, 102]))) rfl rfl) ?_
      refine f_op rfl rfl (s_mv (v := .bool (strEq p2.1.1 (ByteArray.mk #[108, 101, 97, 102]))) rfl) ?_
      refine o_if (fun h6 => ?_) (fun h6 => ?_)
      · skip
        refine o_know 27 rfl (bool_T h6) ?_
        refine f_op rfl rfl (s_mv (v := .str p3.1.1) rfl) ?_
        refine f_op rfl rfl (s_eqStr rfl rfl) ?_
        refine f_op rfl rfl (s_pickT (v := .bool (strEq p3.1.1 (ByteArray.mk #[103, 97, 112, 32, 48]))) rfl rfl) ?_
        refine f_op rfl rfl (s_mv (v := .bool (strEq p3.1.1 (ByteArray.mk #[103, 97, 112, 32, 48]))) rfl) ?_
        refine o_if (fun h7 => ?_) (fun h7 => ?_)
        · skip
          refine o_know 31 rfl (bool_T h7) ?_
          refine f_op rfl rfl (s_mv (v := .ptr p1.1.1 p1.1.2) rfl) ?_
          refine o_bind ?_; intro p8 hp8
          refine f_op rfl rfl (s_callF rfl ok15 (sim15 hp8)) ?_
          refine f_op rfl rfl (s_eql rfl rfl) ?_
          refine f_op rfl rfl (s_pickT (v := .bool (decide (p8.1 = 1))) rfl rfl) ?_
          refine f_op rfl rfl (s_as (v := .bool (decide (p8.1 = 1))) rfl) ?_
          refine f_nil ?_
          exact f_ret (.tmp rfl (.nil)) rfl
        · skip
          refine o_know 31 rfl (bool_F h7) ?_
          refine f_no rfl rfl ?_
          refine f_no rfl rfl ?_
          refine f_no rfl rfl ?_
          refine f_op rfl rfl (s_pickF (v := .bool false) rfl rfl) ?_
          refine f_op rfl rfl (s_as (v := .bool false) rfl) ?_
          refine f_nil ?_
          exact f_ret (.tmp rfl (.nil)) rfl
      · skip
        refine o_know 27 rfl (bool_F h6) ?_
        refine f_no rfl rfl ?_
        refine f_no rfl rfl ?_
        refine f_op rfl rfl (s_pickF (v := .bool false) rfl rfl) ?_
        refine f_op rfl rfl (s_mv (v := .bool false) rfl) ?_
        refine f_no rfl rfl ?_
        refine f_no rfl rfl ?_
        refine f_no rfl rfl ?_
        refine f_op rfl rfl (s_pickF (v := .bool false) rfl rfl) ?_
        refine f_op rfl rfl (s_as (v := .bool false) rfl) ?_
        refine f_nil ?_
        exact f_ret (.tmp rfl (.nil)) rfl
    · skip
      refine o_know 23 rfl (dec_false h5) ?_
      refine f_no rfl rfl ?_
      refine f_no rfl rfl ?_
      refine f_op rfl rfl (s_pickF (v := .bool false) rfl rfl) ?_
      refine f_op rfl rfl (s_mv (v := .bool false) rfl) ?_
      refine f_no rfl rfl ?_
      refine f_no rfl rfl ?_
      refine f_op rfl rfl (s_pickF (v := .bool false) rfl rfl) ?_
      refine f_op rfl rfl (s_mv (v := .bool false) rfl) ?_
      refine f_no rfl rfl ?_
      refine f_no rfl rfl ?_
      refine f_no rfl rfl ?_
      refine f_op rfl rfl (s_pickF (v := .bool false) rfl rfl) ?_
      refine f_op rfl rfl (s_as (v := .bool false) rfl) ?_
      refine f_nil ?_
      exact f_ret (.tmp rfl (.nil)) rfl
  · skip
    refine o_know 19 rfl (dec_false h4) ?_
    refine f_no rfl rfl ?_
    refine f_no rfl rfl ?_
    refine f_op rfl rfl (s_pickF (v := .bool false) rfl rfl) ?_
    refine f_op rfl rfl (s_mv (v := .bool false) rfl) ?_
    refine f_no rfl rfl ?_
    refine f_no rfl rfl ?_
    refine f_op rfl rfl (s_pickF (v := .bool false) rfl rfl) ?_
    refine f_op rfl rfl (s_mv (v := .bool false) rfl) ?_
    refine f_no rfl rfl ?_
    refine f_no rfl rfl ?_
    refine f_op rfl rfl (s_pickF (v := .bool false) rfl rfl) ?_
    refine f_op rfl rfl (s_mv (v := .bool false) rfl) ?_
    refine f_no rfl rfl ?_
    refine f_no rfl rfl ?_
    refine f_no rfl rfl ?_
    refine f_op rfl rfl (s_pickF (v := .bool false) rfl rfl) ?_
    refine f_op rfl rfl (s_as (v := .bool false) rfl) ?_
    refine f_nil ?_
    exact f_ret (.tmp rfl (.nil)) rfl

/- 3 congou/congoulaw10.ChestFork -/
theorem ok3 : FnOk Tryz.prog 3 := ⟨⟨Tryz.f3, Tryz.func3, by kernel_rfl, rfl⟩⟩
theorem s3_j7 {app : App} (happ : AppSim Tryz.prog app) (kt5 : Int → Nat → Nat → Int → Int → Sl → Sl → Int → Hp → Option (Bool × Hp)) (hkt5 : ∀ (v1 : Int) (v2 : Nat) (v3 : Nat) (v4 : Int) (v5 : Int) (v6 : Sl) (v7 : Sl) (v8 : Int) (H : Hp), Fin Tryz.prog Tryz.f3 ret3 189 (todoAt (bodyOf Tryz.f3) [1, 1, 1, 1, 1, 1, 1, 1, 1, 1, 1, 1, 1, 1, 1, 0, 0, 0] []) [(1, .int .i64 v1), (7, .ptr v2 v3), (8, .int .i64 v4), (9, .int .i64 v5), (15, .sl v6), (18, .sl v7), (19, .int .i64 v8)] H (kt5 v1 v2 v3 v4 v5 v6 v7 v8 H)) (v1 : Int) (v2 : Nat) (v3 : Nat) (v4 : Int) (v5 : Int) (v6 : Sl) (v7 : Sl) (v8 : Int) (v9 : Bool) (H : Hp) : Fin Tryz.prog Tryz.f3 ret3 189 (todoAt (bodyOf Tryz.f3) [1, 1, 1, 1, 1, 1, 1, 1, 1, 1, 1, 1, 1, 1, 1, 0, 0, 0, 0, 1] []) [(1, .int .i64 v1), (7, .ptr v2 v3), (8, .int .i64 v4), (9, .int .i64 v5), (15, .sl v6), (18, .sl v7), (19, .int .i64 v8), (166, .bool v9)] H (r3_j7 app kt5 v1 v2 v3 v4 v5 v6 v7 v8 v9 H) := by
  unfold r3_j7
  refine f_if (fun h1 => ?_) (fun h1 => ?_)
  · skip
    refine f_know 166 rfl (bool_T h1) ?_
    refine f_condT rfl ?_
    refine f_skip ?_
    refine f_block ?_
    refine f_region ?_
    refine f_op rfl rfl (s_mv (v := .int .i64 v8) rfl) ?_
    refine f_op rfl rfl (s_add rfl rfl) ?_
    refine f_op rfl rfl (s_as (v := .int .i64 (w64 (v8 + 1))) rfl) ?_
    refine f_nil ?_
    refine f_inBlock ?_
    refine f_inLoop ?_
    refine f_keep [1, 7, 8, 9, 15, 18, 19] ?_
    exact hkt5 v1 v2 v3 v4 v5 v6 v7 (w64 (v8 + 1)) H
  · skip
    refine f_know 166 rfl (bool_F h1) ?_
    refine f_condF rfl ?_
    refine f_exit rfl ?_
    refine f_seq ?_
    refine f_region ?_
    refine f_op rfl rfl (s_mv (v := .ptr v2 v3) rfl) ?_
    refine f_op rfl rfl (s_mv (v := .int .i64 v1) rfl) ?_
    refine f_op rfl rfl (s_mv (v := .int .i64 v4) rfl) ?_
    refine o_bind ?_; intro p2 hp2
    refine f_op rfl rfl (s_callF rfl ok11 (sim11 happ hp2)) ?_
    refine f_op rfl rfl (s_mv (v := .tup [.int .i64 p2.1.1, .int .i64 p2.1.2]) rfl) ?_
    refine f_op rfl rfl (s_extract (r := .int .i64 p2.1.1) rfl rfl) ?_
    refine f_op rfl rfl (s_extract (r := .int .i64 p2.1.2) rfl rfl) ?_
    refine f_op rfl rfl (s_as (v := .int .i64 p2.1.2) rfl) ?_
    refine f_nil ?_
    refine f_seq ?_
    refine f_region ?_
    refine f_op rfl rfl (s_mv (v := .sl v6) rfl) ?_
    refine f_op rfl rfl (s_mv (v := .int .i64 v8) rfl) ?_
    refine o_ck fun g3 => ?_
    refine f_op rfl rfl (s_idx Tryz.underlying30 ty3 rfl rfl g3) ?_
    refine o_bind ?_; intro x4 hx4
    refine f_op rfl rfl (s_load Tryz.underlying3 rfl rfl (ldI_eq hx4)) ?_
    refine f_op rfl rfl (s_mv (v := .int .i64 v5) rfl) ?_
    refine f_op rfl rfl (s_eql rfl rfl) ?_
    refine f_op rfl rfl (s_mv (v := .bool (decide (x4 = v5))) rfl) ?_
    refine o_if (fun h5 => ?_) (fun h5 => ?_)
    · skip
      refine o_know 182 rfl (dec_true h5) ?_
      refine f_op rfl rfl (s_mv (v := .int .i64 p2.1.2) rfl) ?_
      refine f_op rfl rfl (s_eql rfl rfl) ?_
      refine f_op rfl rfl (s_pickT (v := .bool (decide (p2.1.2 = 2))) rfl rfl) ?_
      refine f_op rfl rfl (s_mv (v := .bool (decide (p2.1.2 = 2))) rfl) ?_
      refine o_if (fun h6 => ?_) (fun h6 => ?_)
      · skip
        refine o_know 186 rfl (dec_true h6) ?_
        refine o_bind ?_; intro p7 hp7
        refine o_bind ?_; intro x8 hx8
        refine f_op rfl rfl (s_callA happ rfl hp7) ?_
        refine o_know 187 rfl (asB_eq hx8) ?_
        refine f_op rfl rfl (s_pickT (v := .bool x8) rfl rfl) ?_
        refine f_op rfl rfl (s_as (v := .bool x8) rfl) ?_
        refine f_nil ?_
        exact f_ret (.tmp rfl (.nil)) rfl
      · skip
        refine o_know 186 rfl (dec_false h6) ?_
        refine f_no rfl rfl ?_
        refine f_op rfl rfl (s_pickF (v := .bool false) rfl rfl) ?_
        refine f_op rfl rfl (s_as (v := .bool false) rfl) ?_
        refine f_nil ?_
        exact f_ret (.tmp rfl (.nil)) rfl
    · skip
      refine o_know 182 rfl (dec_false h5) ?_
      refine f_no rfl rfl ?_
      refine f_no rfl rfl ?_
      refine f_op rfl rfl (s_pickF (v := .bool false) rfl rfl) ?_
      refine f_op rfl rfl (s_mv (v := .bool false) rfl) ?_
      refine f_no rfl rfl ?_
      refine f_op rfl rfl (s_pickF (v := .bool false) rfl rfl) ?_
      refine f_op rfl rfl (s_as (v := .bool false) rfl) ?_
      refine f_nil ?_
      exact f_ret (.tmp rfl (.nil)) rfl

theorem s3_l5 {app : App} (happ : AppSim Tryz.prog app) : ∀ (k_ : Nat) (v1 : Int) (v2 : Nat) (v3 : Nat) (v4 : Int) (v5 : Int) (v6 : Sl) (v7 : Sl) (v8 : Int) (H : Hp), Fin Tryz.prog Tryz.f3 ret3 189 (todoAt (bodyOf Tryz.f3) [1, 1, 1, 1, 1, 1, 1, 1, 1, 1, 1, 1, 1, 1, 1, 0, 0, 0] []) [(1, .int .i64 v1), (7, .ptr v2 v3), (8, .int .i64 v4), (9, .int .i64 v5), (15, .sl v6), (18, .sl v7), (19, .int .i64 v8)] H (r3_l5 app k_ v1 v2 v3 v4 v5 v6 v7 v8 H) := by
  intro k_
  induction k_ with
  | zero => intro _ _ _ _ _ _ _ _ _; exact f_none
  | succ k_ ih =>
    intro v1 v2 v3 v4 v5 v6 v7 v8 H
    rw [r3_l5]
    refine f_seq ?_
    refine f_seq ?_
    refine f_if (fun h1 => ?_) (fun h1 => ?_)
    · skip
      refine f_if (fun h2 => ?_) (fun h2 => ?_)
      · skip
        refine f_ck fun g3 => ?_
        refine f_bind ?_; intro x4 hx4
        refine f_ck fun g5 => ?_
        refine f_bind ?_; intro x6 hx6
        refine f_draw (Φ := fun _ => True) (lim := 1000000) [0, 0, 0, 0, 0, 0, 0, 0, 0, 0, 0, 0, 0, 0, 0, 0, 0, 1, 0, 0, 0, 0, 1, 0, 0] (Trc.pure rfl rfl rfl (.inl fun _ => s_mv (v := .int .i64 v8) rfl) (Trc.pure rfl rfl rfl (.inl fun _ => s_add rfl rfl) (Trc.pure rfl rfl rfl (.inl fun _ => s_mv (v := .sl v6) rfl) (Trc.pure rfl rfl rfl (.inl fun _ => s_lenS rfl Tryz.underlying30 rfl) (Trc.pure rfl rfl rfl (.inl fun _ => s_lss rfl rfl) (Trc.pure rfl rfl rfl (.inl fun _ => s_mv (v := .bool (decide ((w64 (v8 + 1)) < (v6.len : Int)))) rfl) (Trc.know 147 rfl (dec_true h1) (Trc.pure rfl rfl rfl (.inl fun _ => s_mv (v := .int .i64 v8) rfl) (Trc.pure rfl rfl rfl (.inl fun _ => s_add rfl rfl) (Trc.pure rfl rfl rfl (.inl fun _ => s_mv (v := .sl v7) rfl) (Trc.pure rfl rfl rfl (.inl fun _ => s_lenS rfl Tryz.underlying30 rfl) (Trc.pure rfl rfl rfl (.inl fun _ => s_lss rfl rfl) (Trc.pure rfl rfl rfl (.inl fun _ => s_pickT (v := .bool (decide ((w64 (v8 + 1)) < (v7.len : Int)))) rfl rfl) (Trc.pure rfl rfl rfl (.inl fun _ => s_mv (v := .bool (decide ((w64 (v8 + 1)) < (v7.len : Int)))) rfl) (Trc.know 154 rfl (dec_true h2) (Trc.pure rfl rfl rfl (.inl fun _ => s_mv (v := .sl v6) rfl) (Trc.pure rfl rfl rfl (.inl fun _ => s_mv (v := .int .i64 v8) rfl) (Trc.pure rfl rfl rfl (.inl fun _ => s_add rfl rfl) (Trc.pure rfl rfl rfl (.inl fun _ => s_idx Tryz.underlying30 ty3 rfl rfl g3) (Trc.read rfl rfl rfl (s_load Tryz.underlying3 rfl rfl (ldI_eq hx4)) (Trc.pure rfl rfl rfl (.inl fun _ => s_mv (v := .sl v7) rfl) (Trc.pure rfl rfl rfl (.inl fun _ => s_mv (v := .int .i64 v8) rfl) (Trc.pure rfl rfl rfl (.inl fun _ => s_add rfl rfl) (Trc.pure rfl rfl rfl (.inl fun _ => s_idx Tryz.underlying30 ty3 rfl rfl g5) (Trc.read rfl rfl rfl (s_load Tryz.underlying3 rfl rfl (ldI_eq hx6)) (Trc.pure rfl rfl rfl (.inl fun _ => s_eql rfl rfl) (Trc.pure rfl rfl rfl (.inl fun _ => s_pickT (v := .bool (decide (x4 = x6))) rfl rfl) (Trc.nil (fun _ => trivial))))))))))))))))))))))))))))) rfl (by decide +kernel) mixed ?_
        refine f_keep [1, 7, 8, 9, 15, 18, 19, 166] ?_
        exact s3_j7 happ _ (fun v1_ v2_ v3_ v4_ v5_ v6_ v7_ v8_ H_ => ih v1_ v2_ v3_ v4_ v5_ v6_ v7_ v8_ H_) v1 v2 v3 v4 v5 v6 v7 v8 (decide (x4 = x6)) H
      · skip
        refine f_draw (Φ := fun _ => True) (lim := 1000000) [0, 0, 0, 0, 0, 0, 0, 0, 0, 0, 0, 0, 0, 0, 0, 0, 0, 0, 0, 0, 0, 0, 0, 0, 0] (Trc.pure rfl rfl rfl (.inl fun _ => s_mv (v := .int .i64 v8) rfl) (Trc.pure rfl rfl rfl (.inl fun _ => s_add rfl rfl) (Trc.pure rfl rfl rfl (.inl fun _ => s_mv (v := .sl v6) rfl) (Trc.pure rfl rfl rfl (.inl fun _ => s_lenS rfl Tryz.underlying30 rfl) (Trc.pure rfl rfl rfl (.inl fun _ => s_lss rfl rfl) (Trc.pure rfl rfl rfl (.inl fun _ => s_mv (v := .bool (decide ((w64 (v8 + 1)) < (v6.len : Int)))) rfl) (Trc.know 147 rfl (dec_true h1) (Trc.pure rfl rfl rfl (.inl fun _ => s_mv (v := .int .i64 v8) rfl) (Trc.pure rfl rfl rfl (.inl fun _ => s_add rfl rfl) (Trc.pure rfl rfl rfl (.inl fun _ => s_mv (v := .sl v7) rfl) (Trc.pure rfl rfl rfl (.inl fun _ => s_lenS rfl Tryz.underlying30 rfl) (Trc.pure rfl rfl rfl (.inl fun _ => s_lss rfl rfl) (Trc.pure rfl rfl rfl (.inl fun _ => s_pickT (v := .bool (decide ((w64 (v8 + 1)) < (v7.len : Int)))) rfl rfl) (Trc.pure rfl rfl rfl (.inl fun _ => s_mv (v := .bool (decide ((w64 (v8 + 1)) < (v7.len : Int)))) rfl) (Trc.know 154 rfl (dec_false h2) (Trc.no rfl rfl rfl (Trc.no rfl rfl rfl (Trc.no rfl rfl rfl (Trc.no rfl rfl rfl (Trc.no rfl rfl rfl (Trc.no rfl rfl rfl (Trc.no rfl rfl rfl (Trc.no rfl rfl rfl (Trc.no rfl rfl rfl (Trc.no rfl rfl rfl (Trc.no rfl rfl rfl (Trc.pure rfl rfl rfl (.inl fun _ => s_pickF (v := .bool false) rfl rfl) (Trc.nil (fun _ => trivial))))))))))))))))))))))))))))) rfl (by decide +kernel) mixed ?_
        refine f_keep [1, 7, 8, 9, 15, 18, 19, 166] ?_
        exact s3_j7 happ _ (fun v1_ v2_ v3_ v4_ v5_ v6_ v7_ v8_ H_ => ih v1_ v2_ v3_ v4_ v5_ v6_ v7_ v8_ H_) v1 v2 v3 v4 v5 v6 v7 v8 false H
    · skip
      refine f_draw (Φ := fun _ => True) (lim := 1000000) [0, 0, 0, 0, 0, 0, 0, 0, 0, 0, 0, 0, 0, 0, 0, 0, 0, 0, 0, 0, 0, 0, 0, 0, 0] (Trc.pure rfl rfl rfl (.inl fun _ => s_mv (v := .int .i64 v8) rfl) (Trc.pure rfl rfl rfl (.inl fun _ => s_add rfl rfl) (Trc.pure rfl rfl rfl (.inl fun _ => s_mv (v := .sl v6) rfl) (Trc.pure rfl rfl rfl (.inl fun _ => s_lenS rfl Tryz.underlying30 rfl) (Trc.pure rfl rfl rfl (.inl fun _ => s_lss rfl rfl) (Trc.pure rfl rfl rfl (.inl fun _ => s_mv (v := .bool (decide ((w64 (v8 + 1)) < (v6.len : Int)))) rfl) (Trc.know 147 rfl (dec_false h1) (Trc.no rfl rfl rfl (Trc.no rfl rfl rfl (Trc.no rfl rfl rfl (Trc.no rfl rfl rfl (Trc.no rfl rfl rfl (Trc.pure rfl rfl rfl (.inl fun _ => s_pickF (v := .bool false) rfl rfl) (Trc.pure rfl rfl rfl (.inl fun _ => s_mv (v := .bool false) rfl) (Trc.no rfl rfl rfl (Trc.no rfl rfl rfl (Trc.no rfl rfl rfl (Trc.no rfl rfl rfl (Trc.no rfl rfl rfl (Trc.no rfl rfl rfl (Trc.no rfl rfl rfl (Trc.no rfl rfl rfl (Trc.no rfl rfl rfl (Trc.no rfl rfl rfl (Trc.no rfl rfl rfl (Trc.pure rfl rfl rfl (.inl fun _ => s_pickF (v := .bool false) rfl rfl) (Trc.nil (fun _ => trivial)))))))))))))))))))))))))))) rfl (by decide +kernel) mixed ?_
      refine f_keep [1, 7, 8, 9, 15, 18, 19, 166] ?_
      exact s3_j7 happ _ (fun v1_ v2_ v3_ v4_ v5_ v6_ v7_ v8_ H_ => ih v1_ v2_ v3_ v4_ v5_ v6_ v7_ v8_ H_) v1 v2 v3 v4 v5 v6 v7 v8 false H

theorem s3_j6 {app : App} (happ : AppSim Tryz.prog app) (v1 : Int) (v2 : Int) (v3 : Nat) (v4 : Nat) (v5 : Int) (v6 : Int) (v7 : Sl) (H : Hp) : Fin Tryz.prog Tryz.f3 ret3 189 (todoAt (bodyOf Tryz.f3) [1, 1, 1, 1, 1, 1, 1, 1, 1, 1, 1, 1] []) [(1, .int .i64 v1), (2, .int .i64 v2), (7, .ptr v3 v4), (8, .int .i64 v5), (9, .int .i64 v6), (15, .sl v7)] H (r3_j6 app v1 v2 v3 v4 v5 v6 v7 H) := by
  unfold r3_j6
  refine f_seq ?_
  refine f_seq ?_
  refine f_region ?_
  refine f_op rfl rfl (s_mv (v := .ptr v3 v4) rfl) ?_
  refine f_op rfl rfl (s_mv (v := .int .i64 v2) rfl) ?_
  refine o_bind ?_; intro p1 hp1
  refine f_op rfl rfl (s_callF rfl ok10 (sim10 happ hp1)) ?_
  refine f_op rfl rfl (s_neq rfl rfl) ?_
  refine f_nil ?_
  refine f_if (fun h2 => ?_) (fun h2 => ?_)
  · skip
    refine f_know 139 rfl (dec_true h2) ?_
    refine f_condT rfl ?_
    refine f_seq ?_
    refine f_region ?_
    refine f_op rfl rfl (s_as (v := .bool false) rfl) ?_
    refine f_nil ?_
    exact f_ret (.tmp rfl (.nil)) rfl
  · skip
    refine f_know 139 rfl (dec_false h2) ?_
    refine f_condF rfl ?_
    refine f_skip ?_
    refine f_seq ?_
    refine f_region ?_
    refine f_op rfl rfl (s_mv (v := .ptr v3 v4) rfl) ?_
    refine o_bind ?_; intro p3 hp3
    refine f_op rfl rfl (s_callF rfl ok12 (sim12 happ hp3)) ?_
    refine f_op rfl rfl (s_as (v := .sl p3.1) rfl) ?_
    refine f_nil ?_
    refine f_seq ?_
    refine f_region ?_
    refine f_op rfl rfl (s_as (v := .int .i64 0) rfl) ?_
    refine f_nil ?_
    refine f_seq ?_
    refine f_block ?_
    refine f_loop ?_
    refine f_keep [1, 7, 8, 9, 15, 18, 19] ?_
    exact s3_l5 happ FUEL v1 v3 v4 v5 v6 v7 p3.1 0 p3.2

theorem s3_j4 {app : App} (happ : AppSim Tryz.prog app) (v1 : Int) (v2 : Int) (v3 : Nat) (v4 : Nat) (v5 : Int) (v6 : Int) (v7 : Sl) (v8 : Bool) (H : Hp) : Fin Tryz.prog Tryz.f3 ret3 189 (todoAt (bodyOf Tryz.f3) [1, 1, 1, 1, 1, 1, 1, 1, 1, 1, 1, 0, 1, 0, 1, 1] []) [(1, .int .i64 v1), (2, .int .i64 v2), (7, .ptr v3 v4), (8, .int .i64 v5), (9, .int .i64 v6), (15, .sl v7), (135, .bool v8)] H (r3_j4 app v1 v2 v3 v4 v5 v6 v7 v8 H) := by
  unfold r3_j4
  refine f_if (fun h1 => ?_) (fun h1 => ?_)
  · skip
    refine f_know 135 rfl (bool_T h1) ?_
    refine f_condT rfl ?_
    refine f_seq ?_
    refine f_region ?_
    refine f_op rfl rfl (s_as (v := .bool false) rfl) ?_
    refine f_nil ?_
    exact f_ret (.tmp rfl (.nil)) rfl
  · skip
    refine f_know 135 rfl (bool_F h1) ?_
    refine f_condF rfl ?_
    refine f_skip ?_
    refine f_keep [1, 2, 7, 8, 9, 15] ?_
    exact s3_j6 happ v1 v2 v3 v4 v5 v6 v7 H

theorem s3_j3 {app : App} (happ : AppSim Tryz.prog app) (v1 : Int) (v2 : Int) (v3 : Nat) (v4 : Nat) (v5 : Int) (v6 : Int) (v7 : Bool) (H : Hp) : Fin Tryz.prog Tryz.f3 ret3 189 (todoAt (bodyOf Tryz.f3) [1, 1, 1, 1, 1, 1, 1, 1, 1, 0, 1] []) [(1, .int .i64 v1), (2, .int .i64 v2), (7, .ptr v3 v4), (8, .int .i64 v5), (9, .int .i64 v6), (107, .bool v7)] H (r3_j3 app v1 v2 v3 v4 v5 v6 v7 H) := by
  unfold r3_j3
  refine f_if (fun h1 => ?_) (fun h1 => ?_)
  · skip
    refine f_know 107 rfl (bool_T h1) ?_
    refine f_condT rfl ?_
    refine f_seq ?_
    refine f_region ?_
    refine f_op rfl rfl (s_as (v := .bool false) rfl) ?_
    refine f_nil ?_
    exact f_ret (.tmp rfl (.nil)) rfl
  · skip
    refine f_know 107 rfl (bool_F h1) ?_
    refine f_condF rfl ?_
    refine f_skip ?_
    refine f_seq ?_
    refine f_region ?_
    refine f_op rfl rfl (s_mv (v := .ptr v3 v4) rfl) ?_
    refine o_bind ?_; intro p2 hp2
    refine f_op rfl rfl (s_callF rfl ok12 (sim12 happ hp2)) ?_
    refine f_op rfl rfl (s_as (v := .sl p2.1) rfl) ?_
    refine f_nil ?_
    refine f_seq ?_
    refine f_seq ?_
    refine f_region ?_
    refine f_op rfl rfl (s_mv (v := .int .i64 v1) rfl) ?_
    refine f_op rfl rfl (s_gtr rfl rfl) ?_
    refine f_nil ?_
    refine f_if (fun h3 => ?_) (fun h3 => ?_)
    · skip
      refine f_know 111 rfl (dec_true h3) ?_
      refine f_condT rfl ?_
      refine f_seq ?_
      refine f_region ?_
      refine f_op rfl rfl (s_mv (v := .ptr v3 v4) rfl) ?_
      refine f_op rfl rfl (s_mv (v := .int .i64 v1) rfl) ?_
      refine f_op rfl rfl (s_mv (v := .sl p2.1) rfl) ?_
      refine f_op rfl rfl (s_mv (v := .sl p2.1) rfl) ?_
      refine f_op rfl rfl (s_lenS rfl Tryz.underlying30 rfl) ?_
      refine f_op rfl rfl (s_sub rfl rfl) ?_
      refine o_ck fun g4 => ?_
      refine f_op rfl rfl (s_idx Tryz.underlying30 ty3 rfl rfl g4) ?_
      refine o_bind ?_; intro x5 hx5
      refine f_op rfl rfl (s_load Tryz.underlying3 rfl rfl (ldI_eq hx5)) ?_
      refine o_bind ?_; intro p6 hp6
      refine f_op rfl rfl (s_callF rfl ok11 (sim11 happ hp6)) ?_
      refine f_op rfl rfl (s_mv (v := .tup [.int .i64 p6.1.1, .int .i64 p6.1.2]) rfl) ?_
      refine f_op rfl rfl (s_extract (r := .int .i64 p6.1.1) rfl rfl) ?_
      refine f_op rfl rfl (s_extract (r := .int .i64 p6.1.2) rfl rfl) ?_
      refine f_op rfl rfl (s_as (v := .int .i64 p6.1.1) rfl) ?_
      refine f_op rfl rfl (s_as (v := .int .i64 p6.1.2) rfl) ?_
      refine f_nil ?_
      refine f_seq ?_
      refine f_region ?_
      refine f_op rfl rfl (s_mv (v := .int .i64 p6.1.2) rfl) ?_
      refine f_op rfl rfl (s_neq rfl rfl) ?_
      refine f_op rfl rfl (s_mv (v := .bool (decide (p6.1.2 ≠ 0))) rfl) ?_
      refine o_if (fun h7 => ?_) (fun h7 => ?_)
      · skip
        refine o_know 126 rfl (dec_true h7) ?_
        refine f_no rfl rfl ?_
        refine f_no rfl rfl ?_
        refine f_no rfl rfl ?_
        refine f_no rfl rfl ?_
        refine f_no rfl rfl ?_
        refine f_no rfl rfl ?_
        refine f_no rfl rfl ?_
        refine f_no rfl rfl ?_
        refine f_op rfl rfl (s_pickT (v := .bool true) rfl rfl) ?_
        refine f_nil ?_
        refine f_keep [1, 2, 7, 8, 9, 15, 135] ?_
        exact s3_j4 happ v1 v2 v3 v4 v5 v6 p2.1 true p6.2
      · skip
        refine o_know 126 rfl (dec_false h7) ?_
        refine f_op rfl rfl (s_mv (v := .int .i64 p6.1.1) rfl) ?_
        refine f_op rfl rfl (s_mv (v := .sl p2.1) rfl) ?_
        refine f_op rfl rfl (s_mv (v := .sl p2.1) rfl) ?_
        refine f_op rfl rfl (s_lenS rfl Tryz.underlying30 rfl) ?_
        refine f_op rfl rfl (s_sub rfl rfl) ?_
        refine o_ck fun g8 => ?_
        refine f_op rfl rfl (s_idx Tryz.underlying30 ty3 rfl rfl g8) ?_
        refine o_bind ?_; intro x9 hx9
        refine f_op rfl rfl (s_load Tryz.underlying3 rfl rfl (ldI_eq hx9)) ?_
        refine f_op rfl rfl (s_neq rfl rfl) ?_
        refine f_op rfl rfl (s_pickF (v := .bool (decide (p6.1.1 ≠ x9))) rfl rfl) ?_
        refine f_nil ?_
        refine f_keep [1, 2, 7, 8, 9, 15, 135] ?_
        exact s3_j4 happ v1 v2 v3 v4 v5 v6 p2.1 (decide (p6.1.1 ≠ x9)) p6.2
    · skip
      refine f_know 111 rfl (dec_false h3) ?_
      refine f_condF rfl ?_
      refine f_skip ?_
      refine f_keep [1, 2, 7, 8, 9, 15] ?_
      exact s3_j6 happ v1 v2 v3 v4 v5 v6 p2.1 p2.2

theorem s3_j1 {app : App} (happ : AppSim Tryz.prog app) (v1 : Int) (v2 : Int) (v3 : Nat) (v4 : Nat) (v5 : Int) (v6 : Bool) (H : Hp) : Fin Tryz.prog Tryz.f3 ret3 189 (todoAt (bodyOf Tryz.f3) [1, 1, 1, 1, 0, 1] []) [(1, .int .i64 v1), (2, .int .i64 v2), (7, .ptr v3 v4), (8, .int .i64 v5), (37, .bool v6)] H (r3_j1 app v1 v2 v3 v4 v5 v6 H) := by
  unfold r3_j1
  refine f_if (fun h1 => ?_) (fun h1 => ?_)
  · skip
    refine f_know 37 rfl (bool_T h1) ?_
    refine f_condT rfl ?_
    refine f_seq ?_
    refine f_region ?_
    refine f_op rfl rfl (s_as (v := .bool false) rfl) ?_
    refine f_nil ?_
    exact f_ret (.tmp rfl (.nil)) rfl
  · skip
    refine f_know 37 rfl (bool_F h1) ?_
    refine f_condF rfl ?_
    refine f_skip ?_
    refine f_seq ?_
    refine f_ck fun g2 => ?_
    refine f_ck fun g3 => ?_
    refine f_draw (Φ := fun _ => True) (lim := 1000000) [0, 0, 0, 0, 0, 0, 0, 0, 0, 0, 0, 0, 0, 0] (Trc.pure rfl rfl rfl (.inl fun _ => s_mv (v := .int .i64 v1) rfl) (Trc.pure rfl rfl rfl (.inl fun _ => s_convInt Tryz.underlying3 Tryz.underlying27 rfl) (Trc.pure rfl rfl rfl (.inl fun _ => s_mv (v := .int .i64 v5) rfl) (Trc.pure rfl rfl rfl (.inl fun _ => s_convInt Tryz.underlying3 Tryz.underlying27 rfl) (Trc.pure rfl rfl rfl (.inl fun _ => s_rem rfl rfl g2) (Trc.pure rfl rfl rfl (.inl fun _ => s_convInt Tryz.underlying27 Tryz.underlying3 rfl) (Trc.pure rfl rfl rfl (.inl fun _ => s_mv (v := .int .i64 v2) rfl) (Trc.pure rfl rfl rfl (.inl fun _ => s_convInt Tryz.underlying3 Tryz.underlying27 rfl) (Trc.pure rfl rfl rfl (.inl fun _ => s_mv (v := .int .i64 v5) rfl) (Trc.pure rfl rfl rfl (.inl fun _ => s_convInt Tryz.underlying3 Tryz.underlying27 rfl) (Trc.pure rfl rfl rfl (.inl fun _ => s_rem rfl rfl g3) (Trc.pure rfl rfl rfl (.inl fun _ => s_convInt Tryz.underlying27 Tryz.underlying3 rfl) (Trc.pure rfl rfl rfl (.inl fun _ => s_as (v := .int .i64 (w64 (Int.tmod (IntKind.wrap .u64 (v1)) (IntKind.wrap .u64 (v5))))) rfl) (Trc.pure rfl rfl rfl (.inl fun _ => s_as (v := .int .i64 (w64 (Int.tmod (IntKind.wrap .u64 (v2)) (IntKind.wrap .u64 (v5))))) rfl) (Trc.nil (fun _ => trivial)))))))))))))))) rfl (by decide +kernel) mixed ?_
    refine f_seq ?_
    refine f_region ?_
    refine f_op rfl rfl (s_mv (v := .ptr v3 v4) rfl) ?_
    refine f_op rfl rfl (s_mv (v := .int .i64 (w64 (Int.tmod (IntKind.wrap .u64 (v1)) (IntKind.wrap .u64 (v5))))) rfl) ?_
    refine f_op rfl rfl (s_mv (v := .int .i64 (w64 (Int.tmod (IntKind.wrap .u64 (v2)) (IntKind.wrap .u64 (v5))))) rfl) ?_
    refine o_bind ?_; intro p4 hp4
    refine f_op rfl rfl (s_callF rfl ok11 (sim11 happ hp4)) ?_
    refine f_op rfl rfl (s_mv (v := .tup [.int .i64 p4.1.1, .int .i64 p4.1.2]) rfl) ?_
    refine f_op rfl rfl (s_extract (r := .int .i64 p4.1.1) rfl rfl) ?_
    refine f_op rfl rfl (s_extract (r := .int .i64 p4.1.2) rfl rfl) ?_
    refine f_op rfl rfl (s_as (v := .int .i64 p4.1.1) rfl) ?_
    refine f_op rfl rfl (s_as (v := .int .i64 p4.1.2) rfl) ?_
    refine f_nil ?_
    refine f_seq ?_
    refine f_region ?_
    refine f_op rfl rfl (s_mv (v := .ptr v3 v4) rfl) ?_
    refine f_op rfl rfl (s_mv (v := .int .i64 (w64 (Int.tmod (IntKind.wrap .u64 (v2)) (IntKind.wrap .u64 (v5))))) rfl) ?_
    refine f_op rfl rfl (s_mv (v := .int .i64 (w64 (Int.tmod (IntKind.wrap .u64 (v1)) (IntKind.wrap .u64 (v5))))) rfl) ?_
    refine o_bind ?_; intro p5 hp5
    refine f_op rfl rfl (s_callF rfl ok11 (sim11 happ hp5)) ?_
    refine f_op rfl rfl (s_mv (v := .tup [.int .i64 p5.1.1, .int .i64 p5.1.2]) rfl) ?_
    refine f_op rfl rfl (s_extract (r := .int .i64 p5.1.1) rfl rfl) ?_
    refine f_op rfl rfl (s_extract (r := .int .i64 p5.1.2) rfl rfl) ?_
    refine f_op rfl rfl (s_as (v := .int .i64 p5.1.1) rfl) ?_
    refine f_op rfl rfl (s_as (v := .int .i64 p5.1.2) rfl) ?_
    refine f_nil ?_
    refine f_seq ?_
    refine f_region ?_
    refine f_op rfl rfl (s_mv (v := .ptr v3 v4) rfl) ?_
    refine f_op rfl rfl (s_mv (v := .int .i64 (w64 (Int.tmod (IntKind.wrap .u64 (v1)) (IntKind.wrap .u64 (v5))))) rfl) ?_
    refine f_op rfl rfl (s_mv (v := .int .i64 (w64 (Int.tmod (IntKind.wrap .u64 (v1)) (IntKind.wrap .u64 (v5))))) rfl) ?_
    refine o_bind ?_; intro p6 hp6
    refine f_op rfl rfl (s_callF rfl ok11 (sim11 happ hp6)) ?_
    refine f_op rfl rfl (s_mv (v := .tup [.int .i64 p6.1.1, .int .i64 p6.1.2]) rfl) ?_
    refine f_op rfl rfl (s_extract (r := .int .i64 p6.1.1) rfl rfl) ?_
    refine f_op rfl rfl (s_extract (r := .int .i64 p6.1.2) rfl rfl) ?_
    refine f_op rfl rfl (s_as (v := .int .i64 p6.1.1) rfl) ?_
    refine f_op rfl rfl (s_as (v := .int .i64 p6.1.2) rfl) ?_
    refine f_nil ?_
    refine f_seq ?_
    refine f_seq ?_
    refine f_region ?_
    refine f_op rfl rfl (s_mv (v := .int .i64 p4.1.2) rfl) ?_
    refine f_op rfl rfl (s_neq rfl rfl) ?_
    refine f_op rfl rfl (s_mv (v := .bool (decide (p4.1.2 ≠ 0))) rfl) ?_
    refine o_if (fun h7 => ?_) (fun h7 => ?_)
    · skip
      refine o_know 73 rfl (dec_true h7) ?_
      refine f_no rfl rfl ?_
      refine f_no rfl rfl ?_
      refine f_op rfl rfl (s_pickT (v := .bool true) rfl rfl) ?_
      refine f_op rfl rfl (s_mv (v := .bool true) rfl) ?_
      refine f_no rfl rfl ?_
      refine f_no rfl rfl ?_
      refine f_op rfl rfl (s_pickT (v := .bool true) rfl rfl) ?_
      refine f_op rfl rfl (s_mv (v := .bool true) rfl) ?_
      refine f_no rfl rfl ?_
      refine f_no rfl rfl ?_
      refine f_no rfl rfl ?_
      refine f_op rfl rfl (s_pickT (v := .bool true) rfl rfl) ?_
      refine f_op rfl rfl (s_mv (v := .bool true) rfl) ?_
      refine f_no rfl rfl ?_
      refine f_no rfl rfl ?_
      refine f_no rfl rfl ?_
      refine f_op rfl rfl (s_pickT (v := .bool true) rfl rfl) ?_
      refine f_op rfl rfl (s_mv (v := .bool true) rfl) ?_
      refine f_no rfl rfl ?_
      refine f_no rfl rfl ?_
      refine f_op rfl rfl (s_pickT (v := .bool true) rfl rfl) ?_
      refine f_op rfl rfl (s_mv (v := .bool true) rfl) ?_
      refine f_no rfl rfl ?_
      refine f_no rfl rfl ?_
      refine f_no rfl rfl ?_
      refine f_no rfl rfl ?_
      refine f_no rfl rfl ?_
      refine f_op rfl rfl (s_pickT (v := .bool true) rfl rfl) ?_
      refine f_op rfl rfl (s_mv (v := .bool true) rfl) ?_
      refine f_no rfl rfl ?_
      refine f_no rfl rfl ?_
      refine f_no rfl rfl ?_
      refine f_no rfl rfl ?_
      refine f_op rfl rfl (s_pickT (v := .bool true) rfl rfl) ?_
      refine f_nil ?_
      refine f_keep [1, 2, 7, 8, 9, 107] ?_
      exact s3_j3 happ (w64 (Int.tmod (IntKind.wrap .u64 (v1)) (IntKind.wrap .u64 (v5)))) (w64 (Int.tmod (IntKind.wrap .u64 (v2)) (IntKind.wrap .u64 (v5)))) v3 v4 v5 p4.1.1 true p6.2
    · skip
      refine o_know 73 rfl (dec_false h7) ?_
      refine f_op rfl rfl (s_mv (v := .int .i64 p5.1.2) rfl) ?_
      refine f_op rfl rfl (s_neq rfl rfl) ?_
      refine f_op rfl rfl (s_pickF (v := .bool (decide (p5.1.2 ≠ 0))) rfl rfl) ?_
      refine f_op rfl rfl (s_mv (v := .bool (decide (p5.1.2 ≠ 0))) rfl) ?_
      refine o_if (fun h8 => ?_) (fun h8 => ?_)
      · skip
        refine o_know 77 rfl (dec_true h8) ?_
        refine f_no rfl rfl ?_
        refine f_no rfl rfl ?_
        refine f_op rfl rfl (s_pickT (v := .bool true) rfl rfl) ?_
        refine f_op rfl rfl (s_mv (v := .bool true) rfl) ?_
        refine f_no rfl rfl ?_
        refine f_no rfl rfl ?_
        refine f_no rfl rfl ?_
        refine f_op rfl rfl (s_pickT (v := .bool true) rfl rfl) ?_
        refine f_op rfl rfl (s_mv (v := .bool true) rfl) ?_
        refine f_no rfl rfl ?_
        refine f_no rfl rfl ?_
        refine f_no rfl rfl ?_
        refine f_op rfl rfl (s_pickT (v := .bool true) rfl rfl) ?_
        refine f_op rfl rfl (s_mv (v := .bool true) rfl) ?_
        refine f_no rfl rfl ?_
        refine f_no rfl rfl ?_
        refine f_op rfl rfl (s_pickT (v := .bool true) rfl rfl) ?_
        refine f_op rfl rfl (s_mv (v := .bool true) rfl) ?_
        refine f_no rfl rfl ?_
        refine f_no rfl rfl ?_
        refine f_no rfl rfl ?_
        refine f_no rfl rfl ?_
        refine f_no rfl rfl ?_
        refine f_op rfl rfl (s_pickT (v := .bool true) rfl rfl) ?_
        refine f_op rfl rfl (s_mv (v := .bool true) rfl) ?_
        refine f_no rfl rfl ?_
        refine f_no rfl rfl ?_
        refine f_no rfl rfl ?_
        refine f_no rfl rfl ?_
        refine f_op rfl rfl (s_pickT (v := .bool true) rfl rfl) ?_
        refine f_nil ?_
        refine f_keep [1, 2, 7, 8, 9, 107] ?_
        exact s3_j3 happ (w64 (Int.tmod (IntKind.wrap .u64 (v1)) (IntKind.wrap .u64 (v5)))) (w64 (Int.tmod (IntKind.wrap .u64 (v2)) (IntKind.wrap .u64 (v5)))) v3 v4 v5 p4.1.1 true p6.2
      · skip
        refine o_know 77 rfl (dec_false h8) ?_
        refine f_op rfl rfl (s_mv (v := .int .i64 p6.1.2) rfl) ?_
        refine f_op rfl rfl (s_neq rfl rfl) ?_
        refine f_op rfl rfl (s_pickF (v := .bool (decide (p6.1.2 ≠ 0))) rfl rfl) ?_
        refine f_op rfl rfl (s_mv (v := .bool (decide (p6.1.2 ≠ 0))) rfl) ?_
        refine o_if (fun h9 => ?_) (fun h9 => ?_)
        · skip
          refine o_know 81 rfl (dec_true h9) ?_
          refine f_no rfl rfl ?_
          refine f_no rfl rfl ?_
          refine f_no rfl rfl ?_
          refine f_op rfl rfl (s_pickT (v := .bool true) rfl rfl) ?_
          refine f_op rfl rfl (s_mv (v := .bool true) rfl) ?_
          refine f_no rfl rfl ?_
          refine f_no rfl rfl ?_
          refine f_no rfl rfl ?_
          refine f_op rfl rfl (s_pickT (v := .bool true) rfl rfl) ?_
          refine f_op rfl rfl (s_mv (v := .bool true) rfl) ?_
          refine f_no rfl rfl ?_
          refine f_no rfl rfl ?_
          refine f_op rfl rfl (s_pickT (v := .bool true) rfl rfl) ?_
          refine f_op rfl rfl (s_mv (v := .bool true) rfl) ?_
          refine f_no rfl rfl ?_
          refine f_no rfl rfl ?_
          refine f_no rfl rfl ?_
          refine f_no rfl rfl ?_
          refine f_no rfl rfl ?_
          refine f_op rfl rfl (s_pickT (v := .bool true) rfl rfl) ?_
          refine f_op rfl rfl (s_mv (v := .bool true) rfl) ?_
          refine f_no rfl rfl ?_
          refine f_no rfl rfl ?_
          refine f_no rfl rfl ?_
          refine f_no rfl rfl ?_
          refine f_op rfl rfl (s_pickT (v := .bool true) rfl rfl) ?_
          refine f_nil ?_
          refine f_keep [1, 2, 7, 8, 9, 107] ?_
          exact s3_j3 happ (w64 (Int.tmod (IntKind.wrap .u64 (v1)) (IntKind.wrap .u64 (v5)))) (w64 (Int.tmod (IntKind.wrap .u64 (v2)) (IntKind.wrap .u64 (v5)))) v3 v4 v5 p4.1.1 true p6.2
        · skip
          refine o_know 81 rfl (dec_false h9) ?_
          refine f_op rfl rfl (s_mv (v := .int .i64 p4.1.1) rfl) ?_
          refine f_op rfl rfl (s_mv (v := .int .i64 p5.1.1) rfl) ?_
          refine f_op rfl rfl (s_neq rfl rfl) ?_
          refine f_op rfl rfl (s_pickF (v := .bool (decide (p4.1.1 ≠ p5.1.1))) rfl rfl) ?_
          refine f_op rfl rfl (s_mv (v := .bool (decide (p4.1.1 ≠ p5.1.1))) rfl) ?_
          refine o_if (fun h10 => ?_) (fun h10 => ?_)
          · skip
            refine o_know 86 rfl (dec_true h10) ?_
            refine f_no rfl rfl ?_
            refine f_no rfl rfl ?_
            refine f_no rfl rfl ?_
            refine f_op rfl rfl (s_pickT (v := .bool true) rfl rfl) ?_
            refine f_op rfl rfl (s_mv (v := .bool true) rfl) ?_
            refine f_no rfl rfl ?_
            refine f_no rfl rfl ?_
            refine f_op rfl rfl (s_pickT (v := .bool true) rfl rfl) ?_
            refine f_op rfl rfl (s_mv (v := .bool true) rfl) ?_
            refine f_no rfl rfl ?_
            refine f_no rfl rfl ?_
            refine f_no rfl rfl ?_
            refine f_no rfl rfl ?_
            refine f_no rfl rfl ?_
            refine f_op rfl rfl (s_pickT (v := .bool true) rfl rfl) ?_
            refine f_op rfl rfl (s_mv (v := .bool true) rfl) ?_
            refine f_no rfl rfl ?_
            refine f_no rfl rfl ?_
            refine f_no rfl rfl ?_
            refine f_no rfl rfl ?_
            refine f_op rfl rfl (s_pickT (v := .bool true) rfl rfl) ?_
            refine f_nil ?_
            refine f_keep [1, 2, 7, 8, 9, 107] ?_
            exact s3_j3 happ (w64 (Int.tmod (IntKind.wrap .u64 (v1)) (IntKind.wrap .u64 (v5)))) (w64 (Int.tmod (IntKind.wrap .u64 (v2)) (IntKind.wrap .u64 (v5)))) v3 v4 v5 p4.1.1 true p6.2
          · skip
            refine o_know 86 rfl (dec_false h10) ?_
            refine f_op rfl rfl (s_mv (v := .int .i64 p6.1.1) rfl) ?_
            refine f_op rfl rfl (s_mv (v := .int .i64 (w64 (Int.tmod (IntKind.wrap .u64 (v1)) (IntKind.wrap .u64 (v5))))) rfl) ?_
            refine f_op rfl rfl (s_neq rfl rfl) ?_
            refine f_op rfl rfl (s_pickF (v := .bool (decide (p6.1.1 ≠ (w64 (Int.tmod (IntKind.wrap .u64 (v1)) (IntKind.wrap .u64 (v5))))))) rfl rfl) ?_
            refine f_op rfl rfl (s_mv (v := .bool (decide (p6.1.1 ≠ (w64 (Int.tmod (IntKind.wrap .u64 (v1)) (IntKind.wrap .u64 (v5))))))) rfl) ?_
            refine o_if (fun h11 => ?_) (fun h11 => ?_)
            · skip
              refine o_know 91 rfl (dec_true h11) ?_
              refine f_no rfl rfl ?_
              refine f_no rfl rfl ?_
              refine f_op rfl rfl (s_pickT (v := .bool true) rfl rfl) ?_
              refine f_op rfl rfl (s_mv (v := .bool true) rfl) ?_
              refine f_no rfl rfl ?_
              refine f_no rfl rfl ?_
              refine f_no rfl rfl ?_
              refine f_no rfl rfl ?_
              refine f_no rfl rfl ?_
              refine f_op rfl rfl (s_pickT (v := .bool true) rfl rfl) ?_
              refine f_op rfl rfl (s_mv (v := .bool true) rfl) ?_
              refine f_no rfl rfl ?_
              refine f_no rfl rfl ?_
              refine f_no rfl rfl ?_
              refine f_no rfl rfl ?_
              refine f_op rfl rfl (s_pickT (v := .bool true) rfl rfl) ?_
              refine f_nil ?_
              refine f_keep [1, 2, 7, 8, 9, 107] ?_
              exact s3_j3 happ (w64 (Int.tmod (IntKind.wrap .u64 (v1)) (IntKind.wrap .u64 (v5)))) (w64 (Int.tmod (IntKind.wrap .u64 (v2)) (IntKind.wrap .u64 (v5)))) v3 v4 v5 p4.1.1 true p6.2
            · skip
              refine o_know 91 rfl (dec_false h11) ?_
              refine f_op rfl rfl (s_mv (v := .int .i64 p4.1.1) rfl) ?_
              refine f_op rfl rfl (s_lss rfl rfl) ?_
              refine f_op rfl rfl (s_pickF (v := .bool (decide (p4.1.1 < 0))) rfl rfl) ?_
              refine f_op rfl rfl (s_mv (v := .bool (decide (p4.1.1 < 0))) rfl) ?_
              refine o_if (fun h12 => ?_) (fun h12 => ?_)
              · skip
                refine o_know 95 rfl (dec_true h12) ?_
                refine f_no rfl rfl ?_
                refine f_no rfl rfl ?_
                refine f_no rfl rfl ?_
                refine f_no rfl rfl ?_
                refine f_no rfl rfl ?_
                refine f_op rfl rfl (s_pickT (v := .bool true) rfl rfl) ?_
                refine f_op rfl rfl (s_mv (v := .bool true) rfl) ?_
                refine f_no rfl rfl ?_
                refine f_no rfl rfl ?_
                refine f_no rfl rfl ?_
                refine f_no rfl rfl ?_
                refine f_op rfl rfl (s_pickT (v := .bool true) rfl rfl) ?_
                refine f_nil ?_
                refine f_keep [1, 2, 7, 8, 9, 107] ?_
                exact s3_j3 happ (w64 (Int.tmod (IntKind.wrap .u64 (v1)) (IntKind.wrap .u64 (v5)))) (w64 (Int.tmod (IntKind.wrap .u64 (v2)) (IntKind.wrap .u64 (v5)))) v3 v4 v5 p4.1.1 true p6.2
              · skip
                refine o_know 95 rfl (dec_false h12) ?_
                refine f_op rfl rfl (s_mv (v := .int .i64 p4.1.1) rfl) ?_
                refine f_op rfl rfl (s_mv (v := .int .i64 (w64 (Int.tmod (IntKind.wrap .u64 (v1)) (IntKind.wrap .u64 (v5))))) rfl) ?_
                refine f_op rfl rfl (s_mv (v := .int .i64 (w64 (Int.tmod (IntKind.wrap .u64 (v2)) (IntKind.wrap .u64 (v5))))) rfl) ?_
                refine f_op rfl rfl (s_min2 rfl rfl) ?_
                refine f_op rfl rfl (s_gtr rfl rfl) ?_
                refine f_op rfl rfl (s_pickF (v := .bool (decide ((if (w64 (Int.tmod (IntKind.wrap .u64 (v2)) (IntKind.wrap .u64 (v5)))) < (w64 (Int.tmod (IntKind.wrap .u64 (v1)) (IntKind.wrap .u64 (v5)))) then (w64 (Int.tmod (IntKind.wrap .u64 (v2)) (IntKind.wrap .u64 (v5)))) else (w64 (Int.tmod (IntKind.wrap .u64 (v1)) (IntKind.wrap .u64 (v5))))) < p4.1.1))) rfl rfl) ?_
                refine f_op rfl rfl (s_mv (v := .bool (decide ((if (w64 (Int.tmod (IntKind.wrap .u64 (v2)) (IntKind.wrap .u64 (v5)))) < (w64 (Int.tmod (IntKind.wrap .u64 (v1)) (IntKind.wrap .u64 (v5)))) then (w64 (Int.tmod (IntKind.wrap .u64 (v2)) (IntKind.wrap .u64 (v5)))) else (w64 (Int.tmod (IntKind.wrap .u64 (v1)) (IntKind.wrap .u64 (v5))))) < p4.1.1))) rfl) ?_
                refine o_if (fun h13 => ?_) (fun h13 => ?_)
                · skip
                  refine o_know 102 rfl (dec_true h13) ?_
                  refine f_no rfl rfl ?_
                  refine f_no rfl rfl ?_
                  refine f_no rfl rfl ?_
                  refine f_no rfl rfl ?_
                  refine f_op rfl rfl (s_pickT (v := .bool true) rfl rfl) ?_
                  refine f_nil ?_
                  refine f_keep [1, 2, 7, 8, 9, 107] ?_
                  exact s3_j3 happ (w64 (Int.tmod (IntKind.wrap .u64 (v1)) (IntKind.wrap .u64 (v5)))) (w64 (Int.tmod (IntKind.wrap .u64 (v2)) (IntKind.wrap .u64 (v5)))) v3 v4 v5 p4.1.1 true p6.2
                · skip
                  refine o_know 102 rfl (dec_false h13) ?_
                  refine f_op rfl rfl (s_mv (v := .ptr v3 v4) rfl) ?_
                  refine f_op rfl rfl (s_mv (v := .int .i64 (w64 (Int.tmod (IntKind.wrap .u64 (v1)) (IntKind.wrap .u64 (v5))))) rfl) ?_
                  refine o_bind ?_; intro p14 hp14
                  refine f_op rfl rfl (s_callF rfl ok10 (sim10 happ hp14)) ?_
                  refine f_op rfl rfl (s_neq rfl rfl) ?_
                  refine f_op rfl rfl (s_pickF (v := .bool (decide (p14.1 ≠ 0))) rfl rfl) ?_
                  refine f_nil ?_
                  refine f_keep [1, 2, 7, 8, 9, 107] ?_
                  exact s3_j3 happ (w64 (Int.tmod (IntKind.wrap .u64 (v1)) (IntKind.wrap .u64 (v5)))) (w64 (Int.tmod (IntKind.wrap .u64 (v2)) (IntKind.wrap .u64 (v5)))) v3 v4 v5 p4.1.1 (decide (p14.1 ≠ 0)) p14.2

theorem s3_j2 {app : App} (happ : AppSim Tryz.prog app) (kt0 : Int → Int → Nat → Nat → Int → Hp → Option (Bool × Hp)) (hkt0 : ∀ (v1 : Int) (v2 : Int) (v3 : Nat) (v4 : Nat) (v5 : Int) (H : Hp), Fin Tryz.prog Tryz.f3 ret3 189 (todoAt (bodyOf Tryz.f3) [1, 1, 1, 0, 0, 0] []) [(1, .int .i64 v1), (2, .int .i64 v2), (7, .ptr v3 v4), (8, .int .i64 v5)] H (kt0 v1 v2 v3 v4 v5 H)) (v1 : Int) (v2 : Int) (v3 : Nat) (v4 : Nat) (v5 : Int) (v6 : Bool) (H : Hp) : Fin Tryz.prog Tryz.f3 ret3 189 (todoAt (bodyOf Tryz.f3) [1, 1, 1, 0, 0, 0, 0, 1] []) [(1, .int .i64 v1), (2, .int .i64 v2), (7, .ptr v3 v4), (8, .int .i64 v5), (29, .bool v6)] H (r3_j2 app kt0 v1 v2 v3 v4 v5 v6 H) := by
  unfold r3_j2
  refine f_if (fun h1 => ?_) (fun h1 => ?_)
  · skip
    refine f_know 29 rfl (bool_T h1) ?_
    refine f_condT rfl ?_
    refine f_skip ?_
    refine f_block ?_
    refine f_region ?_
    refine f_op rfl rfl (s_mv (v := .int .i64 v5) rfl) ?_
    refine f_op rfl rfl (s_add rfl rfl) ?_
    refine f_op rfl rfl (s_as (v := .int .i64 (w64 (v5 + 1))) rfl) ?_
    refine f_nil ?_
    refine f_inBlock ?_
    refine f_inLoop ?_
    refine f_keep [1, 2, 7, 8] ?_
    exact hkt0 v1 v2 v3 v4 (w64 (v5 + 1)) H
  · skip
    refine f_know 29 rfl (bool_F h1) ?_
    refine f_condF rfl ?_
    refine f_exit rfl ?_
    refine f_seq ?_
    refine f_seq ?_
    refine f_region ?_
    refine f_op rfl rfl (s_mv (v := .int .i64 v5) rfl) ?_
    refine f_op rfl rfl (s_lss rfl rfl) ?_
    refine f_op rfl rfl (s_mv (v := .bool (decide (v5 < 1))) rfl) ?_
    refine o_if (fun h2 => ?_) (fun h2 => ?_)
    · skip
      refine o_know 34 rfl (dec_true h2) ?_
      refine f_no rfl rfl ?_
      refine f_no rfl rfl ?_
      refine f_op rfl rfl (s_pickT (v := .bool true) rfl rfl) ?_
      refine f_nil ?_
      refine f_keep [1, 2, 7, 8, 37] ?_
      exact s3_j1 happ v1 v2 v3 v4 v5 true H
    · skip
      refine o_know 34 rfl (dec_false h2) ?_
      refine f_op rfl rfl (s_mv (v := .int .i64 v5) rfl) ?_
      refine f_op rfl rfl (s_gtr rfl rfl) ?_
      refine f_op rfl rfl (s_pickF (v := .bool (decide (200 < v5))) rfl rfl) ?_
      refine f_nil ?_
      refine f_keep [1, 2, 7, 8, 37] ?_
      exact s3_j1 happ v1 v2 v3 v4 v5 (decide (200 < v5)) H

theorem s3_l0 {app : App} (happ : AppSim Tryz.prog app) : ∀ (k_ : Nat) (v1 : Int) (v2 : Int) (v3 : Nat) (v4 : Nat) (v5 : Int) (H : Hp), Fin Tryz.prog Tryz.f3 ret3 189 (todoAt (bodyOf Tryz.f3) [1, 1, 1, 0, 0, 0] []) [(1, .int .i64 v1), (2, .int .i64 v2), (7, .ptr v3 v4), (8, .int .i64 v5)] H (r3_l0 app k_ v1 v2 v3 v4 v5 H) := by
  intro k_
  induction k_ with
  | zero => intro _ _ _ _ _ _; exact f_none
  | succ k_ ih =>
    intro v1 v2 v3 v4 v5 H
    rw [r3_l0]
    refine f_seq ?_
    refine f_seq ?_
    refine f_region ?_
    refine f_op rfl rfl (s_mv (v := .ptr v3 v4) rfl) ?_
    refine f_op rfl rfl (s_mv (v := .int .i64 v5) rfl) ?_
    refine o_bind ?_; intro p1 hp1
    refine f_op rfl rfl (s_callF rfl ok10 (sim10 happ hp1)) ?_
    refine f_op rfl rfl (s_eql rfl rfl) ?_
    refine f_op rfl rfl (s_mv (v := .bool (decide (p1.1 = 0))) rfl) ?_
    refine o_if (fun h2 => ?_) (fun h2 => ?_)
    · skip
      refine o_know 26 rfl (dec_true h2) ?_
      refine f_op rfl rfl (s_mv (v := .int .i64 v5) rfl) ?_
      refine f_op rfl rfl (s_lss rfl rfl) ?_
      refine f_op rfl rfl (s_pickT (v := .bool (decide (v5 < 300))) rfl rfl) ?_
      refine f_nil ?_
      refine f_keep [1, 2, 7, 8, 29] ?_
      exact s3_j2 happ _ (fun v1_ v2_ v3_ v4_ v5_ H_ => ih v1_ v2_ v3_ v4_ v5_ H_) v1 v2 v3 v4 v5 (decide (v5 < 300)) p1.2
    · skip
      refine o_know 26 rfl (dec_false h2) ?_
      refine f_no rfl rfl ?_
      refine f_no rfl rfl ?_
      refine f_op rfl rfl (s_pickF (v := .bool false) rfl rfl) ?_
      refine f_nil ?_
      refine f_keep [1, 2, 7, 8, 29] ?_
      exact s3_j2 happ _ (fun v1_ v2_ v3_ v4_ v5_ H_ => ih v1_ v2_ v3_ v4_ v5_ H_) v1 v2 v3 v4 v5 false p1.2

theorem sim3 {app : App} (happ : AppSim Tryz.prog app) {a0 : Sl} {a1 : Int} {a2 : Int} {H : Hp} {p : Bool × Hp} (h : r3 app a0 a1 a2 H = some p) : CallSim Tryz.prog 3 [.sl a0, .int .i64 a1, .int .i64 a2] H (.bool p.1) p.2 := by
  refine callSim (fn := Tryz.f3) (ret := ret3) Tryz.func3 rfl Tryz.ntmps3 rfl ?_ h
  unfold r3
  refine f_seq ?_
  refine f_region ?_
  refine f_op rfl rfl (s_as (v := .bool false) rfl) ?_
  refine f_nil ?_
  refine f_seq ?_
  refine f_region ?_
  refine f_op rfl rfl (s_mv (v := .sl a0) rfl) ?_
  refine o_bind ?_; intro p1 hp1
  refine f_op rfl rfl (s_callF rfl ok9 (sim9 happ hp1)) ?_
  refine f_op rfl rfl (s_as (v := .ptr p1.1.1 p1.1.2) rfl) ?_
  refine f_nil ?_
  refine f_seq ?_
  refine f_region ?_
  refine f_op rfl rfl (s_as (v := .int .i64 0) rfl) ?_
  refine f_nil ?_
  refine f_seq ?_
  refine f_block ?_
  refine f_loop ?_
  refine f_keep [1, 2, 7, 8] ?_
  exact s3_l0 happ FUEL a1 a2 p1.1.1 p1.1.2 0 p1.2

/- 41 (*congou/chest.Chest).has$1 -/
theorem ok41 : FnOk Tryz.prog 41 := ⟨⟨Tryz.f41, Tryz.func41, by kernel_rfl, rfl⟩⟩
theorem sim41 {a0 : Int} {c0 : Nat} {H : Hp} {p : Bool × Hp} (h : r41 a0 c0 H = some p) : CallSim Tryz.prog 41 [.int .i64 a0, .ptr c0 0] H (.bool p.1) p.2 := by
  refine callSim (fn := Tryz.f41) (ret := ret41) Tryz.func41 rfl Tryz.ntmps41 rfl ?_ h
  unfold r41
  refine f_seq ?_
  refine f_region ?_
  refine f_op rfl rfl (s_as (v := .bool false) rfl) ?_
  refine f_nil ?_
  refine f_seq ?_
  refine f_region ?_
  refine f_op rfl rfl (s_mv (v := .int .i64 a0) rfl) ?_
  refine f_op rfl rfl (s_lss rfl rfl) ?_
  refine f_op rfl rfl (s_mv (v := .bool (decide (a0 < 0))) rfl) ?_
  refine o_if (fun h1 => ?_) (fun h1 => ?_)
  · skip
    refine o_know 6 rfl (dec_true h1) ?_
    refine f_no rfl rfl ?_
    refine f_no rfl rfl ?_
    refine f_no rfl rfl ?_
    refine f_no rfl rfl ?_
    refine f_no rfl rfl ?_
    refine f_no rfl rfl ?_
    refine f_no rfl rfl ?_
    refine f_op rfl rfl (s_pickT (v := .bool true) rfl rfl) ?_
    refine f_op rfl rfl (s_as (v := .bool true) rfl) ?_
    refine f_nil ?_
    exact f_ret (.tmp rfl (.nil)) rfl
  · skip
    refine o_know 6 rfl (dec_false h1) ?_
    refine f_op rfl rfl (s_mv (v := .int .i64 a0) rfl) ?_
    refine o_bind ?_; intro x2 hx2
    refine f_op rfl rfl (s_load Tryz.underlying23 rfl rfl (ldP_eq hx2)) ?_
    refine f_op rfl rfl (s_nilCheck rfl) ?_
    refine f_op rfl rfl (s_fieldAddr Tryz.underlying56 rfl ty54 rfl) ?_
    refine o_bind ?_; intro x3 hx3
    refine f_op rfl rfl (s_load Tryz.underlying54 rfl rfl (ldSl_eq hx3)) ?_
    refine f_op rfl rfl (s_lenS rfl Tryz.underlying54 rfl) ?_
    refine f_op rfl rfl (s_geq rfl rfl) ?_
    refine f_op rfl rfl (s_pickF (v := .bool (decide ((x3.len : Int) ≤ a0))) rfl rfl) ?_
    refine f_op rfl rfl (s_as (v := .bool (decide ((x3.len : Int) ≤ a0))) rfl) ?_
    refine f_nil ?_
    exact f_ret (.tmp rfl (.nil)) rfl

/- 101 slices.IndexFunc[[]congou/chest.leaf,congou/chest.leaf] -/
theorem ok101 : FnOk Tryz.prog 101 := ⟨⟨Tryz.f101, Tryz.func101, by kernel_rfl, rfl⟩⟩
theorem s101_l0 {app : App} (happ : AppSim Tryz.prog app) : ∀ (k_ : Nat) (v1 : Sl) (v2 : AV) (v3 : Int) (v4 : Int) (H : Hp), Fin Tryz.prog Tryz.f101 ret101 19 (todoAt (bodyOf Tryz.f101) [1, 0, 1, 0, 0] []) [(0, .sl v1), (1, v2), (7, .int .i64 v3), (8, .int .i64 v4)] H (r101_l0 app k_ v1 v2 v3 v4 H) := by
  intro k_
  induction k_ with
  | zero => intro _ _ _ _ _; exact f_none
  | succ k_ ih =>
    intro v1 v2 v3 v4 H
    rw [r101_l0]
    refine f_seq ?_
    refine f_region ?_
    refine f_op rfl rfl (s_lss rfl rfl) ?_
    refine f_nil ?_
    refine f_seq ?_
    refine f_if (fun h1 => ?_) (fun h1 => ?_)
    · skip
      refine f_know 9 rfl (dec_true h1) ?_
      refine f_condT rfl ?_
      refine f_skip ?_
      refine f_seq ?_
      refine f_block ?_
      refine f_seq ?_
      refine f_region ?_
      refine f_op rfl rfl (s_mv (v := .int .i64 v4) rfl) ?_
      refine f_op rfl rfl (s_as (v := .int .i64 v4) rfl) ?_
      refine f_nil ?_
      refine f_seq ?_
      refine f_region ?_
      refine f_op rfl rfl (s_mv (v := v2) rfl) ?_
      refine f_op rfl rfl (s_mv (v := .sl v1) rfl) ?_
      refine f_op rfl rfl (s_mv (v := .int .i64 v4) rfl) ?_
      refine o_ck fun g2 => ?_
      refine f_op rfl rfl (s_idx Tryz.underlying64 ty93 rfl rfl g2) ?_
      refine o_bind ?_; intro x3 hx3
      refine o_bind ?_; intro x4 hx4
      refine f_op rfl rfl (s_loads Tryz.underlying93 rfl ty93 rfl (lds_cons (ldStr_eq hx3) (lds_cons (ldI_eq hx4) (lds_nil)))) ?_
      refine o_bind ?_; intro p5 hp5
      refine o_bind ?_; intro x6 hx6
      refine f_op rfl rfl (s_callv happ rfl rfl hp5) ?_
      refine o_know 16 rfl (asB_eq hx6) ?_
      refine f_nil ?_
      refine f_if (fun h7 => ?_) (fun h7 => ?_)
      · skip
        refine f_know 16 rfl (bool_T h7) ?_
        refine f_condT rfl ?_
        refine f_seq ?_
        refine f_region ?_
        refine f_op rfl rfl (s_mv (v := .int .i64 v4) rfl) ?_
        refine f_op rfl rfl (s_as (v := .int .i64 v4) rfl) ?_
        refine f_nil ?_
        exact f_ret (.tmp rfl (.nil)) rfl
      · skip
        refine f_know 16 rfl (bool_F h7) ?_
        refine f_condF rfl ?_
        refine f_skip ?_
        refine f_inBlock ?_
        refine f_region ?_
        refine f_op rfl rfl (s_add rfl rfl) ?_
        refine f_op rfl rfl (s_mv (v := .int .i64 (w64 (v4 + 1))) rfl) ?_
        refine f_nil ?_
        refine f_inLoop ?_
        refine f_keep [0, 1, 7, 8] ?_
        exact ih v1 v2 v3 (w64 (v4 + 1)) p5.2
    · skip
      refine f_know 9 rfl (dec_false h1) ?_
      refine f_condF rfl ?_
      refine f_exit rfl ?_
      refine f_seq ?_
      refine f_region ?_
      refine f_op rfl rfl (s_as (v := .int .i64 (-1)) rfl) ?_
      refine f_nil ?_
      exact f_ret (.tmp rfl (.nil)) rfl

theorem sim101 {app : App} (happ : AppSim Tryz.prog app) {a0 : Sl} {a1 : AV} {H : Hp} {p : Int × Hp} (h : r101 app a0 a1 H = some p) : CallSim Tryz.prog 101 [.sl a0, a1] H (.int .i64 p.1) p.2 := by
  refine callSim (fn := Tryz.f101) (ret := ret101) Tryz.func101 rfl Tryz.ntmps101 rfl ?_ h
  unfold r101
  refine f_seq ?_
  refine f_region ?_
  refine f_op rfl rfl (s_as (v := .int .i64 0) rfl) ?_
  refine f_nil ?_
  refine f_seq ?_
  refine f_seq ?_
  refine f_region ?_
  refine f_op rfl rfl (s_mv (v := .sl a0) rfl) ?_
  refine f_op rfl rfl (s_lenS rfl Tryz.underlying64 rfl) ?_
  refine f_op rfl rfl (s_mv (v := .int .i64 0) rfl) ?_
  refine f_nil ?_
  refine f_block ?_
  refine f_loop ?_
  refine f_keep [0, 1, 7, 8] ?_
  exact s101_l0 happ FUEL a0 a1 (a0.len : Int) 0 H

/- 75 (*congou/chest.state).find -/
theorem ok75 : FnOk Tryz.prog 75 := ⟨⟨Tryz.f75, Tryz.func75, by kernel_rfl, rfl⟩⟩
theorem sim75 {app : App} (happ : AppSim Tryz.prog app) {a0b : Nat} {a0o : Nat} {a1 : ByteArray} {H : Hp} {p : Int × Hp} (h : r75 app a0b a0o a1 H = some p) : CallSim Tryz.prog 75 [.ptr a0b a0o, .str a1] H (.int .i64 p.1) p.2 := by
  refine callSim (fn := Tryz.f75) (ret := ret75) Tryz.func75 rfl Tryz.ntmps75 rfl ?_ h
  unfold r75
  refine f_seq ?_
  refine f_region ?_
  refine f_op rfl rfl (s_box1 (v := .str a1) rfl rfl) ?_
  refine f_op rfl rfl (s_as (v := .int .i64 0) rfl) ?_
  refine o_hp ?_; intro H1 hH1
  refine f_nil ?_
  refine f_seq ?_
  refine f_region ?_
  refine f_op rfl rfl (s_mv (v := .ptr a0b a0o) rfl) ?_
  refine f_op rfl rfl (s_nilCheck rfl) ?_
  refine f_op rfl rfl (s_fieldAddr Tryz.underlying69 rfl ty64 rfl) ?_
  refine o_bind ?_; intro x2 hx2
  refine f_op rfl rfl (s_load Tryz.underlying64 rfl rfl (ldSl_eq hx2)) ?_
  refine f_op rfl rfl (s_makeFunc rfl rfl) ?_
  refine o_bind ?_; intro p3 hp3
  refine f_op rfl rfl (s_callF rfl ok101 (sim101 happ hp3)) ?_
  refine f_op rfl rfl (s_as (v := .int .i64 p3.1) rfl) ?_
  refine f_nil ?_
  exact f_ret (.tmp rfl (.nil)) rfl

end Go.Lt.P10
