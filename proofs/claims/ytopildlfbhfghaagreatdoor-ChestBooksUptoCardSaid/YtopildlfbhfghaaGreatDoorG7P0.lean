/- PRINTED BY A PROGRAM OF OURS: what each function that 'ChestBooks' reaches computes on the abstract heap, and that the translated code does just that. Nothing is asked of the input. -/
import Derived.Test.YtopildlfbhfghaaGreatDoorG7R1
set_option linter.unusedVariables false
set_option linter.unusedSimpArgs false
set_option maxRecDepth 100000
set_option maxHeartbeats 4000000
namespace Go.Lt.P10
open Go Go.Lt Go.Proofs
/- 21 slices.Equal[[]int,int] -/
theorem ok21 : FnOk Tryz.prog 21 := ⟨⟨Tryz.f21, Tryz.func21, by kernel_rfl, rfl⟩⟩
theorem s21_l0 : ∀ (k_ : Nat) (v1 : Sl) (v2 : Sl) (v3 : Int) (v4 : Int) (H : Hp), Fin Tryz.prog Tryz.f21 ret21 26 (todoAt (bodyOf Tryz.f21) [1, 1, 0, 1, 0, 0] []) [(0, .sl v1), (1, .sl v2), (12, .int .i64 v3), (13, .int .i64 v4)] H (r21_l0 k_ v1 v2 v3 v4 H) := by
  intro k_
  induction k_ with
  | zero => intro _ _ _ _ _; exact f_none
  | succ k_ ih =>
    intro v1 v2 v3 v4 H
    rw [r21_l0]
    refine f_seq ?_
    refine f_region ?_
    refine f_op rfl rfl (s_lss rfl rfl) ?_
    refine f_nil ?_
    refine f_seq ?_
    refine f_if (fun h1 => ?_) (fun h1 => ?_)
    · skip
      refine f_know 14 rfl (dec_true h1) ?_
      refine f_condT rfl ?_
      refine f_skip ?_
      refine f_seq ?_
      refine f_block ?_
      refine f_seq ?_
      refine f_region ?_
      refine f_op rfl rfl (s_mv (v := .int .i64 v4) rfl) ?_
      refine f_op rfl rfl (s_as (v := .int .i64 v4) rfl) ?_
      refine f_nil ?_
      refine f_seq ?_
      refine f_ck fun g2 => ?_
      refine f_bind ?_; intro x3 hx3
      refine f_ck fun g4 => ?_
      refine f_bind ?_; intro x5 hx5
      refine f_draw (Φ := fun _ => True) (lim := 1000000) [0, 0, 0, 1, 0, 0, 0, 1, 0] (Trc.pure rfl rfl rfl (.inl fun _ => s_mv (v := .sl v1) rfl) (Trc.pure rfl rfl rfl (.inl fun _ => s_mv (v := .int .i64 v4) rfl) (Trc.pure rfl rfl rfl (.inl fun _ => s_idx Tryz.underlying25 ty3 rfl rfl g2) (Trc.read rfl rfl rfl (s_load Tryz.underlying3 rfl rfl (ldI_eq hx3)) (Trc.pure rfl rfl rfl (.inl fun _ => s_mv (v := .sl v2) rfl) (Trc.pure rfl rfl rfl (.inl fun _ => s_mv (v := .int .i64 v4) rfl) (Trc.pure rfl rfl rfl (.inl fun _ => s_idx Tryz.underlying25 ty3 rfl rfl g4) (Trc.read rfl rfl rfl (s_load Tryz.underlying3 rfl rfl (ldI_eq hx5)) (Trc.pure rfl rfl rfl (.inl fun _ => s_neq rfl rfl) (Trc.nil (fun _ => trivial))))))))))) rfl (by decide +kernel) mixed ?_
      refine f_if (fun h6 => ?_) (fun h6 => ?_)
      · skip
        refine f_know 24 rfl (dec_true h6) ?_
        refine f_condT rfl ?_
        refine f_seq ?_
        refine f_region ?_
        refine f_op rfl rfl (s_as (v := .bool false) rfl) ?_
        refine f_nil ?_
        exact f_ret (.tmp rfl (.nil)) rfl
      · skip
        refine f_know 24 rfl (dec_false h6) ?_
        refine f_condF rfl ?_
        refine f_skip ?_
        refine f_inBlock ?_
        refine f_region ?_
        refine f_op rfl rfl (s_add rfl rfl) ?_
        refine f_op rfl rfl (s_mv (v := .int .i64 (w64 (v4 + 1))) rfl) ?_
        refine f_nil ?_
        refine f_inLoop ?_
        refine f_keep [0, 1, 12, 13] ?_
        exact ih v1 v2 v3 (w64 (v4 + 1)) H
    · skip
      refine f_know 14 rfl (dec_false h1) ?_
      refine f_condF rfl ?_
      refine f_exit rfl ?_
      refine f_seq ?_
      refine f_region ?_
      refine f_op rfl rfl (s_as (v := .bool true) rfl) ?_
      refine f_nil ?_
      exact f_ret (.tmp rfl (.nil)) rfl

theorem sim21 {a0 : Sl} {a1 : Sl} {H : Hp} {p : Bool × Hp} (h : r21 a0 a1 H = some p) : CallSim Tryz.prog 21 [.sl a0, .sl a1] H (.bool p.1) p.2 := by
  refine callSim (fn := Tryz.f21) (ret := ret21) Tryz.func21 rfl Tryz.ntmps21 rfl ?_ h
  unfold r21
  refine f_seq ?_
  refine f_region ?_
  refine f_op rfl rfl (s_as (v := .bool false) rfl) ?_
  refine f_nil ?_
  refine f_seq ?_
  refine f_seq ?_
  refine f_region ?_
  refine f_op rfl rfl (s_mv (v := .sl a0) rfl) ?_
  refine f_op rfl rfl (s_lenS rfl Tryz.underlying25 rfl) ?_
  refine f_op rfl rfl (s_mv (v := .sl a1) rfl) ?_
  refine f_op rfl rfl (s_lenS rfl Tryz.underlying25 rfl) ?_
  refine f_op rfl rfl (s_neq rfl rfl) ?_
  refine f_nil ?_
  refine f_if (fun h1 => ?_) (fun h1 => ?_)
  · skip
    refine f_know 10 rfl (dec_true h1) ?_
    refine f_condT rfl ?_
    refine f_seq ?_
    refine f_region ?_
    refine f_op rfl rfl (s_as (v := .bool false) rfl) ?_
    refine f_nil ?_
    exact f_ret (.tmp rfl (.nil)) rfl
  · skip
    refine f_know 10 rfl (dec_false h1) ?_
    refine f_condF rfl ?_
    refine f_skip ?_
    refine f_seq ?_
    refine f_seq ?_
    refine f_region ?_
    refine f_op rfl rfl (s_mv (v := .sl a0) rfl) ?_
    refine f_op rfl rfl (s_lenS rfl Tryz.underlying25 rfl) ?_
    refine f_op rfl rfl (s_mv (v := .int .i64 0) rfl) ?_
    refine f_nil ?_
    refine f_block ?_
    refine f_loop ?_
    refine f_keep [0, 1, 12, 13] ?_
    exact s21_l0 FUEL a0 a1 (a0.len : Int) 0 H

/- 60 (*congou/chest.Chest).none -/
theorem ok60 : FnOk Tryz.prog 60 := ⟨⟨Tryz.f60, Tryz.func60, by kernel_rfl, rfl⟩⟩
theorem sim60 {a0b : Nat} {a0o : Nat} {H : Hp} {p : Bool × Hp} (h : r60 a0b a0o H = some p) : CallSim Tryz.prog 60 [.ptr a0b a0o] H (.bool p.1) p.2 := by
  refine callSim (fn := Tryz.f60) (ret := ret60) Tryz.func60 rfl Tryz.ntmps60 rfl ?_ h
  unfold r60
  refine f_seq ?_
  refine f_region ?_
  refine f_op rfl rfl (s_as (v := .bool false) rfl) ?_
  refine f_nil ?_
  refine f_seq ?_
  refine f_region ?_
  refine f_op rfl rfl (s_mv (v := .ptr a0b a0o) rfl) ?_
  refine f_op rfl rfl (s_eqPN Tryz.underlying23 rfl rfl) ?_
  refine f_op rfl rfl (s_mv (v := .bool false) rfl) ?_
  refine f_op rfl rfl (s_mv (v := .ptr a0b a0o) rfl) ?_
  refine f_op rfl rfl (s_nilCheck rfl) ?_
  refine f_op rfl rfl (s_fieldAddr Tryz.underlying118 rfl ty116 rfl) ?_
  refine o_bind ?_; intro x1 hx1
  refine f_op rfl rfl (s_load Tryz.underlying116 rfl rfl (ldSl_eq hx1)) ?_
  refine f_op rfl rfl (s_lenS rfl Tryz.underlying116 rfl) ?_
  refine f_op rfl rfl (s_eql rfl rfl) ?_
  refine f_op rfl rfl (s_pickF (v := .bool (decide ((x1.len : Int) = 0))) rfl rfl) ?_
  refine f_op rfl rfl (s_as (v := .bool (decide ((x1.len : Int) = 0))) rfl) ?_
  refine f_nil ?_
  exact f_ret (.tmp rfl (.nil)) rfl

/- 61 (*congou/chest.Chest).now -/
theorem ok61 : FnOk Tryz.prog 61 := ⟨⟨Tryz.f61, Tryz.func61, by kernel_rfl, rfl⟩⟩
theorem sim61 {a0b : Nat} {a0o : Nat} {H : Hp} {p : (Nat × Nat) × Hp} (h : r61 a0b a0o H = some p) : CallSim Tryz.prog 61 [.ptr a0b a0o] H (.ptr p.1.1 p.1.2) p.2 := by
  refine callSim (fn := Tryz.f61) (ret := ret61) Tryz.func61 rfl Tryz.ntmps61 rfl ?_ h
  unfold r61
  refine f_seq ?_
  refine f_region ?_
  refine f_op rfl rfl (s_as (v := .nilptr) rfl) ?_
  refine f_nil ?_
  refine f_seq ?_
  refine f_bind ?_; intro x1 hx1
  refine f_bind ?_; intro x2 hx2
  refine f_ck fun g3 => ?_
  refine f_bind ?_; intro x4 hx4
  refine f_draw (Φ := fun _ => True) (lim := 1000000) [0, 0, 0, 1, 0, 0, 0, 1, 0, 0, 1, 0] (Trc.pure rfl rfl rfl (.inl fun _ => s_mv (v := .ptr a0b a0o) rfl) (Trc.pure rfl rfl rfl (.inl fun _ => s_nilCheck rfl) (Trc.pure rfl rfl rfl (.inl fun _ => s_fieldAddr Tryz.underlying118 rfl ty116 rfl) (Trc.read rfl rfl rfl (s_load Tryz.underlying116 rfl rfl (ldSl_eq hx1)) (Trc.pure rfl rfl rfl (.inl fun _ => s_mv (v := .ptr a0b a0o) rfl) (Trc.pure rfl rfl rfl (.inl fun _ => s_nilCheck rfl) (Trc.pure rfl rfl rfl (.inl fun _ => s_fieldAddr Tryz.underlying118 rfl ty3 rfl) (Trc.read rfl rfl rfl (s_load Tryz.underlying3 rfl rfl (ldI_eq hx2)) (Trc.pure rfl rfl rfl (.inl fun _ => s_idx Tryz.underlying116 ty120 rfl rfl g3) (Trc.pure rfl rfl rfl (.inl fun _ => s_fieldAddr Tryz.underlying120 rfl ty109 rfl) (Trc.read rfl rfl rfl (s_load Tryz.underlying109 rfl rfl (ldP_eq hx4)) (Trc.pure rfl rfl rfl (.inl fun _ => s_as (v := .ptr x4.1 x4.2) rfl) (Trc.nil (fun _ => trivial)))))))))))))) rfl (by decide +kernel) mixed ?_
  exact f_ret (.tmp rfl (.nil)) rfl

/- 246 internal/stringslite.IndexByte -/
theorem ok246 : FnOk Tryz.prog 246 := ⟨⟨Tryz.f246, Tryz.func246, by kernel_rfl, rfl⟩⟩
theorem sim246 {a0 : ByteArray} {a1 : Int} {H : Hp} {p : Int × Hp} (h : r246 a0 a1 H = some p) : CallSim Tryz.prog 246 [.str a0, .int .u8 a1] H (.int .i64 p.1) p.2 := by
  refine callSim (fn := Tryz.f246) (ret := ret246) Tryz.func246 rfl Tryz.ntmps246 rfl ?_ h
  unfold r246
  refine f_seq ?_
  refine f_region ?_
  refine f_op rfl rfl (s_as (v := .int .i64 0) rfl) ?_
  refine f_nil ?_
  refine f_seq ?_
  refine f_region ?_
  refine f_op rfl rfl (s_mv (v := .str a0) rfl) ?_
  refine f_op rfl rfl (s_mv (v := .int .u8 a1) rfl) ?_
  refine f_op rfl rfl (s_idxByte rfl ext308) ?_
  refine f_op rfl rfl (s_as (v := .int .i64 (strIdx a0 a1)) rfl) ?_
  refine f_nil ?_
  exact f_ret (.tmp rfl (.nil)) rfl

/- 248 internal/bytealg.Cutover -/
theorem ok248 : FnOk Tryz.prog 248 := ⟨⟨Tryz.f248, Tryz.func248, by kernel_rfl, rfl⟩⟩
theorem sim248 {a0 : Int} {H : Hp} {p : Int × Hp} (h : r248 a0 H = some p) : CallSim Tryz.prog 248 [.int .i64 a0] H (.int .i64 p.1) p.2 := by
  refine callSim (fn := Tryz.f248) (ret := ret248) Tryz.func248 rfl Tryz.ntmps248 rfl ?_ h
  unfold r248
  refine f_seq ?_
  refine f_region ?_
  refine f_op rfl rfl (s_as (v := .int .i64 0) rfl) ?_
  refine f_nil ?_
  refine f_seq ?_
  refine f_region ?_
  refine f_op rfl rfl (s_mv (v := .int .i64 a0) rfl) ?_
  refine f_op rfl rfl (s_add rfl rfl) ?_
  refine f_op rfl rfl (s_quo rfl rfl (by decide)) ?_
  refine f_op rfl rfl (s_as (v := .int .i64 (w64 (Int.tdiv (w64 (a0 + 16)) 8))) rfl) ?_
  refine f_nil ?_
  exact f_ret (.tmp rfl (.nil)) rfl

/- 193 internal/stringslite.Index -/
theorem ok193 : FnOk Tryz.prog 193 := ⟨⟨Tryz.f193, Tryz.func193, by kernel_rfl, rfl⟩⟩
theorem s193_j0 (v1 : ByteArray) (v2 : ByteArray) (v3 : Int) (v4 : Bool) (H : Hp) : Fin Tryz.prog Tryz.f193 ret193 143 (todoAt (bodyOf Tryz.f193) [1, 1, 0, 0, 1] []) [(0, .str v1), (1, .str v2), (5, .int .i64 v3), (16, .bool v4)] H (r193_j0 v1 v2 v3 v4 H) := by
  unfold r193_j0
  refine f_if (fun h1 => ?_) (fun h1 => ?_)
  · skip
    refine f_know 16 rfl (bool_T h1) ?_
    refine f_condT rfl ?_
    refine f_seq ?_
    refine f_region ?_
    refine f_op rfl rfl (s_as (v := .int .i64 0) rfl) ?_
    refine f_nil ?_
    exact f_ret (.tmp rfl (.nil)) rfl
  · skip
    refine f_know 16 rfl (bool_F h1) ?_
    refine f_condF rfl ?_
    refine f_seq ?_
    refine f_region ?_
    refine f_op rfl rfl (s_mv (v := .int .i64 v3) rfl) ?_
    refine f_op rfl rfl (s_eql rfl rfl) ?_
    refine f_op rfl rfl (s_as (v := .bool (decide (v3 = 1))) rfl) ?_
    refine f_nil ?_
    refine f_if (fun h2 => ?_) (fun h2 => ?_)
    · skip
      refine f_know 24 rfl (dec_true h2) ?_
      refine f_condT rfl ?_
      refine f_seq ?_
      refine f_region ?_
      refine f_op rfl rfl (s_mv (v := .str v1) rfl) ?_
      refine f_op rfl rfl (s_mv (v := .str v2) rfl) ?_
      refine o_ck fun g3 => ?_
      refine f_op rfl rfl (s_indexStr Tryz.underlying9 rfl rfl g3) ?_
      refine o_bind ?_; intro p4 hp4
      refine f_op rfl rfl (s_callF rfl ok246 (sim246 hp4)) ?_
      refine f_op rfl rfl (s_as (v := .int .i64 p4.1) rfl) ?_
      refine f_nil ?_
      exact f_ret (.tmp rfl (.nil)) rfl
    · skip
      refine f_know 24 rfl (dec_false h2) ?_
      refine f_condF rfl ?_
      refine f_seq ?_
      refine f_region ?_
      refine f_op rfl rfl (s_mv (v := .int .i64 v3) rfl) ?_
      refine f_op rfl rfl (s_mv (v := .str v1) rfl) ?_
      refine f_op rfl rfl (s_lenStr rfl Tryz.underlying9 rfl) ?_
      refine f_op rfl rfl (s_geq rfl rfl) ?_
      refine f_op rfl rfl (s_as (v := .bool (decide ((v1.size : Int) ≤ v3))) rfl) ?_
      refine f_nil ?_
      refine f_if (fun h5 => ?_) (fun h5 => ?_)
      · skip
        refine f_know 31 rfl (dec_true h5) ?_
        refine f_condT rfl ?_
        refine f_seq ?_
        refine f_region ?_
        refine f_op rfl rfl (s_as (v := .int .i64 (-1)) rfl) ?_
        refine f_nil ?_
        exact f_ret (.tmp rfl (.nil)) rfl
      · skip
        refine f_know 31 rfl (dec_false h5) ?_
        refine f_condF rfl ?_
        refine f_seq ?_
        refine f_region ?_
        refine f_op rfl rfl (s_mv (v := .int .i64 v3) rfl) ?_
        exact o_none

theorem sim193 {a0 : ByteArray} {a1 : ByteArray} {H : Hp} {p : Int × Hp} (h : r193 a0 a1 H = some p) : CallSim Tryz.prog 193 [.str a0, .str a1] H (.int .i64 p.1) p.2 := by
  refine callSim (fn := Tryz.f193) (ret := ret193) Tryz.func193 rfl Tryz.ntmps193 rfl ?_ h
  unfold r193
  refine f_seq ?_
  refine f_region ?_
  refine f_op rfl rfl (s_as (v := .int .i64 0) rfl) ?_
  refine f_nil ?_
  refine f_seq ?_
  refine f_region ?_
  refine f_op rfl rfl (s_mv (v := .str a1) rfl) ?_
  refine f_op rfl rfl (s_lenStr rfl Tryz.underlying9 rfl) ?_
  refine f_op rfl rfl (s_as (v := .int .i64 (a1.size : Int)) rfl) ?_
  refine f_nil ?_
  refine f_seq ?_
  refine f_block ?_
  refine f_seq ?_
  refine f_region ?_
  refine f_op rfl rfl (s_mv (v := .int .i64 (a1.size : Int)) rfl) ?_
  refine f_op rfl rfl (s_eql rfl rfl) ?_
  refine f_op rfl rfl (s_mv (v := .bool (decide ((a1.size : Int) = 0))) rfl) ?_
  refine o_if (fun h1 => ?_) (fun h1 => ?_)
  · skip
    refine o_know 19 rfl (dec_true h1) ?_
    refine f_no rfl rfl ?_
    refine f_no rfl rfl ?_
    refine f_no rfl rfl ?_
    refine f_op rfl rfl (s_pickT (v := .bool true) rfl rfl) ?_
    refine f_op rfl rfl (s_as (v := .bool true) rfl) ?_
    refine f_nil ?_
    refine f_keep [0, 1, 5, 16] ?_
    exact s193_j0 a0 a1 (a1.size : Int) true H
  · skip
    refine o_know 19 rfl (dec_false h1) ?_
    refine f_op rfl rfl (s_mv (v := .str a1) rfl) ?_
    refine f_op rfl rfl (s_mv (v := .str a0) rfl) ?_
    refine f_op rfl rfl (s_eqStr rfl rfl) ?_
    refine f_op rfl rfl (s_pickF (v := .bool (strEq a1 a0)) rfl rfl) ?_
    refine f_op rfl rfl (s_as (v := .bool (strEq a1 a0)) rfl) ?_
    refine f_nil ?_
    refine f_keep [0, 1, 5, 16] ?_
    exact s193_j0 a0 a1 (a1.size : Int) (strEq a1 a0) H

/- 152 internal/stringslite.Cut -/
theorem ok152 : FnOk Tryz.prog 152 := ⟨⟨Tryz.f152, Tryz.func152, by kernel_rfl, rfl⟩⟩
theorem sim152 {a0 : ByteArray} {a1 : ByteArray} {H : Hp} {p : (ByteArray × ByteArray × Bool) × Hp} (h : r152 a0 a1 H = some p) : CallSim Tryz.prog 152 [.str a0, .str a1] H (.tup [.str p.1.1, .str p.1.2.1, .bool p.1.2.2]) p.2 := by
  refine callSim (fn := Tryz.f152) (ret := ret152) Tryz.func152 rfl Tryz.ntmps152 rfl ?_ h
  unfold r152
  refine f_seq ?_
  refine f_region ?_
  refine f_op rfl rfl (s_as (v := .str (ByteArray.mk #[])) rfl) ?_
  refine f_op rfl rfl (s_as (v := .str (ByteArray.mk #[])) rfl) ?_
  refine f_op rfl rfl (s_as (v := .bool false) rfl) ?_
  refine f_nil ?_
  refine f_seq ?_
  refine f_seq ?_
  refine f_region ?_
  refine f_op rfl rfl (s_mv (v := .str a0) rfl) ?_
  refine f_op rfl rfl (s_mv (v := .str a1) rfl) ?_
  refine o_bind ?_; intro p1 hp1
  refine f_op rfl rfl (s_callF rfl ok193 (sim193 hp1)) ?_
  refine f_op rfl rfl (s_as (v := .int .i64 p1.1) rfl) ?_
  refine f_nil ?_
  refine f_seq ?_
  refine f_region ?_
  refine f_op rfl rfl (s_mv (v := .int .i64 p1.1) rfl) ?_
  refine f_op rfl rfl (s_geq rfl rfl) ?_
  refine f_nil ?_
  refine f_if (fun h2 => ?_) (fun h2 => ?_)
  · skip
    refine f_know 12 rfl (dec_true h2) ?_
    refine f_condT rfl ?_
    refine f_seq ?_
    refine f_ck fun g3 => ?_
    refine f_ck fun g4 => ?_
    refine f_draw (Φ := fun _ => True) (lim := 1000000) [0, 0, 0, 0, 0, 0, 0, 0, 0, 0, 0, 0] (Trc.pure rfl rfl rfl (.inl fun _ => s_mv (v := .str a0) rfl) (Trc.pure rfl rfl rfl (.inl fun _ => s_mv (v := .int .i64 p1.1) rfl) (Trc.pure rfl rfl rfl (.inl fun _ => s_sliceStr Tryz.underlying9 rfl rfl rfl g3) (Trc.pure rfl rfl rfl (.inl fun _ => s_mv (v := .str a0) rfl) (Trc.pure rfl rfl rfl (.inl fun _ => s_mv (v := .int .i64 p1.1) rfl) (Trc.pure rfl rfl rfl (.inl fun _ => s_mv (v := .str a1) rfl) (Trc.pure rfl rfl rfl (.inl fun _ => s_lenStr rfl Tryz.underlying9 rfl) (Trc.pure rfl rfl rfl (.inl fun _ => s_add rfl rfl) (Trc.pure rfl rfl rfl (.inl fun _ => s_sliceStr Tryz.underlying9 rfl rfl rfl g4) (Trc.pure rfl rfl rfl (.inl fun _ => s_as (v := .str (a0.extract (0 : Int).toNat (p1.1 : Int).toNat)) rfl) (Trc.pure rfl rfl rfl (.inl fun _ => s_as (v := .str (a0.extract (w64 (p1.1 + (a1.size : Int)) : Int).toNat ((a0.size : Int) : Int).toNat)) rfl) (Trc.pure rfl rfl rfl (.inl fun _ => s_as (v := .bool true) rfl) (Trc.nil (fun _ => trivial)))))))))))))) rfl (by decide +kernel) mixed ?_
    exact f_ret (.tmp rfl (.tmp rfl (.tmp rfl (.nil)))) rfl
  · skip
    refine f_know 12 rfl (dec_false h2) ?_
    refine f_condF rfl ?_
    refine f_skip ?_
    refine f_seq ?_
    refine f_region ?_
    refine f_op rfl rfl (s_mv (v := .str a0) rfl) ?_
    refine f_op rfl rfl (s_as (v := .str a0) rfl) ?_
    refine f_op rfl rfl (s_as (v := .str (ByteArray.mk #[])) rfl) ?_
    refine f_op rfl rfl (s_as (v := .bool false) rfl) ?_
    refine f_nil ?_
    exact f_ret (.tmp rfl (.tmp rfl (.tmp rfl (.nil)))) rfl

/- 97 strings.Cut -/
theorem ok97 : FnOk Tryz.prog 97 := ⟨⟨Tryz.f97, Tryz.func97, by kernel_rfl, rfl⟩⟩
theorem sim97 {a0 : ByteArray} {a1 : ByteArray} {H : Hp} {p : (ByteArray × ByteArray × Bool) × Hp} (h : r97 a0 a1 H = some p) : CallSim Tryz.prog 97 [.str a0, .str a1] H (.tup [.str p.1.1, .str p.1.2.1, .bool p.1.2.2]) p.2 := by
  refine callSim (fn := Tryz.f97) (ret := ret97) Tryz.func97 rfl Tryz.ntmps97 rfl ?_ h
  unfold r97
  refine f_seq ?_
  refine f_region ?_
  refine f_op rfl rfl (s_as (v := .str (ByteArray.mk #[])) rfl) ?_
  refine f_op rfl rfl (s_as (v := .str (ByteArray.mk #[])) rfl) ?_
  refine f_op rfl rfl (s_as (v := .bool false) rfl) ?_
  refine f_nil ?_
  refine f_seq ?_
  refine f_region ?_
  refine f_op rfl rfl (s_mv (v := .str a0) rfl) ?_
  refine f_op rfl rfl (s_mv (v := .str a1) rfl) ?_
  refine o_bind ?_; intro p1 hp1
  refine f_op rfl rfl (s_callF rfl ok152 (sim152 hp1)) ?_
  refine f_op rfl rfl (s_extract (r := .str p1.1.1) rfl rfl) ?_
  refine f_op rfl rfl (s_extract (r := .str p1.1.2.1) rfl rfl) ?_
  refine f_op rfl rfl (s_extract (r := .bool p1.1.2.2) rfl rfl) ?_
  refine f_op rfl rfl (s_as (v := .str p1.1.1) rfl) ?_
  refine f_op rfl rfl (s_as (v := .str p1.1.2.1) rfl) ?_
  refine f_op rfl rfl (s_as (v := .bool p1.1.2.2) rfl) ?_
  refine f_nil ?_
  exact f_ret (.tmp rfl (.tmp rfl (.tmp rfl (.nil)))) rfl

/- 146 strings.Index -/
theorem ok146 : FnOk Tryz.prog 146 := ⟨⟨Tryz.f146, Tryz.func146, by kernel_rfl, rfl⟩⟩
theorem sim146 {a0 : ByteArray} {a1 : ByteArray} {H : Hp} {p : Int × Hp} (h : r146 a0 a1 H = some p) : CallSim Tryz.prog 146 [.str a0, .str a1] H (.int .i64 p.1) p.2 := by
  refine callSim (fn := Tryz.f146) (ret := ret146) Tryz.func146 rfl Tryz.ntmps146 rfl ?_ h
  unfold r146
  refine f_seq ?_
  refine f_region ?_
  refine f_op rfl rfl (s_as (v := .int .i64 0) rfl) ?_
  refine f_nil ?_
  refine f_seq ?_
  refine f_region ?_
  refine f_op rfl rfl (s_mv (v := .str a0) rfl) ?_
  refine f_op rfl rfl (s_mv (v := .str a1) rfl) ?_
  refine o_bind ?_; intro p1 hp1
  refine f_op rfl rfl (s_callF rfl ok193 (sim193 hp1)) ?_
  refine f_op rfl rfl (s_as (v := .int .i64 p1.1) rfl) ?_
  refine f_nil ?_
  exact f_ret (.tmp rfl (.nil)) rfl

/- 145 strings.Count -/
theorem ok145 : FnOk Tryz.prog 145 := ⟨⟨Tryz.f145, Tryz.func145, by kernel_rfl, rfl⟩⟩
theorem s145_l0 : ∀ (k_ : Nat) (v1 : ByteArray) (v2 : ByteArray) (v3 : Int) (H : Hp), Fin Tryz.prog Tryz.f145 ret145 34 (todoAt (bodyOf Tryz.f145) [1, 1, 1, 1, 0, 0] []) [(0, .str v1), (1, .str v2), (5, .int .i64 v3)] H (r145_l0 k_ v1 v2 v3 H) := by
  intro k_
  induction k_ with
  | zero => intro _ _ _ _; exact f_none
  | succ k_ ih =>
    intro v1 v2 v3 H
    rw [r145_l0]
    refine f_block ?_
    refine f_seq ?_
    refine f_region ?_
    refine f_op rfl rfl (s_mv (v := .str v1) rfl) ?_
    refine f_op rfl rfl (s_mv (v := .str v2) rfl) ?_
    refine o_bind ?_; intro p1 hp1
    refine f_op rfl rfl (s_callF rfl ok146 (sim146 hp1)) ?_
    refine f_op rfl rfl (s_as (v := .int .i64 p1.1) rfl) ?_
    refine f_nil ?_
    refine f_seq ?_
    refine f_seq ?_
    refine f_region ?_
    refine f_op rfl rfl (s_mv (v := .int .i64 p1.1) rfl) ?_
    refine f_op rfl rfl (s_eql rfl rfl) ?_
    refine f_nil ?_
    refine f_if (fun h2 => ?_) (fun h2 => ?_)
    · skip
      refine f_know 24 rfl (dec_true h2) ?_
      refine f_condT rfl ?_
      refine f_seq ?_
      refine f_region ?_
      refine f_op rfl rfl (s_mv (v := .int .i64 v3) rfl) ?_
      refine f_op rfl rfl (s_as (v := .int .i64 v3) rfl) ?_
      refine f_nil ?_
      exact f_ret (.tmp rfl (.nil)) rfl
    · skip
      refine f_know 24 rfl (dec_false h2) ?_
      refine f_condF rfl ?_
      refine f_skip ?_
      refine f_seq ?_
      refine f_region ?_
      refine f_op rfl rfl (s_mv (v := .int .i64 v3) rfl) ?_
      refine f_op rfl rfl (s_add rfl rfl) ?_
      refine f_op rfl rfl (s_as (v := .int .i64 (w64 (v3 + 1))) rfl) ?_
      refine f_nil ?_
      refine f_region ?_
      refine f_op rfl rfl (s_mv (v := .str v1) rfl) ?_
      refine f_op rfl rfl (s_mv (v := .int .i64 p1.1) rfl) ?_
      refine f_op rfl rfl (s_mv (v := .str v2) rfl) ?_
      refine f_op rfl rfl (s_lenStr rfl Tryz.underlying9 rfl) ?_
      refine f_op rfl rfl (s_add rfl rfl) ?_
      refine o_ck fun g3 => ?_
      refine f_op rfl rfl (s_sliceStr Tryz.underlying9 rfl rfl rfl g3) ?_
      refine f_op rfl rfl (s_as (v := .str (v1.extract (w64 (p1.1 + (v2.size : Int)) : Int).toNat ((v1.size : Int) : Int).toNat)) rfl) ?_
      refine f_nil ?_
      refine f_inBlock ?_
      refine f_inLoop ?_
      refine f_keep [0, 1, 5] ?_
      exact ih (v1.extract (w64 (p1.1 + (v2.size : Int)) : Int).toNat ((v1.size : Int) : Int).toNat) v2 (w64 (v3 + 1)) p1.2

theorem sim145 {a0 : ByteArray} {a1 : ByteArray} {H : Hp} {p : Int × Hp} (h : r145 a0 a1 H = some p) : CallSim Tryz.prog 145 [.str a0, .str a1] H (.int .i64 p.1) p.2 := by
  refine callSim (fn := Tryz.f145) (ret := ret145) Tryz.func145 rfl Tryz.ntmps145 rfl ?_ h
  unfold r145
  refine f_seq ?_
  refine f_region ?_
  refine f_op rfl rfl (s_as (v := .int .i64 0) rfl) ?_
  refine f_nil ?_
  refine f_seq ?_
  refine f_seq ?_
  refine f_region ?_
  refine f_op rfl rfl (s_mv (v := .str a1) rfl) ?_
  refine f_op rfl rfl (s_lenStr rfl Tryz.underlying9 rfl) ?_
  refine f_op rfl rfl (s_eql rfl rfl) ?_
  refine f_nil ?_
  refine f_if (fun h1 => ?_) (fun h1 => ?_)
  · skip
    refine f_know 9 rfl (dec_true h1) ?_
    refine f_condT rfl ?_
    refine f_seq ?_
    refine f_region ?_
    refine f_op rfl rfl (s_mv (v := .str a0) rfl) ?_
    exact o_none
  · skip
    refine f_know 9 rfl (dec_false h1) ?_
    refine f_condF rfl ?_
    refine f_skip ?_
    refine f_seq ?_
    refine f_seq ?_
    refine f_region ?_
    refine f_op rfl rfl (s_mv (v := .str a1) rfl) ?_
    refine f_op rfl rfl (s_lenStr rfl Tryz.underlying9 rfl) ?_
    refine f_op rfl rfl (s_eql rfl rfl) ?_
    refine f_nil ?_
    refine f_if (fun h2 => ?_) (fun h2 => ?_)
    · skip
      refine f_know 15 rfl (dec_true h2) ?_
      refine f_condT rfl ?_
      refine f_seq ?_
      refine f_region ?_
      refine f_op rfl rfl (s_mv (v := .str a0) rfl) ?_
      refine f_op rfl rfl (s_mv (v := .str a1) rfl) ?_
      refine o_ck fun g3 => ?_
      refine f_op rfl rfl (s_indexStr Tryz.underlying9 rfl rfl g3) ?_
      refine f_op rfl rfl (s_cntByte rfl ext192) ?_
      refine f_op rfl rfl (s_as (v := .int .i64 (strCnt a0 (bt a1 0))) rfl) ?_
      refine f_nil ?_
      exact f_ret (.tmp rfl (.nil)) rfl
    · skip
      refine f_know 15 rfl (dec_false h2) ?_
      refine f_condF rfl ?_
      refine f_skip ?_
      refine f_seq ?_
      refine f_region ?_
      refine f_op rfl rfl (s_as (v := .int .i64 0) rfl) ?_
      refine f_nil ?_
      refine f_block ?_
      refine f_loop ?_
      refine f_keep [0, 1, 5] ?_
      exact s145_l0 FUEL a0 a1 0 H

/- 88 strings.genSplit -/
theorem ok88 : FnOk Tryz.prog 88 := ⟨⟨Tryz.f88, Tryz.func88, by kernel_rfl, rfl⟩⟩
theorem s88_j2 (v1 : ByteArray) (v2 : Sl) (v3 : Int) (H : Hp) : Fin Tryz.prog Tryz.f88 ret88 66 (todoAt (bodyOf Tryz.f88) [1, 1, 1, 1, 1, 1, 1, 1, 1] []) [(0, .str v1), (9, .sl v2), (10, .int .i64 v3)] H (r88_j2 v1 v2 v3 H) := by
  unfold r88_j2
  refine f_seq ?_
  refine f_region ?_
  refine f_op rfl rfl (s_mv (v := .sl v2) rfl) ?_
  refine f_op rfl rfl (s_mv (v := .int .i64 v3) rfl) ?_
  refine f_op rfl rfl (s_mv (v := .str v1) rfl) ?_
  refine o_ck fun g1 => ?_
  refine f_op rfl rfl (s_idx Tryz.underlying22 ty9 rfl rfl g1) ?_
  refine o_bind ?_; intro H2 hH2
  refine f_op rfl rfl (s_store (s := 1) ty9 rfl rfl rfl hH2) ?_
  refine f_nil ?_
  refine f_seq ?_
  refine f_region ?_
  refine f_op rfl rfl (s_mv (v := .sl v2) rfl) ?_
  refine f_op rfl rfl (s_mv (v := .int .i64 v3) rfl) ?_
  refine f_op rfl rfl (s_add rfl rfl) ?_
  refine o_ck fun g3 => ?_
  refine f_op rfl rfl (s_slice Tryz.underlying22 ty9 rfl rfl rfl g3.1 g3.2) ?_
  refine f_op rfl rfl (s_as (v := .sl (v2.cut 1 (0 : Int).toNat (w64 (v3 + 1) : Int).toNat)) rfl) ?_
  refine f_nil ?_
  exact f_ret (.tmp rfl (.nil)) rfl

theorem s88_l0 : ∀ (k_ : Nat) (v1 : ByteArray) (v2 : ByteArray) (v3 : Int) (v4 : Int) (v5 : Sl) (v6 : Int) (H : Hp), Fin Tryz.prog Tryz.f88 ret88 66 (todoAt (bodyOf Tryz.f88) [1, 1, 1, 1, 1, 1, 1, 1, 0, 0, 0] []) [(0, .str v1), (1, .str v2), (2, .int .i64 v3), (3, .int .i64 v4), (9, .sl v5), (10, .int .i64 v6)] H (r88_l0 k_ v1 v2 v3 v4 v5 v6 H) := by
  intro k_
  induction k_ with
  | zero => intro _ _ _ _ _ _ _; exact f_none
  | succ k_ ih =>
    intro v1 v2 v3 v4 v5 v6 H
    rw [r88_l0]
    refine f_seq ?_
    refine f_seq ?_
    refine f_region ?_
    refine f_op rfl rfl (s_mv (v := .int .i64 v6) rfl) ?_
    refine f_op rfl rfl (s_mv (v := .int .i64 v4) rfl) ?_
    refine f_op rfl rfl (s_lss rfl rfl) ?_
    refine f_nil ?_
    refine f_if (fun h1 => ?_) (fun h1 => ?_)
    · skip
      refine f_know 36 rfl (dec_true h1) ?_
      refine f_condT rfl ?_
      refine f_skip ?_
      refine f_block ?_
      refine f_seq ?_
      refine f_region ?_
      refine f_op rfl rfl (s_mv (v := .str v1) rfl) ?_
      refine f_op rfl rfl (s_mv (v := .str v2) rfl) ?_
      refine o_bind ?_; intro p2 hp2
      refine f_op rfl rfl (s_callF rfl ok146 (sim146 hp2)) ?_
      refine f_op rfl rfl (s_as (v := .int .i64 p2.1) rfl) ?_
      refine f_nil ?_
      refine f_seq ?_
      refine f_seq ?_
      refine f_region ?_
      refine f_op rfl rfl (s_mv (v := .int .i64 p2.1) rfl) ?_
      refine f_op rfl rfl (s_lss rfl rfl) ?_
      refine f_nil ?_
      refine f_if (fun h3 => ?_) (fun h3 => ?_)
      · skip
        refine f_know 41 rfl (dec_true h3) ?_
        refine f_condT rfl ?_
        refine f_exit rfl ?_
        refine f_keep [0, 9, 10] ?_
        exact s88_j2 v1 v5 v6 p2.2
      · skip
        refine f_know 41 rfl (dec_false h3) ?_
        refine f_condF rfl ?_
        refine f_skip ?_
        refine f_seq ?_
        refine f_region ?_
        refine f_op rfl rfl (s_mv (v := .sl v5) rfl) ?_
        refine f_op rfl rfl (s_mv (v := .int .i64 v6) rfl) ?_
        refine f_op rfl rfl (s_mv (v := .str v1) rfl) ?_
        refine f_op rfl rfl (s_mv (v := .int .i64 p2.1) rfl) ?_
        refine f_op rfl rfl (s_mv (v := .int .i64 v3) rfl) ?_
        refine f_op rfl rfl (s_add rfl rfl) ?_
        refine o_ck fun g4 => ?_
        refine f_op rfl rfl (s_sliceStr Tryz.underlying9 rfl rfl rfl g4) ?_
        refine o_ck fun g5 => ?_
        refine f_op rfl rfl (s_idx Tryz.underlying22 ty9 rfl rfl g5) ?_
        refine o_bind ?_; intro H6 hH6
        refine f_op rfl rfl (s_store (s := 1) ty9 rfl rfl rfl hH6) ?_
        refine f_nil ?_
        refine f_seq ?_
        refine f_region ?_
        refine f_op rfl rfl (s_mv (v := .str v1) rfl) ?_
        refine f_op rfl rfl (s_mv (v := .int .i64 p2.1) rfl) ?_
        refine f_op rfl rfl (s_mv (v := .str v2) rfl) ?_
        refine f_op rfl rfl (s_lenStr rfl Tryz.underlying9 rfl) ?_
        refine f_op rfl rfl (s_add rfl rfl) ?_
        refine o_ck fun g7 => ?_
        refine f_op rfl rfl (s_sliceStr Tryz.underlying9 rfl rfl rfl g7) ?_
        refine f_op rfl rfl (s_as (v := .str (v1.extract (w64 (p2.1 + (v2.size : Int)) : Int).toNat ((v1.size : Int) : Int).toNat)) rfl) ?_
        refine f_nil ?_
        refine f_region ?_
        refine f_op rfl rfl (s_mv (v := .int .i64 v6) rfl) ?_
        refine f_op rfl rfl (s_add rfl rfl) ?_
        refine f_op rfl rfl (s_as (v := .int .i64 (w64 (v6 + 1))) rfl) ?_
        refine f_nil ?_
        refine f_inBlock ?_
        refine f_inLoop ?_
        refine f_keep [0, 1, 2, 3, 9, 10] ?_
        exact ih (v1.extract (w64 (p2.1 + (v2.size : Int)) : Int).toNat ((v1.size : Int) : Int).toNat) v2 v3 v4 v5 (w64 (v6 + 1)) H6
    · skip
      refine f_know 36 rfl (dec_false h1) ?_
      refine f_condF rfl ?_
      refine f_exit rfl ?_
      refine f_keep [0, 9, 10] ?_
      exact s88_j2 v1 v5 v6 H

theorem s88_j1 (v1 : ByteArray) (v2 : ByteArray) (v3 : Int) (v4 : Int) (H : Hp) : Fin Tryz.prog Tryz.f88 ret88 66 (todoAt (bodyOf Tryz.f88) [1, 1, 1, 1] []) [(0, .str v1), (1, .str v2), (2, .int .i64 v3), (3, .int .i64 v4)] H (r88_j1 v1 v2 v3 v4 H) := by
  unfold r88_j1
  refine f_seq ?_
  refine f_region ?_
  refine f_op rfl rfl (s_mv (v := .int .i64 v4) rfl) ?_
  refine f_op rfl rfl (s_mv (v := .str v1) rfl) ?_
  refine f_op rfl rfl (s_lenStr rfl Tryz.underlying9 rfl) ?_
  refine f_op rfl rfl (s_add rfl rfl) ?_
  refine f_op rfl rfl (s_min2 rfl rfl) ?_
  refine f_op rfl rfl (s_as (v := .int .i64 (if (w64 ((v1.size : Int) + 1)) < v4 then (w64 ((v1.size : Int) + 1)) else v4)) rfl) ?_
  refine f_nil ?_
  refine f_seq ?_
  refine f_region ?_
  refine f_op rfl rfl (s_mv (v := .int .i64 (if (w64 ((v1.size : Int) + 1)) < v4 then (w64 ((v1.size : Int) + 1)) else v4)) rfl) ?_
  refine o_ck fun g1 => ?_
  refine f_op rfl rfl (s_makeSlice Tryz.underlying22 ty9 rfl rfl (by decide) (by decide) rfl rfl g1) ?_
  refine f_op rfl rfl (s_as (v := .sl ⟨false, H.n, 0, ((if (w64 ((v1.size : Int) + 1)) < v4 then (w64 ((v1.size : Int) + 1)) else v4) : Int).toNat, ((if (w64 ((v1.size : Int) + 1)) < v4 then (w64 ((v1.size : Int) + 1)) else v4) : Int).toNat, 0⟩) rfl) ?_
  refine o_hp ?_; intro H2 hH2
  refine f_nil ?_
  refine f_seq ?_
  refine f_region ?_
  refine f_op rfl rfl (s_mv (v := .int .i64 (if (w64 ((v1.size : Int) + 1)) < v4 then (w64 ((v1.size : Int) + 1)) else v4)) rfl) ?_
  refine f_op rfl rfl (s_sub rfl rfl) ?_
  refine f_op rfl rfl (s_as (v := .int .i64 (w64 ((if (w64 ((v1.size : Int) + 1)) < v4 then (w64 ((v1.size : Int) + 1)) else v4) - 1))) rfl) ?_
  refine f_nil ?_
  refine f_seq ?_
  refine f_region ?_
  refine f_op rfl rfl (s_as (v := .int .i64 0) rfl) ?_
  refine f_nil ?_
  refine f_seq ?_
  refine f_block ?_
  refine f_loop ?_
  refine f_keep [0, 1, 2, 3, 9, 10] ?_
  exact s88_l0 FUEL v1 v2 v3 (w64 ((if (w64 ((v1.size : Int) + 1)) < v4 then (w64 ((v1.size : Int) + 1)) else v4) - 1)) ⟨false, H.n, 0, ((if (w64 ((v1.size : Int) + 1)) < v4 then (w64 ((v1.size : Int) + 1)) else v4) : Int).toNat, ((if (w64 ((v1.size : Int) + 1)) < v4 then (w64 ((v1.size : Int) + 1)) else v4) : Int).toNat, 0⟩ 0 H2

theorem sim88 {a0 : ByteArray} {a1 : ByteArray} {a2 : Int} {a3 : Int} {H : Hp} {p : Sl × Hp} (h : r88 a0 a1 a2 a3 H = some p) : CallSim Tryz.prog 88 [.str a0, .str a1, .int .i64 a2, .int .i64 a3] H (.sl p.1) p.2 := by
  refine callSim (fn := Tryz.f88) (ret := ret88) Tryz.func88 rfl Tryz.ntmps88 rfl ?_ h
  unfold r88
  refine f_seq ?_
  refine f_region ?_
  refine f_op rfl rfl (s_as (v := .sl ⟨true, 0, 0, 0, 0, 0⟩) rfl) ?_
  refine f_nil ?_
  refine f_seq ?_
  refine f_seq ?_
  refine f_region ?_
  refine f_op rfl rfl (s_mv (v := .int .i64 a3) rfl) ?_
  refine f_op rfl rfl (s_eql rfl rfl) ?_
  refine f_nil ?_
  refine f_if (fun h1 => ?_) (fun h1 => ?_)
  · skip
    refine f_know 13 rfl (dec_true h1) ?_
    refine f_condT rfl ?_
    refine f_seq ?_
    refine f_region ?_
    refine f_op rfl rfl (s_as (v := .sl ⟨true, 0, 0, 0, 0, 0⟩) rfl) ?_
    refine f_nil ?_
    exact f_ret (.tmp rfl (.nil)) rfl
  · skip
    refine f_know 13 rfl (dec_false h1) ?_
    refine f_condF rfl ?_
    refine f_skip ?_
    refine f_seq ?_
    refine f_seq ?_
    refine f_region ?_
    refine f_op rfl rfl (s_mv (v := .str a1) rfl) ?_
    refine f_op rfl rfl (s_eqStr rfl rfl) ?_
    refine f_nil ?_
    refine f_if (fun h2 => ?_) (fun h2 => ?_)
    · skip
      refine f_know 15 rfl (bool_T h2) ?_
      refine f_condT rfl ?_
      refine f_seq ?_
      refine f_region ?_
      refine f_op rfl rfl (s_mv (v := .str a0) rfl) ?_
      refine f_op rfl rfl (s_mv (v := .int .i64 a3) rfl) ?_
      exact o_none
    · skip
      refine f_know 15 rfl (bool_F h2) ?_
      refine f_condF rfl ?_
      refine f_skip ?_
      refine f_seq ?_
      refine f_seq ?_
      refine f_region ?_
      refine f_op rfl rfl (s_mv (v := .int .i64 a3) rfl) ?_
      refine f_op rfl rfl (s_lss rfl rfl) ?_
      refine f_nil ?_
      refine f_if (fun h3 => ?_) (fun h3 => ?_)
      · skip
        refine f_know 20 rfl (dec_true h3) ?_
        refine f_condT rfl ?_
        refine f_region ?_
        refine f_op rfl rfl (s_mv (v := .str a0) rfl) ?_
        refine f_op rfl rfl (s_mv (v := .str a1) rfl) ?_
        refine o_bind ?_; intro p4 hp4
        refine f_op rfl rfl (s_callF rfl ok145 (sim145 hp4)) ?_
        refine f_op rfl rfl (s_add rfl rfl) ?_
        refine f_op rfl rfl (s_as (v := .int .i64 (w64 (p4.1 + 1))) rfl) ?_
        refine f_nil ?_
        refine f_keep [0, 1, 2, 3] ?_
        exact s88_j1 a0 a1 a2 (w64 (p4.1 + 1)) p4.2
      · skip
        refine f_know 20 rfl (dec_false h3) ?_
        refine f_condF rfl ?_
        refine f_skip ?_
        refine f_keep [0, 1, 2, 3] ?_
        exact s88_j1 a0 a1 a2 a3 H

/- 52 strings.Split -/
theorem ok52 : FnOk Tryz.prog 52 := ⟨⟨Tryz.f52, Tryz.func52, by kernel_rfl, rfl⟩⟩
theorem sim52 {a0 : ByteArray} {a1 : ByteArray} {H : Hp} {p : Sl × Hp} (h : r52 a0 a1 H = some p) : CallSim Tryz.prog 52 [.str a0, .str a1] H (.sl p.1) p.2 := by
  refine callSim (fn := Tryz.f52) (ret := ret52) Tryz.func52 rfl Tryz.ntmps52 rfl ?_ h
  unfold r52
  refine f_seq ?_
  refine f_region ?_
  refine f_op rfl rfl (s_as (v := .sl ⟨true, 0, 0, 0, 0, 0⟩) rfl) ?_
  refine f_nil ?_
  refine f_seq ?_
  refine f_region ?_
  refine f_op rfl rfl (s_mv (v := .str a0) rfl) ?_
  refine f_op rfl rfl (s_mv (v := .str a1) rfl) ?_
  refine o_bind ?_; intro p1 hp1
  refine f_op rfl rfl (s_callF rfl ok88 (sim88 hp1)) ?_
  refine f_op rfl rfl (s_as (v := .sl p1.1) rfl) ?_
  refine f_nil ?_
  exact f_ret (.tmp rfl (.nil)) rfl

/- 23 slices.Index[[]string,string] -/
theorem ok23 : FnOk Tryz.prog 23 := ⟨⟨Tryz.f23, Tryz.func23, by kernel_rfl, rfl⟩⟩
theorem s23_l0 : ∀ (k_ : Nat) (v1 : Sl) (v2 : ByteArray) (v3 : Int) (v4 : Int) (H : Hp), Fin Tryz.prog Tryz.f23 ret23 19 (todoAt (bodyOf Tryz.f23) [1, 0, 1, 0, 0] []) [(0, .sl v1), (1, .str v2), (7, .int .i64 v3), (8, .int .i64 v4)] H (r23_l0 k_ v1 v2 v3 v4 H) := by
  intro k_
  induction k_ with
  | zero => intro _ _ _ _ _; exact f_none
  | succ k_ ih =>
    intro v1 v2 v3 v4 H
    rw [r23_l0]
    refine f_seq ?_
    refine f_region ?_
    refine f_op rfl rfl (s_lss rfl rfl) ?_
    refine f_nil ?_
    refine f_seq ?_
    refine f_if (fun h1 => ?_) (fun h1 => ?_)
    · skip
      refine f_know 9 rfl (dec_true h1) ?_
      refine f_condT rfl ?_
      refine f_skip ?_
      refine f_seq ?_
      refine f_block ?_
      refine f_seq ?_
      refine f_region ?_
      refine f_op rfl rfl (s_mv (v := .int .i64 v4) rfl) ?_
      refine f_op rfl rfl (s_as (v := .int .i64 v4) rfl) ?_
      refine f_nil ?_
      refine f_seq ?_
      refine f_region ?_
      refine f_op rfl rfl (s_mv (v := .str v2) rfl) ?_
      refine f_op rfl rfl (s_mv (v := .sl v1) rfl) ?_
      refine f_op rfl rfl (s_mv (v := .int .i64 v4) rfl) ?_
      refine o_ck fun g2 => ?_
      refine f_op rfl rfl (s_idx Tryz.underlying22 ty9 rfl rfl g2) ?_
      refine o_bind ?_; intro x3 hx3
      refine f_op rfl rfl (s_load Tryz.underlying9 rfl rfl (ldStr_eq hx3)) ?_
      refine f_op rfl rfl (s_eqStr rfl rfl) ?_
      refine f_nil ?_
      refine f_if (fun h4 => ?_) (fun h4 => ?_)
      · skip
        refine f_know 16 rfl (bool_T h4) ?_
        refine f_condT rfl ?_
        refine f_seq ?_
        refine f_region ?_
        refine f_op rfl rfl (s_mv (v := .int .i64 v4) rfl) ?_
        refine f_op rfl rfl (s_as (v := .int .i64 v4) rfl) ?_
        refine f_nil ?_
        exact f_ret (.tmp rfl (.nil)) rfl
      · skip
        refine f_know 16 rfl (bool_F h4) ?_
        refine f_condF rfl ?_
        refine f_skip ?_
        refine f_inBlock ?_
        refine f_region ?_
        refine f_op rfl rfl (s_add rfl rfl) ?_
        refine f_op rfl rfl (s_mv (v := .int .i64 (w64 (v4 + 1))) rfl) ?_
        refine f_nil ?_
        refine f_inLoop ?_
        refine f_keep [0, 1, 7, 8] ?_
        exact ih v1 v2 v3 (w64 (v4 + 1)) H
    · skip
      refine f_know 9 rfl (dec_false h1) ?_
      refine f_condF rfl ?_
      refine f_exit rfl ?_
      refine f_seq ?_
      refine f_region ?_
      refine f_op rfl rfl (s_as (v := .int .i64 (-1)) rfl) ?_
      refine f_nil ?_
      exact f_ret (.tmp rfl (.nil)) rfl

theorem sim23 {a0 : Sl} {a1 : ByteArray} {H : Hp} {p : Int × Hp} (h : r23 a0 a1 H = some p) : CallSim Tryz.prog 23 [.sl a0, .str a1] H (.int .i64 p.1) p.2 := by
  refine callSim (fn := Tryz.f23) (ret := ret23) Tryz.func23 rfl Tryz.ntmps23 rfl ?_ h
  unfold r23
  refine f_seq ?_
  refine f_region ?_
  refine f_op rfl rfl (s_as (v := .int .i64 0) rfl) ?_
  refine f_nil ?_
  refine f_seq ?_
  refine f_seq ?_
  refine f_region ?_
  refine f_op rfl rfl (s_mv (v := .sl a0) rfl) ?_
  refine f_op rfl rfl (s_lenS rfl Tryz.underlying22 rfl) ?_
  refine f_op rfl rfl (s_mv (v := .int .i64 0) rfl) ?_
  refine f_nil ?_
  refine f_block ?_
  refine f_loop ?_
  refine f_keep [0, 1, 7, 8] ?_
  exact s23_l0 FUEL a0 a1 (a0.len : Int) 0 H

/- 226 slices.Contains[[]string,string] -/
theorem ok226 : FnOk Tryz.prog 226 := ⟨⟨Tryz.f226, Tryz.func226, by kernel_rfl, rfl⟩⟩
theorem sim226 {a0 : Sl} {a1 : ByteArray} {H : Hp} {p : Bool × Hp} (h : r226 a0 a1 H = some p) : CallSim Tryz.prog 226 [.sl a0, .str a1] H (.bool p.1) p.2 := by
  refine callSim (fn := Tryz.f226) (ret := ret226) Tryz.func226 rfl Tryz.ntmps226 rfl ?_ h
  unfold r226
  refine f_seq ?_
  refine f_region ?_
  refine f_op rfl rfl (s_as (v := .bool false) rfl) ?_
  refine f_nil ?_
  refine f_seq ?_
  refine f_region ?_
  refine f_op rfl rfl (s_mv (v := .sl a0) rfl) ?_
  refine f_op rfl rfl (s_mv (v := .str a1) rfl) ?_
  refine o_bind ?_; intro p1 hp1
  refine f_op rfl rfl (s_callF rfl ok23 (sim23 hp1)) ?_
  refine f_op rfl rfl (s_geq rfl rfl) ?_
  refine f_op rfl rfl (s_as (v := .bool (decide (0 ≤ p1.1))) rfl) ?_
  refine f_nil ?_
  exact f_ret (.tmp rfl (.nil)) rfl

/- 292 slices.IndexFunc[[]byte,byte] -/
theorem ok292 : FnOk Tryz.prog 292 := ⟨⟨Tryz.f292, Tryz.func292, by kernel_rfl, rfl⟩⟩
theorem s292_l0 {app : App} (happ : AppSim Tryz.prog app) : ∀ (k_ : Nat) (v1 : Sl) (v2 : AV) (v3 : Int) (v4 : Int) (H : Hp), Fin Tryz.prog Tryz.f292 ret292 19 (todoAt (bodyOf Tryz.f292) [1, 0, 1, 0, 0] []) [(0, .sl v1), (1, v2), (7, .int .i64 v3), (8, .int .i64 v4)] H (r292_l0 app k_ v1 v2 v3 v4 H) := by
  intro k_
  induction k_ with
  | zero => intro _ _ _ _ _; exact f_none
  | succ k_ ih =>
    intro v1 v2 v3 v4 H
    rw [r292_l0]
    refine f_seq ?_
    refine f_region ?_
    refine f_op rfl rfl (s_lss rfl rfl) ?_
    refine f_nil ?_
    refine f_seq ?_
    refine f_if (fun h1 => ?_) (fun h1 => ?_)
    · skip
      refine f_know 9 rfl (dec_true h1) ?_
      refine f_condT rfl ?_
      refine f_skip ?_
      refine f_seq ?_
      refine f_block ?_
      refine f_seq ?_
      refine f_region ?_
      refine f_op rfl rfl (s_mv (v := .int .i64 v4) rfl) ?_
      refine f_op rfl rfl (s_as (v := .int .i64 v4) rfl) ?_
      refine f_nil ?_
      refine f_seq ?_
      refine f_region ?_
      refine f_op rfl rfl (s_mv (v := v2) rfl) ?_
      refine f_op rfl rfl (s_mv (v := .sl v1) rfl) ?_
      refine f_op rfl rfl (s_mv (v := .int .i64 v4) rfl) ?_
      refine o_ck fun g2 => ?_
      refine f_op rfl rfl (s_idx Tryz.underlying75 ty5 rfl rfl g2) ?_
      refine o_bind ?_; intro x3 hx3
      refine f_op rfl rfl (s_load Tryz.underlying5 rfl rfl (ldI_eq hx3)) ?_
      refine o_bind ?_; intro p4 hp4
      refine o_bind ?_; intro x5 hx5
      refine f_op rfl rfl (s_callv happ rfl rfl hp4) ?_
      refine o_know 16 rfl (asB_eq hx5) ?_
      refine f_nil ?_
      refine f_if (fun h6 => ?_) (fun h6 => ?_)
      · skip
        refine f_know 16 rfl (bool_T h6) ?_
        refine f_condT rfl ?_
        refine f_seq ?_
        refine f_region ?_
        refine f_op rfl rfl (s_mv (v := .int .i64 v4) rfl) ?_
        refine f_op rfl rfl (s_as (v := .int .i64 v4) rfl) ?_
        refine f_nil ?_
        exact f_ret (.tmp rfl (.nil)) rfl
      · skip
        refine f_know 16 rfl (bool_F h6) ?_
        refine f_condF rfl ?_
        refine f_skip ?_
        refine f_inBlock ?_
        refine f_region ?_
        refine f_op rfl rfl (s_add rfl rfl) ?_
        refine f_op rfl rfl (s_mv (v := .int .i64 (w64 (v4 + 1))) rfl) ?_
        refine f_nil ?_
        refine f_inLoop ?_
        refine f_keep [0, 1, 7, 8] ?_
        exact ih v1 v2 v3 (w64 (v4 + 1)) p4.2
    · skip
      refine f_know 9 rfl (dec_false h1) ?_
      refine f_condF rfl ?_
      refine f_exit rfl ?_
      refine f_seq ?_
      refine f_region ?_
      refine f_op rfl rfl (s_as (v := .int .i64 (-1)) rfl) ?_
      refine f_nil ?_
      exact f_ret (.tmp rfl (.nil)) rfl

theorem sim292 {app : App} (happ : AppSim Tryz.prog app) {a0 : Sl} {a1 : AV} {H : Hp} {p : Int × Hp} (h : r292 app a0 a1 H = some p) : CallSim Tryz.prog 292 [.sl a0, a1] H (.int .i64 p.1) p.2 := by
  refine callSim (fn := Tryz.f292) (ret := ret292) Tryz.func292 rfl Tryz.ntmps292 rfl ?_ h
  unfold r292
  refine f_seq ?_
  refine f_region ?_
  refine f_op rfl rfl (s_as (v := .int .i64 0) rfl) ?_
  refine f_nil ?_
  refine f_seq ?_
  refine f_seq ?_
  refine f_region ?_
  refine f_op rfl rfl (s_mv (v := .sl a0) rfl) ?_
  refine f_op rfl rfl (s_lenS rfl Tryz.underlying75 rfl) ?_
  refine f_op rfl rfl (s_mv (v := .int .i64 0) rfl) ?_
  refine f_nil ?_
  refine f_block ?_
  refine f_loop ?_
  refine f_keep [0, 1, 7, 8] ?_
  exact s292_l0 happ FUEL a0 a1 (a0.len : Int) 0 H

/- 227 slices.ContainsFunc[[]byte,byte] -/
theorem ok227 : FnOk Tryz.prog 227 := ⟨⟨Tryz.f227, Tryz.func227, by kernel_rfl, rfl⟩⟩
theorem sim227 {app : App} (happ : AppSim Tryz.prog app) {a0 : Sl} {a1 : AV} {H : Hp} {p : Bool × Hp} (h : r227 app a0 a1 H = some p) : CallSim Tryz.prog 227 [.sl a0, a1] H (.bool p.1) p.2 := by
  refine callSim (fn := Tryz.f227) (ret := ret227) Tryz.func227 rfl Tryz.ntmps227 rfl ?_ h
  unfold r227
  refine f_seq ?_
  refine f_region ?_
  refine f_op rfl rfl (s_as (v := .bool false) rfl) ?_
  refine f_nil ?_
  refine f_seq ?_
  refine f_region ?_
  refine f_op rfl rfl (s_mv (v := .sl a0) rfl) ?_
  refine f_op rfl rfl (s_mv (v := a1) rfl) ?_
  refine o_bind ?_; intro p1 hp1
  refine f_op rfl rfl (s_callF rfl ok292 (sim292 happ hp1)) ?_
  refine f_op rfl rfl (s_geq rfl rfl) ?_
  refine f_op rfl rfl (s_as (v := .bool (decide (0 ≤ p1.1))) rfl) ?_
  refine f_nil ?_
  exact f_ret (.tmp rfl (.nil)) rfl

/- 228 congou/chest.isLine$1 -/
theorem ok228 : FnOk Tryz.prog 228 := ⟨⟨Tryz.f228, Tryz.func228, by kernel_rfl, rfl⟩⟩
theorem sim228 {a0 : Int} {H : Hp} {p : Bool × Hp} (h : r228 a0 H = some p) : CallSim Tryz.prog 228 [.int .u8 a0] H (.bool p.1) p.2 := by
  refine callSim (fn := Tryz.f228) (ret := ret228) Tryz.func228 rfl Tryz.ntmps228 rfl ?_ h
  unfold r228
  refine f_seq ?_
  refine f_region ?_
  refine f_op rfl rfl (s_as (v := .bool false) rfl) ?_
  refine f_nil ?_
  refine f_seq ?_
  refine f_region ?_
  refine f_op rfl rfl (s_mv (v := .int .u8 a0) rfl) ?_
  refine f_op rfl rfl (s_lss rfl rfl) ?_
  refine f_op rfl rfl (s_mv (v := .bool (decide (a0 < 32))) rfl) ?_
  refine o_if (fun h1 => ?_) (fun h1 => ?_)
  · skip
    refine o_know 5 rfl (dec_true h1) ?_
    refine f_no rfl rfl ?_
    refine f_no rfl rfl ?_
    refine f_op rfl rfl (s_pickT (v := .bool true) rfl rfl) ?_
    refine f_op rfl rfl (s_as (v := .bool true) rfl) ?_
    refine f_nil ?_
    exact f_ret (.tmp rfl (.nil)) rfl
  · skip
    refine o_know 5 rfl (dec_false h1) ?_
    refine f_op rfl rfl (s_mv (v := .int .u8 a0) rfl) ?_
    refine f_op rfl rfl (s_gtr rfl rfl) ?_
    refine f_op rfl rfl (s_pickF (v := .bool (decide (126 < a0))) rfl rfl) ?_
    refine f_op rfl rfl (s_as (v := .bool (decide (126 < a0))) rfl) ?_
    refine f_nil ?_
    exact f_ret (.tmp rfl (.nil)) rfl

/- 164 congou/chest.isLine -/
theorem ok164 : FnOk Tryz.prog 164 := ⟨⟨Tryz.f164, Tryz.func164, by kernel_rfl, rfl⟩⟩
theorem sim164 {app : App} (happ : AppSim Tryz.prog app) {a0 : ByteArray} {H : Hp} {p : Bool × Hp} (h : r164 app a0 H = some p) : CallSim Tryz.prog 164 [.str a0] H (.bool p.1) p.2 := by
  refine callSim (fn := Tryz.f164) (ret := ret164) Tryz.func164 rfl Tryz.ntmps164 rfl ?_ h
  unfold r164
  refine f_seq ?_
  refine f_region ?_
  refine f_op rfl rfl (s_as (v := .bool false) rfl) ?_
  refine f_nil ?_
  refine f_seq ?_
  refine f_region ?_
  refine f_op rfl rfl (s_mv (v := .str a0) rfl) ?_
  refine f_op rfl rfl (s_lenStr rfl Tryz.underlying9 rfl) ?_
  refine f_op rfl rfl (s_leq rfl rfl) ?_
  refine f_op rfl rfl (s_mv (v := .bool (decide ((a0.size : Int) ≤ 60))) rfl) ?_
  refine o_if (fun h1 => ?_) (fun h1 => ?_)
  · skip
    refine o_know 6 rfl (dec_true h1) ?_
    refine f_op rfl rfl (s_mv (v := .str a0) rfl) ?_
    refine o_bind ?_; intro p2 hp2
    refine f_op rfl rfl (s_callF rfl ok52 (sim52 hp2)) ?_
    refine o_bind ?_; intro p3 hp3
    refine f_op rfl rfl (s_callF rfl ok226 (sim226 hp3)) ?_
    refine f_op rfl rfl (s_not rfl) ?_
    refine f_op rfl rfl (s_pickT (v := .bool (!p3.1)) rfl rfl) ?_
    refine f_op rfl rfl (s_mv (v := .bool (!p3.1)) rfl) ?_
    refine o_if (fun h4 => ?_) (fun h4 => ?_)
    · skip
      refine o_know 12 rfl (bool_notT h4) ?_
      refine f_no rfl rfl ?_
      refine f_no rfl rfl ?_
      refine f_no rfl rfl ?_
      refine f_no rfl rfl ?_
      refine f_op rfl rfl (s_pickF (v := .bool false) rfl rfl) ?_
      refine f_op rfl rfl (s_as (v := .bool false) rfl) ?_
      refine f_nil ?_
      exact f_ret (.tmp rfl (.nil)) rfl
    · skip
      refine o_know 12 rfl (bool_notF h4) ?_
      refine f_op rfl rfl (s_mv (v := .str a0) rfl) ?_
      refine f_op rfl rfl (s_strBytes Tryz.underlying9 Tryz.underlying75 Tryz.underlying5 rfl) ?_
      refine o_bind ?_; intro p5 hp5
      refine f_op rfl rfl (s_callF rfl ok227 (sim227 happ hp5)) ?_
      refine f_op rfl rfl (s_not rfl) ?_
      refine f_op rfl rfl (s_pickT (v := .bool (!p5.1)) rfl rfl) ?_
      refine f_op rfl rfl (s_as (v := .bool (!p5.1)) rfl) ?_
      refine f_nil ?_
      exact f_ret (.tmp rfl (.nil)) rfl
  · skip
    refine o_know 6 rfl (dec_false h1) ?_
    refine f_no rfl rfl ?_
    refine f_no rfl rfl ?_
    refine f_no rfl rfl ?_
    refine f_no rfl rfl ?_
    refine f_op rfl rfl (s_pickF (v := .bool false) rfl rfl) ?_
    refine f_op rfl rfl (s_mv (v := .bool false) rfl) ?_
    refine f_no rfl rfl ?_
    refine f_no rfl rfl ?_
    refine f_no rfl rfl ?_
    refine f_no rfl rfl ?_
    refine f_op rfl rfl (s_pickF (v := .bool false) rfl rfl) ?_
    refine f_op rfl rfl (s_as (v := .bool false) rfl) ?_
    refine f_nil ?_
    exact f_ret (.tmp rfl (.nil)) rfl

/- 165 congou/chest.isName -/
theorem ok165 : FnOk Tryz.prog 165 := ⟨⟨Tryz.f165, Tryz.func165, by kernel_rfl, rfl⟩⟩
theorem s165_j1 (kt0 : ByteArray → Nat → Hp → Option (Bool × Hp)) (hkt0 : ∀ (v1 : ByteArray) (v2 : Nat) (H : Hp), Fin Tryz.prog Tryz.f165 ret165 23 (todoAt (bodyOf Tryz.f165) [1, 0, 1, 0, 0] []) [(0, .str v1), (6, .ptr v2 0)] H (kt0 v1 v2 H)) (v1 : ByteArray) (v2 : Nat) (v3 : Bool) (H : Hp) : Fin Tryz.prog Tryz.f165 ret165 23 (todoAt (bodyOf Tryz.f165) [1, 0, 1, 0, 0, 1, 1, 0, 1, 1] []) [(0, .str v1), (6, .ptr v2 0), (15, .bool v3)] H (r165_j1 kt0 v1 v2 v3 H) := by
  unfold r165_j1
  refine f_if (fun h1 => ?_) (fun h1 => ?_)
  · skip
    refine f_know 15 rfl (bool_T h1) ?_
    refine f_condT rfl ?_
    refine f_seq ?_
    refine f_region ?_
    refine f_op rfl rfl (s_as (v := .bool false) rfl) ?_
    refine f_nil ?_
    exact f_ret (.tmp rfl (.nil)) rfl
  · skip
    refine f_know 15 rfl (bool_F h1) ?_
    refine f_condF rfl ?_
    refine f_skip ?_
    refine f_inBlock ?_
    refine f_inLoop ?_
    refine f_keep [0, 6] ?_
    exact hkt0 v1 v2 H

theorem s165_l0 : ∀ (k_ : Nat) (v1 : ByteArray) (v2 : Nat) (H : Hp), Fin Tryz.prog Tryz.f165 ret165 23 (todoAt (bodyOf Tryz.f165) [1, 0, 1, 0, 0] []) [(0, .str v1), (6, .ptr v2 0)] H (r165_l0 k_ v1 v2 H) := by
  intro k_
  induction k_ with
  | zero => intro _ _ _; exact f_none
  | succ k_ ih =>
    intro v1 v2 H
    rw [r165_l0]
    refine f_seq ?_
    refine f_region ?_
    refine o_bind ?_; intro x1 hx1
    refine f_op rfl rfl (s_nextStr rfl rfl hx1) ?_
    refine f_op rfl rfl (s_next0 rfl) ?_
    refine f_nil ?_
    refine f_seq ?_
    refine f_if (fun h2 => ?_) (fun h2 => ?_)
    · skip
      refine f_know 8 rfl (bool_T h2) ?_
      refine f_condT rfl ?_
      refine f_skip ?_
      refine f_block ?_
      refine f_seq ?_
      refine f_region ?_
      refine o_bind ?_; intro x3 hx3
      refine f_op rfl rfl (s_next2 rfl hx3) ?_
      refine f_op rfl rfl (s_as (v := .int .i32 x3.2) rfl) ?_
      refine f_nil ?_
      refine f_seq ?_
      refine f_region ?_
      refine f_op rfl rfl (s_mv (v := .int .i32 x3.2) rfl) ?_
      refine f_op rfl rfl (s_lss rfl rfl) ?_
      refine f_op rfl rfl (s_mv (v := .bool (decide (x3.2 < 97))) rfl) ?_
      refine o_if (fun h4 => ?_) (fun h4 => ?_)
      · skip
        refine o_know 12 rfl (dec_true h4) ?_
        refine f_no rfl rfl ?_
        refine f_no rfl rfl ?_
        refine f_op rfl rfl (s_pickT (v := .bool true) rfl rfl) ?_
        refine f_nil ?_
        refine f_keep [0, 6, 15] ?_
        exact s165_j1 _ (fun v1_ v2_ H_ => ih v1_ v2_ H_) v1 v2 true x1.2
      · skip
        refine o_know 12 rfl (dec_false h4) ?_
        refine f_op rfl rfl (s_mv (v := .int .i32 x3.2) rfl) ?_
        refine f_op rfl rfl (s_gtr rfl rfl) ?_
        refine f_op rfl rfl (s_pickF (v := .bool (decide (122 < x3.2))) rfl rfl) ?_
        refine f_nil ?_
        refine f_keep [0, 6, 15] ?_
        exact s165_j1 _ (fun v1_ v2_ H_ => ih v1_ v2_ H_) v1 v2 (decide (122 < x3.2)) x1.2
    · skip
      refine f_know 8 rfl (bool_F h2) ?_
      refine f_condF rfl ?_
      refine f_exit rfl ?_
      refine f_seq ?_
      refine f_region ?_
      refine f_op rfl rfl (s_mv (v := .str v1) rfl) ?_
      refine f_op rfl rfl (s_neStr rfl rfl) ?_
      refine f_op rfl rfl (s_mv (v := .bool (!(strEq v1 (ByteArray.mk #[])))) rfl) ?_
      refine o_if (fun h5 => ?_) (fun h5 => ?_)
      · skip
        refine o_know 18 rfl (bool_notT h5) ?_
        refine f_no rfl rfl ?_
        refine f_no rfl rfl ?_
        refine f_no rfl rfl ?_
        refine f_op rfl rfl (s_pickF (v := .bool false) rfl rfl) ?_
        refine f_op rfl rfl (s_as (v := .bool false) rfl) ?_
        refine f_nil ?_
        exact f_ret (.tmp rfl (.nil)) rfl
      · skip
        refine o_know 18 rfl (bool_notF h5) ?_
        refine f_op rfl rfl (s_mv (v := .str v1) rfl) ?_
        refine f_op rfl rfl (s_lenStr rfl Tryz.underlying9 rfl) ?_
        refine f_op rfl rfl (s_leq rfl rfl) ?_
        refine f_op rfl rfl (s_pickT (v := .bool (decide ((v1.size : Int) ≤ 8))) rfl rfl) ?_
        refine f_op rfl rfl (s_as (v := .bool (decide ((v1.size : Int) ≤ 8))) rfl) ?_
        refine f_nil ?_
        exact f_ret (.tmp rfl (.nil)) rfl

theorem sim165 {a0 : ByteArray} {H : Hp} {p : Bool × Hp} (h : r165 a0 H = some p) : CallSim Tryz.prog 165 [.str a0] H (.bool p.1) p.2 := by
  refine callSim (fn := Tryz.f165) (ret := ret165) Tryz.func165 rfl Tryz.ntmps165 rfl ?_ h
  unfold r165
  refine f_seq ?_
  refine f_region ?_
  refine f_op rfl rfl (s_as (v := .bool false) rfl) ?_
  refine f_nil ?_
  refine f_seq ?_
  refine f_seq ?_
  refine f_region ?_
  refine f_op rfl rfl (s_mv (v := .str a0) rfl) ?_
  refine f_op rfl rfl (s_rangeStr Tryz.underlying9 rfl) ?_
  refine o_hp ?_; intro H1 hH1
  refine f_nil ?_
  refine f_block ?_
  refine f_loop ?_
  refine f_keep [0, 6] ?_
  exact s165_l0 FUEL a0 H.n H1

/- 166 congou/chest.number -/
theorem ok166 : FnOk Tryz.prog 166 := ⟨⟨Tryz.f166, Tryz.func166, by kernel_rfl, rfl⟩⟩
theorem sim166 {app : App} (happ : AppSim Tryz.prog app) {a0 : ByteArray} {H : Hp} {p : (Int × Bool) × Hp} (h : r166 app a0 H = some p) : CallSim Tryz.prog 166 [.str a0] H (.tup [.int .i64 p.1.1, .bool p.1.2]) p.2 := by
  refine callSim (fn := Tryz.f166) (ret := ret166) Tryz.func166 rfl Tryz.ntmps166 rfl ?_ h
  unfold r166
  refine f_seq ?_
  refine f_region ?_
  refine f_op rfl rfl (s_as (v := .int .i64 0) rfl) ?_
  refine f_op rfl rfl (s_as (v := .bool false) rfl) ?_
  refine f_nil ?_
  refine f_seq ?_
  refine f_region ?_
  refine f_op rfl rfl (s_mv (v := .str a0) rfl) ?_
  refine o_bind ?_; intro p1 hp1
  refine o_bind ?_; intro x2 hx2
  refine o_ck fun g3 => ?_
  refine o_bind ?_; intro x4 hx4
  refine o_bind ?_; intro x5 hx5
  refine o_bind ?_; intro x6 hx6
  refine f_op rfl rfl (s_callA happ rfl hp1) ?_
  refine o_know 8 rfl (tupOf2 hx2 g3 (gete hx4 (asI_eq hx5)) (gete hx6 (rfl))) ?_
  refine f_op rfl rfl (s_mv (v := .tup [.int .i64 x5, x6]) rfl) ?_
  refine f_op rfl rfl (s_extract (r := .int .i64 x5) rfl rfl) ?_
  refine f_op rfl rfl (s_extract (r := x6) rfl rfl) ?_
  refine f_op rfl rfl (s_as (v := .int .i64 x5) rfl) ?_
  refine f_op rfl rfl (s_as (v := x6) rfl) ?_
  refine f_nil ?_
  refine f_seq ?_
  refine f_region ?_
  refine f_op rfl rfl (s_mv (v := .int .i64 x5) rfl) ?_
  refine f_op rfl rfl (s_mv (v := x6) rfl) ?_
  refine o_bind ?_; intro x7 hx7
  refine f_op rfl rfl (s_eqIfN Tryz.underlying98 rfl rfl trivial hx7) ?_
  refine f_op rfl rfl (s_mv (v := .bool (!x7)) rfl) ?_
  refine o_if (fun h8 => ?_) (fun h8 => ?_)
  · skip
    refine o_know 14 rfl (bool_notT h8) ?_
    refine f_no rfl rfl ?_
    refine f_no rfl rfl ?_
    refine f_op rfl rfl (s_pickF (v := .bool false) rfl rfl) ?_
    refine f_op rfl rfl (s_mv (v := .bool false) rfl) ?_
    refine f_no rfl rfl ?_
    refine f_no rfl rfl ?_
    refine f_no rfl rfl ?_
    refine f_op rfl rfl (s_pickF (v := .bool false) rfl rfl) ?_
    refine f_op rfl rfl (s_mv (v := .bool false) rfl) ?_
    refine f_no rfl rfl ?_
    refine f_no rfl rfl ?_
    refine f_no rfl rfl ?_
    refine f_no rfl rfl ?_
    refine f_op rfl rfl (s_pickF (v := .bool false) rfl rfl) ?_
    refine f_op rfl rfl (s_as (v := .int .i64 x5) rfl) ?_
    refine f_op rfl rfl (s_as (v := .bool false) rfl) ?_
    refine f_nil ?_
    exact f_ret (.tmp rfl (.tmp rfl (.nil))) rfl
  · skip
    refine o_know 14 rfl (bool_notF h8) ?_
    refine f_op rfl rfl (s_mv (v := .int .i64 x5) rfl) ?_
    refine f_op rfl rfl (s_geq rfl rfl) ?_
    refine f_op rfl rfl (s_pickT (v := .bool (decide (0 ≤ x5))) rfl rfl) ?_
    refine f_op rfl rfl (s_mv (v := .bool (decide (0 ≤ x5))) rfl) ?_
    refine o_if (fun h9 => ?_) (fun h9 => ?_)
    · skip
      refine o_know 18 rfl (dec_true h9) ?_
      refine f_op rfl rfl (s_mv (v := .str a0) rfl) ?_
      refine f_op rfl rfl (s_lenStr rfl Tryz.underlying9 rfl) ?_
      refine f_op rfl rfl (s_leq rfl rfl) ?_
      refine f_op rfl rfl (s_pickT (v := .bool (decide ((a0.size : Int) ≤ 3))) rfl rfl) ?_
      refine f_op rfl rfl (s_mv (v := .bool (decide ((a0.size : Int) ≤ 3))) rfl) ?_
      refine o_if (fun h10 => ?_) (fun h10 => ?_)
      · skip
        refine o_know 23 rfl (dec_true h10) ?_
        refine f_op rfl rfl (s_mv (v := .int .i64 x5) rfl) ?_
        refine o_bind ?_; intro p11 hp11
        refine o_bind ?_; intro x12 hx12
        refine f_op rfl rfl (s_callA happ rfl hp11) ?_
        refine o_know 25 rfl (asStr_eq hx12) ?_
        refine f_op rfl rfl (s_mv (v := .str a0) rfl) ?_
        refine f_op rfl rfl (s_eqStr rfl rfl) ?_
        refine f_op rfl rfl (s_pickT (v := .bool (strEq x12 a0)) rfl rfl) ?_
        refine f_op rfl rfl (s_as (v := .int .i64 x5) rfl) ?_
        refine f_op rfl rfl (s_as (v := .bool (strEq x12 a0)) rfl) ?_
        refine f_nil ?_
        exact f_ret (.tmp rfl (.tmp rfl (.nil))) rfl
      · skip
        refine o_know 23 rfl (dec_false h10) ?_
        refine f_no rfl rfl ?_
        refine f_no rfl rfl ?_
        refine f_no rfl rfl ?_
        refine f_no rfl rfl ?_
        refine f_op rfl rfl (s_pickF (v := .bool false) rfl rfl) ?_
        refine f_op rfl rfl (s_as (v := .int .i64 x5) rfl) ?_
        refine f_op rfl rfl (s_as (v := .bool false) rfl) ?_
        refine f_nil ?_
        exact f_ret (.tmp rfl (.tmp rfl (.nil))) rfl
    · skip
      refine o_know 18 rfl (dec_false h9) ?_
      refine f_no rfl rfl ?_
      refine f_no rfl rfl ?_
      refine f_no rfl rfl ?_
      refine f_op rfl rfl (s_pickF (v := .bool false) rfl rfl) ?_
      refine f_op rfl rfl (s_mv (v := .bool false) rfl) ?_
      refine f_no rfl rfl ?_
      refine f_no rfl rfl ?_
      refine f_no rfl rfl ?_
      refine f_no rfl rfl ?_
      refine f_op rfl rfl (s_pickF (v := .bool false) rfl rfl) ?_
      refine f_op rfl rfl (s_as (v := .int .i64 x5) rfl) ?_
      refine f_op rfl rfl (s_as (v := .bool false) rfl) ?_
      refine f_nil ?_
      exact f_ret (.tmp rfl (.tmp rfl (.nil))) rfl

end Go.Lt.P10
