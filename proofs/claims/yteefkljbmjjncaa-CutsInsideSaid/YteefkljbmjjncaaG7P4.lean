/- PRINTED BY A PROGRAM OF OURS: what each function that 'CutsInside' reaches computes on the abstract heap, and that the translated code does just that. Nothing is asked of the input. -/
import Derived.Test.YteefkljbmjjncaaG7P3
set_option linter.unusedVariables false
set_option linter.unusedSimpArgs false
set_option maxRecDepth 100000
set_option maxHeartbeats 4000000
namespace Go.Lt.P2
open Go Go.Lt Go.Proofs
/- 7 congou/congoulaw02.CutsInside -/
theorem ok7 : FnOk Try.prog 7 := ⟨⟨Try.f7, Try.func7, by kernel_rfl, rfl⟩⟩
theorem s7_j2 {app : App} (happ : AppSim Try.prog app) (kt1 : Sl → Sl → Int → Nat → Bool → Sl → Int → Int → Hp → Option (Bool × Hp)) (hkt1 : ∀ (v1 : Sl) (v2 : Sl) (v3 : Int) (v4 : Nat) (v5 : Bool) (v6 : Sl) (v7 : Int) (v8 : Int) (H : Hp), Fin Try.prog Try.f7 ret7 227 (todoAt (bodyOf Try.f7) [1, 1, 1, 0, 1, 0, 0] []) [(0, .sl v1), (2, .sl v2), (3, .int .i64 v3), (5, .ptr v4 0), (9, .bool v5), (46, .sl v6), (47, .int .i64 v7), (48, .int .i64 v8)] H (kt1 v1 v2 v3 v4 v5 v6 v7 v8 H)) (v1 : Sl) (v2 : Sl) (v3 : Int) (v4 : Nat) (v5 : Bool) (v6 : Sl) (v7 : Int) (v8 : Int) (v9 : Bool) (H : Hp) : Fin Try.prog Try.f7 ret7 227 (todoAt (bodyOf Try.f7) [1, 1, 1, 0, 1, 0, 0, 1, 1, 0, 0, 1, 1] []) [(0, .sl v1), (2, .sl v2), (3, .int .i64 v3), (5, .ptr v4 0), (9, .bool v5), (46, .sl v6), (47, .int .i64 v7), (48, .int .i64 v8), (86, .bool v9)] H (r7_j2 app kt1 v1 v2 v3 v4 v5 v6 v7 v8 v9 H) := by
  unfold r7_j2
  refine f_if (fun h1 => ?_) (fun h1 => ?_)
  · skip
    refine f_know 86 rfl (bool_T h1) ?_
    refine f_condT rfl ?_
    refine f_seq ?_
    refine f_region ?_
    refine f_op rfl rfl (s_as (v := .bool false) rfl) ?_
    refine f_nil ?_
    exact f_ret (.tmp rfl (.nil)) rfl
  · skip
    refine f_know 86 rfl (bool_F h1) ?_
    refine f_condF rfl ?_
    refine f_skip ?_
    refine f_inBlock ?_
    refine f_region ?_
    refine f_op rfl rfl (s_add rfl rfl) ?_
    refine f_op rfl rfl (s_mv (v := .int .i64 (w64 (v8 + 1))) rfl) ?_
    refine f_nil ?_
    refine f_inLoop ?_
    refine f_keep [0, 2, 3, 5, 9, 46, 47, 48] ?_
    exact hkt1 v1 v2 v3 v4 v5 v6 v7 (w64 (v8 + 1)) H

theorem s7_j3 {app : App} (happ : AppSim Try.prog app) (v1 : Sl) (v2 : Sl) (v3 : Int) (v4 : Nat) (v5 : Bool) (H : Hp) : Fin Try.prog Try.f7 ret7 227 (todoAt (bodyOf Try.f7) [1, 1, 1, 1, 1, 1, 0, 1] []) [(0, .sl v1), (2, .sl v2), (3, .int .i64 v3), (13, .ptr v4 0), (171, .bool v5)] H (r7_j3 app v1 v2 v3 v4 v5 H) := by
  unfold r7_j3
  refine f_if (fun h1 => ?_) (fun h1 => ?_)
  · skip
    refine f_know 171 rfl (bool_T h1) ?_
    refine f_condT rfl ?_
    refine f_seq ?_
    refine f_region ?_
    refine f_op rfl rfl (s_as (v := .bool false) rfl) ?_
    refine f_nil ?_
    exact f_ret (.tmp rfl (.nil)) rfl
  · skip
    refine f_know 171 rfl (bool_F h1) ?_
    refine f_condF rfl ?_
    refine f_skip ?_
    refine f_seq ?_
    refine f_region ?_
    refine f_op rfl rfl (s_mv (v := .int .i64 v3) rfl) ?_
    refine f_op rfl rfl (s_convInt Try.underlying3 Try.underlying67 rfl) ?_
    refine f_op rfl rfl (s_rem rfl rfl (by decide)) ?_
    refine f_op rfl rfl (s_convInt Try.underlying67 Try.underlying3 rfl) ?_
    refine f_op rfl rfl (s_as (v := .int .i64 (w64 (Int.tmod (IntKind.wrap .u64 (v3)) 50))) rfl) ?_
    refine f_nil ?_
    refine f_seq ?_
    refine f_bind ?_; intro p2 hp2
    refine f_bind ?_; intro p3 hp3
    refine f_bind ?_; intro x4 hx4
    refine f_bind ?_; intro x5 hx5
    refine f_bind ?_; intro x6 hx6
    refine f_bind ?_; intro p7 hp7
    refine f_ck fun g8 => ?_
    refine f_ck fun g9 => ?_
    refine f_ck fun g10 => ?_
    refine f_ck fun g11 => ?_
    refine f_ck fun g12 => ?_
    refine f_ck fun g13 => ?_
    refine f_draw (Φ := fun H_ => H_.ld v4 (0 + 0) = some (.int .i64 x4) ∧ H_.ld v4 (0 + 1) = some (.int .i64 x5) ∧ H_.ld v4 (0 + 2) = some (.int .i64 x6)) (lim := 13) [0, 2, 0, 2, 0, 0, 0, 0, 0, 0, 0, 0, 0, 2, 0, 0, 0, 0, 0] (Trc.pure rfl rfl rfl (.inl fun _ => s_mv (v := .sl v1) rfl) (Trc.eff rfl rfl rfl (fun _ => ⟨ldI_eq g8, ldI_eq g9, ldI_eq g10⟩) (s_callF rfl ok18 (sim18 hp2)) (Trc.pure rfl rfl rfl (.inl fun _ => s_mv (v := .sl v2) rfl) (Trc.eff rfl rfl rfl (fun _ => ⟨ldI_eq g11, ldI_eq g12, ldI_eq g13⟩) (s_callF rfl ok28 (sim28 hp3)) (Trc.pure rfl rfl rfl (.inl fun _ => s_fieldAddr Try.underlying47 rfl ty3 rfl) (Trc.pure rfl rfl rfl (.inr ⟨by decide +kernel, fun _ hp_ => s_load Try.underlying3 rfl rfl hp_.1⟩) (Trc.pure rfl rfl rfl (.inl fun _ => s_fieldAddr Try.underlying47 rfl ty3 rfl) (Trc.pure rfl rfl rfl (.inr ⟨by decide +kernel, fun _ hp_ => s_load Try.underlying3 rfl rfl hp_.2.1⟩) (Trc.pure rfl rfl rfl (.inl fun _ => s_fieldAddr Try.underlying47 rfl ty3 rfl) (Trc.pure rfl rfl rfl (.inr ⟨by decide +kernel, fun _ hp_ => s_load Try.underlying3 rfl rfl hp_.2.2⟩) (Trc.pure rfl rfl rfl (.inl fun _ => s_mv (v := .int .i64 (w64 (Int.tmod (IntKind.wrap .u64 (v3)) 50))) rfl) (Trc.pure rfl rfl rfl (.inl fun _ => s_add rfl rfl) (Trc.pure rfl rfl rfl (.inl fun _ => s_build (cs := [.int .i64 x4, .int .i64 x5, .int .i64 (w64 (x6 + (w64 (Int.tmod (IntKind.wrap .u64 (v3)) 50))))]) Try.underlying47 ty47 rfl pl47 rfl) (Trc.eff rfl rfl rfl (fun _ => ⟨ldI_eq hx4, ldI_eq hx5, ldI_eq hx6⟩) (s_callF rfl ok29 (sim29 happ hp7)) (Trc.pure rfl rfl rfl (.inl fun _ => s_mv (v := .tup [.bool p7.1.1, .int .i64 p7.1.2]) rfl) (Trc.pure rfl rfl rfl (.inl fun _ => s_extract (r := .bool p7.1.1) rfl rfl) (Trc.pure rfl rfl rfl (.inl fun _ => s_extract (r := .int .i64 p7.1.2) rfl rfl) (Trc.pure rfl rfl rfl (.inl fun _ => s_as (v := .bool p7.1.1) rfl) (Trc.pure rfl rfl rfl (.inl fun _ => s_as (v := .int .i64 p7.1.2) rfl) (Trc.nil (fun h_ => absurd h_ (by decide +kernel)))))))))))))))))))))) rfl (by decide +kernel) mixed ?_
    refine f_seq ?_
    refine f_bind ?_; intro p14 hp14
    refine f_bind ?_; intro p15 hp15
    refine f_bind ?_; intro x16 hx16
    refine f_bind ?_; intro x17 hx17
    refine f_bind ?_; intro x18 hx18
    refine f_bind ?_; intro p19 hp19
    refine f_ck fun g20 => ?_
    refine f_ck fun g21 => ?_
    refine f_ck fun g22 => ?_
    refine f_ck fun g23 => ?_
    refine f_ck fun g24 => ?_
    refine f_ck fun g25 => ?_
    refine f_draw (Φ := fun H_ => H_.ld v4 (0 + 0) = some (.int .i64 x16) ∧ H_.ld v4 (0 + 1) = some (.int .i64 x17) ∧ H_.ld v4 (0 + 2) = some (.int .i64 x18)) (lim := 14) [0, 2, 0, 2, 0, 0, 0, 0, 0, 0, 0, 0, 0, 0, 2, 0, 0, 0, 0, 0] (Trc.pure rfl rfl rfl (.inl fun _ => s_mv (v := .sl v1) rfl) (Trc.eff rfl rfl rfl (fun _ => ⟨ldI_eq g20, ldI_eq g21, ldI_eq g22⟩) (s_callF rfl ok18 (sim18 hp14)) (Trc.pure rfl rfl rfl (.inl fun _ => s_mv (v := .sl v2) rfl) (Trc.eff rfl rfl rfl (fun _ => ⟨ldI_eq g23, ldI_eq g24, ldI_eq g25⟩) (s_callF rfl ok28 (sim28 hp15)) (Trc.pure rfl rfl rfl (.inl fun _ => s_fieldAddr Try.underlying47 rfl ty3 rfl) (Trc.pure rfl rfl rfl (.inr ⟨by decide +kernel, fun _ hp_ => s_load Try.underlying3 rfl rfl hp_.1⟩) (Trc.pure rfl rfl rfl (.inl fun _ => s_fieldAddr Try.underlying47 rfl ty3 rfl) (Trc.pure rfl rfl rfl (.inr ⟨by decide +kernel, fun _ hp_ => s_load Try.underlying3 rfl rfl hp_.2.1⟩) (Trc.pure rfl rfl rfl (.inl fun _ => s_fieldAddr Try.underlying47 rfl ty3 rfl) (Trc.pure rfl rfl rfl (.inr ⟨by decide +kernel, fun _ hp_ => s_load Try.underlying3 rfl rfl hp_.2.2⟩) (Trc.pure rfl rfl rfl (.inl fun _ => s_sub rfl rfl) (Trc.pure rfl rfl rfl (.inl fun _ => s_mv (v := .int .i64 (w64 (Int.tmod (IntKind.wrap .u64 (v3)) 50))) rfl) (Trc.pure rfl rfl rfl (.inl fun _ => s_sub rfl rfl) (Trc.pure rfl rfl rfl (.inl fun _ => s_build (cs := [.int .i64 x16, .int .i64 x17, .int .i64 (w64 ((w64 (x18 - 1)) - (w64 (Int.tmod (IntKind.wrap .u64 (v3)) 50))))]) Try.underlying47 ty47 rfl pl47 rfl) (Trc.eff rfl rfl rfl (fun _ => ⟨ldI_eq hx16, ldI_eq hx17, ldI_eq hx18⟩) (s_callF rfl ok29 (sim29 happ hp19)) (Trc.pure rfl rfl rfl (.inl fun _ => s_mv (v := .tup [.bool p19.1.1, .int .i64 p19.1.2]) rfl) (Trc.pure rfl rfl rfl (.inl fun _ => s_extract (r := .bool p19.1.1) rfl rfl) (Trc.pure rfl rfl rfl (.inl fun _ => s_extract (r := .int .i64 p19.1.2) rfl rfl) (Trc.pure rfl rfl rfl (.inl fun _ => s_as (v := .bool p19.1.1) rfl) (Trc.pure rfl rfl rfl (.inl fun _ => s_as (v := .int .i64 p19.1.2) rfl) (Trc.nil (fun h_ => absurd h_ (by decide +kernel))))))))))))))))))))))) rfl (by decide +kernel) mixed ?_
    refine f_seq ?_
    refine f_region ?_
    refine f_op rfl rfl (s_mv (v := .bool p7.1.1) rfl) ?_
    refine f_op rfl rfl (s_mv (v := .bool p7.1.1) rfl) ?_
    refine o_if (fun h26 => ?_) (fun h26 => ?_)
    · skip
      refine o_know 212 rfl (bool_T h26) ?_
      refine f_op rfl rfl (s_mv (v := .bool p19.1.1) rfl) ?_
      refine f_op rfl rfl (s_not rfl) ?_
      refine f_op rfl rfl (s_pickT (v := .bool (!p19.1.1)) rfl rfl) ?_
      refine f_op rfl rfl (s_mv (v := .bool (!p19.1.1)) rfl) ?_
      refine o_if (fun h27 => ?_) (fun h27 => ?_)
      · skip
        refine o_know 216 rfl (bool_notT h27) ?_
        refine f_no rfl rfl ?_
        refine f_no rfl rfl ?_
        refine f_op rfl rfl (s_pickF (v := .bool false) rfl rfl) ?_
        refine f_op rfl rfl (s_mv (v := .bool false) rfl) ?_
        refine f_no rfl rfl ?_
        refine f_no rfl rfl ?_
        refine f_op rfl rfl (s_pickF (v := .bool false) rfl rfl) ?_
        refine f_op rfl rfl (s_mv (v := .bool false) rfl) ?_
        refine f_no rfl rfl ?_
        refine f_op rfl rfl (s_pickF (v := .bool false) rfl rfl) ?_
        refine f_op rfl rfl (s_as (v := .bool false) rfl) ?_
        refine f_nil ?_
        exact f_ret (.tmp rfl (.nil)) rfl
      · skip
        refine o_know 216 rfl (bool_notF h27) ?_
        refine f_op rfl rfl (s_mv (v := .int .i64 p7.1.2) rfl) ?_
        refine f_op rfl rfl (s_eql rfl rfl) ?_
        refine f_op rfl rfl (s_pickT (v := .bool (decide (p7.1.2 = 0))) rfl rfl) ?_
        refine f_op rfl rfl (s_mv (v := .bool (decide (p7.1.2 = 0))) rfl) ?_
        refine o_if (fun h28 => ?_) (fun h28 => ?_)
        · skip
          refine o_know 220 rfl (dec_true h28) ?_
          refine f_op rfl rfl (s_mv (v := .int .i64 p19.1.2) rfl) ?_
          refine f_op rfl rfl (s_eql rfl rfl) ?_
          refine f_op rfl rfl (s_pickT (v := .bool (decide (p19.1.2 = 0))) rfl rfl) ?_
          refine f_op rfl rfl (s_mv (v := .bool (decide (p19.1.2 = 0))) rfl) ?_
          refine o_if (fun h29 => ?_) (fun h29 => ?_)
          · skip
            refine o_know 224 rfl (dec_true h29) ?_
            refine o_bind ?_; intro p30 hp30
            refine o_bind ?_; intro x31 hx31
            refine f_op rfl rfl (s_callA happ rfl hp30) ?_
            refine o_know 225 rfl (asB_eq hx31) ?_
            refine f_op rfl rfl (s_pickT (v := .bool x31) rfl rfl) ?_
            refine f_op rfl rfl (s_as (v := .bool x31) rfl) ?_
            refine f_nil ?_
            exact f_ret (.tmp rfl (.nil)) rfl
          · skip
            refine o_know 224 rfl (dec_false h29) ?_
            refine f_no rfl rfl ?_
            refine f_op rfl rfl (s_pickF (v := .bool false) rfl rfl) ?_
            refine f_op rfl rfl (s_as (v := .bool false) rfl) ?_
            refine f_nil ?_
            exact f_ret (.tmp rfl (.nil)) rfl
        · skip
          refine o_know 220 rfl (dec_false h28) ?_
          refine f_no rfl rfl ?_
          refine f_no rfl rfl ?_
          refine f_op rfl rfl (s_pickF (v := .bool false) rfl rfl) ?_
          refine f_op rfl rfl (s_mv (v := .bool false) rfl) ?_
          refine f_no rfl rfl ?_
          refine f_op rfl rfl (s_pickF (v := .bool false) rfl rfl) ?_
          refine f_op rfl rfl (s_as (v := .bool false) rfl) ?_
          refine f_nil ?_
          exact f_ret (.tmp rfl (.nil)) rfl
    · skip
      refine o_know 212 rfl (bool_F h26) ?_
      refine f_no rfl rfl ?_
      refine f_no rfl rfl ?_
      refine f_op rfl rfl (s_pickF (v := .bool false) rfl rfl) ?_
      refine f_op rfl rfl (s_mv (v := .bool false) rfl) ?_
      refine f_no rfl rfl ?_
      refine f_no rfl rfl ?_
      refine f_op rfl rfl (s_pickF (v := .bool false) rfl rfl) ?_
      refine f_op rfl rfl (s_mv (v := .bool false) rfl) ?_
      refine f_no rfl rfl ?_
      refine f_no rfl rfl ?_
      refine f_op rfl rfl (s_pickF (v := .bool false) rfl rfl) ?_
      refine f_op rfl rfl (s_mv (v := .bool false) rfl) ?_
      refine f_no rfl rfl ?_
      refine f_op rfl rfl (s_pickF (v := .bool false) rfl rfl) ?_
      refine f_op rfl rfl (s_as (v := .bool false) rfl) ?_
      refine f_nil ?_
      exact f_ret (.tmp rfl (.nil)) rfl

theorem s7_l1 {app : App} (happ : AppSim Try.prog app) : ∀ (k_ : Nat) (v1 : Sl) (v2 : Sl) (v3 : Int) (v4 : Nat) (v5 : Bool) (v6 : Sl) (v7 : Int) (v8 : Int) (H : Hp), Fin Try.prog Try.f7 ret7 227 (todoAt (bodyOf Try.f7) [1, 1, 1, 0, 1, 0, 0] []) [(0, .sl v1), (2, .sl v2), (3, .int .i64 v3), (5, .ptr v4 0), (9, .bool v5), (46, .sl v6), (47, .int .i64 v7), (48, .int .i64 v8)] H (r7_l1 app k_ v1 v2 v3 v4 v5 v6 v7 v8 H) := by
  intro k_
  induction k_ with
  | zero => intro _ _ _ _ _ _ _ _ _; exact f_none
  | succ k_ ih =>
    intro v1 v2 v3 v4 v5 v6 v7 v8 H
    rw [r7_l1]
    refine f_seq ?_
    refine f_region ?_
    refine f_op rfl rfl (s_lss rfl rfl) ?_
    refine f_nil ?_
    refine f_seq ?_
    refine f_if (fun h1 => ?_) (fun h1 => ?_)
    · skip
      refine f_know 49 rfl (dec_true h1) ?_
      refine f_condT rfl ?_
      refine f_skip ?_
      refine f_seq ?_
      refine f_block ?_
      refine f_seq ?_
      refine f_region ?_
      refine o_ck fun g2 => ?_
      refine f_op rfl rfl (s_idx Try.underlying22 ty46 rfl rfl g2) ?_
      refine o_bind ?_; intro x3 hx3
      refine o_bind ?_; intro x4 hx4
      refine o_bind ?_; intro x5 hx5
      refine f_op rfl rfl (s_loads Try.underlying46 rfl ty46 rfl (lds_cons (ldI_eq hx3) (lds_cons (ldI_eq hx4) (lds_cons (ldI_eq hx5) (lds_nil))))) ?_
      refine f_op rfl rfl (s_alloc (zs := [.int .i64 0, .int .i64 0, .int .i64 0]) ty46 rfl rfl) ?_
      refine o_bind ?_; intro H6 hH6
      refine f_op rfl rfl (s_stores ty46 rfl rfl rfl rfl hH6 (Nat.le_of_eq (sts_mono hH6).symm)) ?_
      refine f_nil ?_
      refine f_seq ?_
      refine f_region ?_
      refine f_op rfl rfl (s_mv (v := .bool v5) rfl) ?_
      refine f_op rfl rfl (s_mv (v := .bool v5) rfl) ?_
      refine o_if (fun h7 => ?_) (fun h7 => ?_)
      · skip
        refine o_know 53 rfl (bool_T h7) ?_
        refine f_op rfl rfl (s_fieldAddr Try.underlying46 rfl ty3 rfl) ?_
        refine o_bind ?_; intro x8 hx8
        refine f_op rfl rfl (s_load Try.underlying3 rfl rfl (ldI_eq hx8)) ?_
        refine f_op rfl rfl (s_fieldAddr Try.underlying26 rfl ty24 rfl) ?_
        refine f_op rfl rfl (s_fieldAddr Try.underlying24 rfl ty3 rfl) ?_
        refine o_bind ?_; intro x9 hx9
        refine f_op rfl rfl (s_load Try.underlying3 rfl rfl (ldI_eq hx9)) ?_
        refine f_op rfl rfl (s_mul rfl rfl) ?_
        refine f_op rfl rfl (s_fieldAddr Try.underlying26 rfl ty24 rfl) ?_
        refine f_op rfl rfl (s_fieldAddr Try.underlying24 rfl ty3 rfl) ?_
        refine o_bind ?_; intro x10 hx10
        refine f_op rfl rfl (s_load Try.underlying3 rfl rfl (ldI_eq hx10)) ?_
        refine f_op rfl rfl (s_mul rfl rfl) ?_
        refine f_op rfl rfl (s_fieldAddr Try.underlying46 rfl ty3 rfl) ?_
        refine o_bind ?_; intro x11 hx11
        refine f_op rfl rfl (s_load Try.underlying3 rfl rfl (ldI_eq hx11)) ?_
        refine f_op rfl rfl (s_fieldAddr Try.underlying26 rfl ty24 rfl) ?_
        refine f_op rfl rfl (s_fieldAddr Try.underlying24 rfl ty3 rfl) ?_
        refine o_bind ?_; intro x12 hx12
        refine f_op rfl rfl (s_load Try.underlying3 rfl rfl (ldI_eq hx12)) ?_
        refine f_op rfl rfl (s_mul rfl rfl) ?_
        refine f_op rfl rfl (s_fieldAddr Try.underlying26 rfl ty24 rfl) ?_
        refine f_op rfl rfl (s_fieldAddr Try.underlying24 rfl ty3 rfl) ?_
        refine o_bind ?_; intro x13 hx13
        refine f_op rfl rfl (s_load Try.underlying3 rfl rfl (ldI_eq hx13)) ?_
        refine f_op rfl rfl (s_mul rfl rfl) ?_
        refine f_op rfl rfl (s_add rfl rfl) ?_
        refine f_op rfl rfl (s_fieldAddr Try.underlying46 rfl ty3 rfl) ?_
        refine o_bind ?_; intro x14 hx14
        refine f_op rfl rfl (s_load Try.underlying3 rfl rfl (ldI_eq hx14)) ?_
        refine f_op rfl rfl (s_fieldAddr Try.underlying26 rfl ty24 rfl) ?_
        refine f_op rfl rfl (s_fieldAddr Try.underlying24 rfl ty3 rfl) ?_
        refine o_bind ?_; intro x15 hx15
        refine f_op rfl rfl (s_load Try.underlying3 rfl rfl (ldI_eq hx15)) ?_
        refine f_op rfl rfl (s_mul rfl rfl) ?_
        refine f_op rfl rfl (s_fieldAddr Try.underlying26 rfl ty24 rfl) ?_
        refine f_op rfl rfl (s_fieldAddr Try.underlying24 rfl ty3 rfl) ?_
        refine o_bind ?_; intro x16 hx16
        refine f_op rfl rfl (s_load Try.underlying3 rfl rfl (ldI_eq hx16)) ?_
        refine f_op rfl rfl (s_mul rfl rfl) ?_
        refine f_op rfl rfl (s_gtr rfl rfl) ?_
        refine f_op rfl rfl (s_pickT (v := .bool (decide ((w64 ((w64 (x14 * x15)) * x16)) < (w64 ((w64 ((w64 (x8 * x9)) * x10)) + (w64 ((w64 (x11 * x12)) * x13))))))) rfl rfl) ?_
        refine f_nil ?_
        refine f_know 9 rfl (bool_T h7) ?_
        refine f_keep [0, 2, 3, 5, 9, 46, 47, 48, 86] ?_
        exact s7_j2 happ _ (fun v1_ v2_ v3_ v4_ v5_ v6_ v7_ v8_ H_ => ih v1_ v2_ v3_ v4_ v5_ v6_ v7_ v8_ H_) v1 v2 v3 v4 true v6 v7 v8 (decide ((w64 ((w64 (x14 * x15)) * x16)) < (w64 ((w64 ((w64 (x8 * x9)) * x10)) + (w64 ((w64 (x11 * x12)) * x13)))))) H6
      · skip
        refine o_know 53 rfl (bool_F h7) ?_
        refine f_no rfl rfl ?_
        refine f_no rfl rfl ?_
        refine f_no rfl rfl ?_
        refine f_no rfl rfl ?_
        refine f_no rfl rfl ?_
        refine f_no rfl rfl ?_
        refine f_no rfl rfl ?_
        refine f_no rfl rfl ?_
        refine f_no rfl rfl ?_
        refine f_no rfl rfl ?_
        refine f_no rfl rfl ?_
        refine f_no rfl rfl ?_
        refine f_no rfl rfl ?_
        refine f_no rfl rfl ?_
        refine f_no rfl rfl ?_
        refine f_no rfl rfl ?_
        refine f_no rfl rfl ?_
        refine f_no rfl rfl ?_
        refine f_no rfl rfl ?_
        refine f_no rfl rfl ?_
        refine f_no rfl rfl ?_
        refine f_no rfl rfl ?_
        refine f_no rfl rfl ?_
        refine f_no rfl rfl ?_
        refine f_no rfl rfl ?_
        refine f_no rfl rfl ?_
        refine f_no rfl rfl ?_
        refine f_no rfl rfl ?_
        refine f_no rfl rfl ?_
        refine f_no rfl rfl ?_
        refine f_no rfl rfl ?_
        refine f_no rfl rfl ?_
        refine f_op rfl rfl (s_pickF (v := .bool false) rfl rfl) ?_
        refine f_nil ?_
        refine f_know 9 rfl (bool_F h7) ?_
        refine f_keep [0, 2, 3, 5, 9, 46, 47, 48, 86] ?_
        exact s7_j2 happ _ (fun v1_ v2_ v3_ v4_ v5_ v6_ v7_ v8_ H_ => ih v1_ v2_ v3_ v4_ v5_ v6_ v7_ v8_ H_) v1 v2 v3 v4 false v6 v7 v8 false H6
    · skip
      refine f_know 49 rfl (dec_false h1) ?_
      refine f_condF rfl ?_
      refine f_exit rfl ?_
      refine f_seq ?_
      refine f_region ?_
      refine f_op rfl rfl (s_mv (v := .sl v1) rfl) ?_
      refine o_bind ?_; intro p17 hp17
      refine f_op rfl rfl (s_callF rfl ok18 (sim18 hp17)) ?_
      refine f_op rfl rfl (s_mv (v := .sl v2) rfl) ?_
      refine o_bind ?_; intro p18 hp18
      refine f_op rfl rfl (s_callF rfl ok28 (sim28 hp18)) ?_
      refine o_bind ?_; intro p19 hp19
      refine f_op rfl rfl (s_callF rfl ok27 (sim27 happ hp19)) ?_
      refine f_op rfl rfl (s_mv (v := .tup [.agg [.int .i64 p19.1.1, .int .i64 p19.1.2.1, .int .i64 p19.1.2.2.1], .int .i64 p19.1.2.2.2]) rfl) ?_
      refine f_op rfl rfl (s_extract (r := .agg [.int .i64 p19.1.1, .int .i64 p19.1.2.1, .int .i64 p19.1.2.2.1]) rfl rfl) ?_
      refine f_op rfl rfl (s_extract (r := .int .i64 p19.1.2.2.2) rfl rfl) ?_
      refine f_op rfl rfl (s_alloc (zs := [.int .i64 0, .int .i64 0, .int .i64 0]) ty47 rfl rfl) ?_
      refine o_bind ?_; intro H20 hH20
      refine f_op rfl rfl (s_stores ty47 rfl rfl rfl rfl hH20 (Nat.le_of_eq (sts_mono hH20).symm)) ?_
      refine f_op rfl rfl (s_as (v := .int .i64 p19.1.2.2.2) rfl) ?_
      refine f_nil ?_
      refine f_seq ?_
      refine f_seq ?_
      refine f_region ?_
      refine f_op rfl rfl (s_mv (v := .int .i64 p19.1.2.2.2) rfl) ?_
      refine f_op rfl rfl (s_neq rfl rfl) ?_
      refine f_nil ?_
      refine f_if (fun h21 => ?_) (fun h21 => ?_)
      · skip
        refine f_know 97 rfl (dec_true h21) ?_
        refine f_condT rfl ?_
        refine f_seq ?_
        refine f_region ?_
        refine f_op rfl rfl (s_mv (v := .int .i64 p19.1.2.2.2) rfl) ?_
        refine f_op rfl rfl (s_eql rfl rfl) ?_
        refine f_op rfl rfl (s_mv (v := .bool (decide (p19.1.2.2.2 = 2))) rfl) ?_
        refine o_if (fun h22 => ?_) (fun h22 => ?_)
        · skip
          refine o_know 100 rfl (dec_true h22) ?_
          refine f_no rfl rfl ?_
          refine f_no rfl rfl ?_
          refine f_op rfl rfl (s_pickT (v := .bool true) rfl rfl) ?_
          refine f_op rfl rfl (s_mv (v := .bool true) rfl) ?_
          refine o_bind ?_; intro p23 hp23
          refine o_bind ?_; intro x24 hx24
          refine f_op rfl rfl (s_callA happ rfl hp23) ?_
          refine o_know 105 rfl (asB_eq hx24) ?_
          refine f_op rfl rfl (s_pickT (v := .bool x24) rfl rfl) ?_
          refine f_op rfl rfl (s_as (v := .bool x24) rfl) ?_
          refine f_nil ?_
          exact f_ret (.tmp rfl (.nil)) rfl
        · skip
          refine o_know 100 rfl (dec_false h22) ?_
          refine f_op rfl rfl (s_mv (v := .int .i64 p19.1.2.2.2) rfl) ?_
          refine f_op rfl rfl (s_eql rfl rfl) ?_
          refine f_op rfl rfl (s_pickF (v := .bool (decide (p19.1.2.2.2 = 4))) rfl rfl) ?_
          refine f_op rfl rfl (s_mv (v := .bool (decide (p19.1.2.2.2 = 4))) rfl) ?_
          refine o_if (fun h25 => ?_) (fun h25 => ?_)
          · skip
            refine o_know 104 rfl (dec_true h25) ?_
            refine o_bind ?_; intro p26 hp26
            refine o_bind ?_; intro x27 hx27
            refine f_op rfl rfl (s_callA happ rfl hp26) ?_
            refine o_know 105 rfl (asB_eq hx27) ?_
            refine f_op rfl rfl (s_pickT (v := .bool x27) rfl rfl) ?_
            refine f_op rfl rfl (s_as (v := .bool x27) rfl) ?_
            refine f_nil ?_
            exact f_ret (.tmp rfl (.nil)) rfl
          · skip
            refine o_know 104 rfl (dec_false h25) ?_
            refine f_no rfl rfl ?_
            refine f_op rfl rfl (s_pickF (v := .bool false) rfl rfl) ?_
            refine f_op rfl rfl (s_as (v := .bool false) rfl) ?_
            refine f_nil ?_
            exact f_ret (.tmp rfl (.nil)) rfl
      · skip
        refine f_know 97 rfl (dec_false h21) ?_
        refine f_condF rfl ?_
        refine f_skip ?_
        refine f_seq ?_
        refine f_seq ?_
        refine f_region ?_
        refine f_op rfl rfl (s_fieldAddr Try.underlying47 rfl ty3 rfl) ?_
        refine o_bind ?_; intro x28 hx28
        refine f_op rfl rfl (s_load Try.underlying3 rfl rfl (ldI_eq hx28)) ?_
        refine f_op rfl rfl (s_lss rfl rfl) ?_
        refine f_op rfl rfl (s_mv (v := .bool (decide (x28 < (-3000)))) rfl) ?_
        refine o_if (fun h29 => ?_) (fun h29 => ?_)
        · skip
          refine o_know 110 rfl (dec_true h29) ?_
          refine f_no rfl rfl ?_
          refine f_no rfl rfl ?_
          refine f_no rfl rfl ?_
          refine f_op rfl rfl (s_pickT (v := .bool true) rfl rfl) ?_
          refine f_op rfl rfl (s_mv (v := .bool true) rfl) ?_
          refine f_no rfl rfl ?_
          refine f_no rfl rfl ?_
          refine f_no rfl rfl ?_
          refine f_op rfl rfl (s_pickT (v := .bool true) rfl rfl) ?_
          refine f_op rfl rfl (s_mv (v := .bool true) rfl) ?_
          refine f_no rfl rfl ?_
          refine f_no rfl rfl ?_
          refine f_no rfl rfl ?_
          refine f_op rfl rfl (s_pickT (v := .bool true) rfl rfl) ?_
          refine f_op rfl rfl (s_mv (v := .bool true) rfl) ?_
          refine f_no rfl rfl ?_
          refine f_no rfl rfl ?_
          refine f_no rfl rfl ?_
          refine f_op rfl rfl (s_pickT (v := .bool true) rfl rfl) ?_
          refine f_op rfl rfl (s_mv (v := .bool true) rfl) ?_
          refine f_no rfl rfl ?_
          refine f_no rfl rfl ?_
          refine f_no rfl rfl ?_
          refine f_op rfl rfl (s_pickT (v := .bool true) rfl rfl) ?_
          refine f_op rfl rfl (s_mv (v := .bool true) rfl) ?_
          refine f_no rfl rfl ?_
          refine f_no rfl rfl ?_
          refine f_no rfl rfl ?_
          refine f_no rfl rfl ?_
          refine f_no rfl rfl ?_
          refine f_no rfl rfl ?_
          refine f_no rfl rfl ?_
          refine f_no rfl rfl ?_
          refine f_no rfl rfl ?_
          refine f_no rfl rfl ?_
          refine f_no rfl rfl ?_
          refine f_no rfl rfl ?_
          refine f_no rfl rfl ?_
          refine f_no rfl rfl ?_
          refine f_no rfl rfl ?_
          refine f_no rfl rfl ?_
          refine f_no rfl rfl ?_
          refine f_no rfl rfl ?_
          refine f_no rfl rfl ?_
          refine f_no rfl rfl ?_
          refine f_no rfl rfl ?_
          refine f_no rfl rfl ?_
          refine f_no rfl rfl ?_
          refine f_no rfl rfl ?_
          refine f_no rfl rfl ?_
          refine f_no rfl rfl ?_
          refine f_no rfl rfl ?_
          refine f_no rfl rfl ?_
          refine f_no rfl rfl ?_
          refine f_no rfl rfl ?_
          refine f_no rfl rfl ?_
          refine f_no rfl rfl ?_
          refine f_no rfl rfl ?_
          refine f_no rfl rfl ?_
          refine f_no rfl rfl ?_
          refine f_op rfl rfl (s_pickT (v := .bool true) rfl rfl) ?_
          refine f_nil ?_
          refine f_keep [0, 2, 3, 13, 171] ?_
          exact s7_j3 happ v1 v2 v3 p19.2.n true H20
        · skip
          refine o_know 110 rfl (dec_false h29) ?_
          refine f_op rfl rfl (s_fieldAddr Try.underlying47 rfl ty3 rfl) ?_
          refine o_bind ?_; intro x30 hx30
          refine f_op rfl rfl (s_load Try.underlying3 rfl rfl (ldI_eq hx30)) ?_
          refine f_op rfl rfl (s_gtr rfl rfl) ?_
          refine f_op rfl rfl (s_pickF (v := .bool (decide (3000 < x30))) rfl rfl) ?_
          refine f_op rfl rfl (s_mv (v := .bool (decide (3000 < x30))) rfl) ?_
          refine o_if (fun h31 => ?_) (fun h31 => ?_)
          · skip
            refine o_know 115 rfl (dec_true h31) ?_
            refine f_no rfl rfl ?_
            refine f_no rfl rfl ?_
            refine f_no rfl rfl ?_
            refine f_op rfl rfl (s_pickT (v := .bool true) rfl rfl) ?_
            refine f_op rfl rfl (s_mv (v := .bool true) rfl) ?_
            refine f_no rfl rfl ?_
            refine f_no rfl rfl ?_
            refine f_no rfl rfl ?_
            refine f_op rfl rfl (s_pickT (v := .bool true) rfl rfl) ?_
            refine f_op rfl rfl (s_mv (v := .bool true) rfl) ?_
            refine f_no rfl rfl ?_
            refine f_no rfl rfl ?_
            refine f_no rfl rfl ?_
            refine f_op rfl rfl (s_pickT (v := .bool true) rfl rfl) ?_
            refine f_op rfl rfl (s_mv (v := .bool true) rfl) ?_
            refine f_no rfl rfl ?_
            refine f_no rfl rfl ?_
            refine f_no rfl rfl ?_
            refine f_op rfl rfl (s_pickT (v := .bool true) rfl rfl) ?_
            refine f_op rfl rfl (s_mv (v := .bool true) rfl) ?_
            refine f_no rfl rfl ?_
            refine f_no rfl rfl ?_
            refine f_no rfl rfl ?_
            refine f_no rfl rfl ?_
            refine f_no rfl rfl ?_
            refine f_no rfl rfl ?_
            refine f_no rfl rfl ?_
            refine f_no rfl rfl ?_
            refine f_no rfl rfl ?_
            refine f_no rfl rfl ?_
            refine f_no rfl rfl ?_
            refine f_no rfl rfl ?_
            refine f_no rfl rfl ?_
            refine f_no rfl rfl ?_
            refine f_no rfl rfl ?_
            refine f_no rfl rfl ?_
            refine f_no rfl rfl ?_
            refine f_no rfl rfl ?_
            refine f_no rfl rfl ?_
            refine f_no rfl rfl ?_
            refine f_no rfl rfl ?_
            refine f_no rfl rfl ?_
            refine f_no rfl rfl ?_
            refine f_no rfl rfl ?_
            refine f_no rfl rfl ?_
            refine f_no rfl rfl ?_
            refine f_no rfl rfl ?_
            refine f_no rfl rfl ?_
            refine f_no rfl rfl ?_
            refine f_no rfl rfl ?_
            refine f_no rfl rfl ?_
            refine f_no rfl rfl ?_
            refine f_no rfl rfl ?_
            refine f_no rfl rfl ?_
            refine f_no rfl rfl ?_
            refine f_op rfl rfl (s_pickT (v := .bool true) rfl rfl) ?_
            refine f_nil ?_
            refine f_keep [0, 2, 3, 13, 171] ?_
            exact s7_j3 happ v1 v2 v3 p19.2.n true H20
          · skip
            refine o_know 115 rfl (dec_false h31) ?_
            refine f_op rfl rfl (s_fieldAddr Try.underlying47 rfl ty3 rfl) ?_
            refine o_bind ?_; intro x32 hx32
            refine f_op rfl rfl (s_load Try.underlying3 rfl rfl (ldI_eq hx32)) ?_
            refine f_op rfl rfl (s_lss rfl rfl) ?_
            refine f_op rfl rfl (s_pickF (v := .bool (decide (x32 < (-3000)))) rfl rfl) ?_
            refine f_op rfl rfl (s_mv (v := .bool (decide (x32 < (-3000)))) rfl) ?_
            refine o_if (fun h33 => ?_) (fun h33 => ?_)
            · skip
              refine o_know 120 rfl (dec_true h33) ?_
              refine f_no rfl rfl ?_
              refine f_no rfl rfl ?_
              refine f_no rfl rfl ?_
              refine f_op rfl rfl (s_pickT (v := .bool true) rfl rfl) ?_
              refine f_op rfl rfl (s_mv (v := .bool true) rfl) ?_
              refine f_no rfl rfl ?_
              refine f_no rfl rfl ?_
              refine f_no rfl rfl ?_
              refine f_op rfl rfl (s_pickT (v := .bool true) rfl rfl) ?_
              refine f_op rfl rfl (s_mv (v := .bool true) rfl) ?_
              refine f_no rfl rfl ?_
              refine f_no rfl rfl ?_
              refine f_no rfl rfl ?_
              refine f_op rfl rfl (s_pickT (v := .bool true) rfl rfl) ?_
              refine f_op rfl rfl (s_mv (v := .bool true) rfl) ?_
              refine f_no rfl rfl ?_
              refine f_no rfl rfl ?_
              refine f_no rfl rfl ?_
              refine f_no rfl rfl ?_
              refine f_no rfl rfl ?_
              refine f_no rfl rfl ?_
              refine f_no rfl rfl ?_
              refine f_no rfl rfl ?_
              refine f_no rfl rfl ?_
              refine f_no rfl rfl ?_
              refine f_no rfl rfl ?_
              refine f_no rfl rfl ?_
              refine f_no rfl rfl ?_
              refine f_no rfl rfl ?_
              refine f_no rfl rfl ?_
              refine f_no rfl rfl ?_
              refine f_no rfl rfl ?_
              refine f_no rfl rfl ?_
              refine f_no rfl rfl ?_
              refine f_no rfl rfl ?_
              refine f_no rfl rfl ?_
              refine f_no rfl rfl ?_
              refine f_no rfl rfl ?_
              refine f_no rfl rfl ?_
              refine f_no rfl rfl ?_
              refine f_no rfl rfl ?_
              refine f_no rfl rfl ?_
              refine f_no rfl rfl ?_
              refine f_no rfl rfl ?_
              refine f_no rfl rfl ?_
              refine f_no rfl rfl ?_
              refine f_no rfl rfl ?_
              refine f_no rfl rfl ?_
              refine f_no rfl rfl ?_
              refine f_no rfl rfl ?_
              refine f_op rfl rfl (s_pickT (v := .bool true) rfl rfl) ?_
              refine f_nil ?_
              refine f_keep [0, 2, 3, 13, 171] ?_
              exact s7_j3 happ v1 v2 v3 p19.2.n true H20
            · skip
              refine o_know 120 rfl (dec_false h33) ?_
              refine f_op rfl rfl (s_fieldAddr Try.underlying47 rfl ty3 rfl) ?_
              refine o_bind ?_; intro x34 hx34
              refine f_op rfl rfl (s_load Try.underlying3 rfl rfl (ldI_eq hx34)) ?_
              refine f_op rfl rfl (s_gtr rfl rfl) ?_
              refine f_op rfl rfl (s_pickF (v := .bool (decide (3000 < x34))) rfl rfl) ?_
              refine f_op rfl rfl (s_mv (v := .bool (decide (3000 < x34))) rfl) ?_
              refine o_if (fun h35 => ?_) (fun h35 => ?_)
              · skip
                refine o_know 125 rfl (dec_true h35) ?_
                refine f_no rfl rfl ?_
                refine f_no rfl rfl ?_
                refine f_no rfl rfl ?_
                refine f_op rfl rfl (s_pickT (v := .bool true) rfl rfl) ?_
                refine f_op rfl rfl (s_mv (v := .bool true) rfl) ?_
                refine f_no rfl rfl ?_
                refine f_no rfl rfl ?_
                refine f_no rfl rfl ?_
                refine f_op rfl rfl (s_pickT (v := .bool true) rfl rfl) ?_
                refine f_op rfl rfl (s_mv (v := .bool true) rfl) ?_
                refine f_no rfl rfl ?_
                refine f_no rfl rfl ?_
                refine f_no rfl rfl ?_
                refine f_no rfl rfl ?_
                refine f_no rfl rfl ?_
                refine f_no rfl rfl ?_
                refine f_no rfl rfl ?_
                refine f_no rfl rfl ?_
                refine f_no rfl rfl ?_
                refine f_no rfl rfl ?_
                refine f_no rfl rfl ?_
                refine f_no rfl rfl ?_
                refine f_no rfl rfl ?_
                refine f_no rfl rfl ?_
                refine f_no rfl rfl ?_
                refine f_no rfl rfl ?_
                refine f_no rfl rfl ?_
                refine f_no rfl rfl ?_
                refine f_no rfl rfl ?_
                refine f_no rfl rfl ?_
                refine f_no rfl rfl ?_
                refine f_no rfl rfl ?_
                refine f_no rfl rfl ?_
                refine f_no rfl rfl ?_
                refine f_no rfl rfl ?_
                refine f_no rfl rfl ?_
                refine f_no rfl rfl ?_
                refine f_no rfl rfl ?_
                refine f_no rfl rfl ?_
                refine f_no rfl rfl ?_
                refine f_no rfl rfl ?_
                refine f_no rfl rfl ?_
                refine f_no rfl rfl ?_
                refine f_no rfl rfl ?_
                refine f_no rfl rfl ?_
                refine f_op rfl rfl (s_pickT (v := .bool true) rfl rfl) ?_
                refine f_nil ?_
                refine f_keep [0, 2, 3, 13, 171] ?_
                exact s7_j3 happ v1 v2 v3 p19.2.n true H20
              · skip
                refine o_know 125 rfl (dec_false h35) ?_
                refine f_op rfl rfl (s_fieldAddr Try.underlying47 rfl ty3 rfl) ?_
                refine o_bind ?_; intro x36 hx36
                refine f_op rfl rfl (s_load Try.underlying3 rfl rfl (ldI_eq hx36)) ?_
                refine f_op rfl rfl (s_lss rfl rfl) ?_
                refine f_op rfl rfl (s_pickF (v := .bool (decide (x36 < (-30000)))) rfl rfl) ?_
                refine f_op rfl rfl (s_mv (v := .bool (decide (x36 < (-30000)))) rfl) ?_
                refine o_if (fun h37 => ?_) (fun h37 => ?_)
                · skip
                  refine o_know 130 rfl (dec_true h37) ?_
                  refine f_no rfl rfl ?_
                  refine f_no rfl rfl ?_
                  refine f_no rfl rfl ?_
                  refine f_op rfl rfl (s_pickT (v := .bool true) rfl rfl) ?_
                  refine f_op rfl rfl (s_mv (v := .bool true) rfl) ?_
                  refine f_no rfl rfl ?_
                  refine f_no rfl rfl ?_
                  refine f_no rfl rfl ?_
                  refine f_no rfl rfl ?_
                  refine f_no rfl rfl ?_
                  refine f_no rfl rfl ?_
                  refine f_no rfl rfl ?_
                  refine f_no rfl rfl ?_
                  refine f_no rfl rfl ?_
                  refine f_no rfl rfl ?_
                  refine f_no rfl rfl ?_
                  refine f_no rfl rfl ?_
                  refine f_no rfl rfl ?_
                  refine f_no rfl rfl ?_
                  refine f_no rfl rfl ?_
                  refine f_no rfl rfl ?_
                  refine f_no rfl rfl ?_
                  refine f_no rfl rfl ?_
                  refine f_no rfl rfl ?_
                  refine f_no rfl rfl ?_
                  refine f_no rfl rfl ?_
                  refine f_no rfl rfl ?_
                  refine f_no rfl rfl ?_
                  refine f_no rfl rfl ?_
                  refine f_no rfl rfl ?_
                  refine f_no rfl rfl ?_
                  refine f_no rfl rfl ?_
                  refine f_no rfl rfl ?_
                  refine f_no rfl rfl ?_
                  refine f_no rfl rfl ?_
                  refine f_no rfl rfl ?_
                  refine f_no rfl rfl ?_
                  refine f_no rfl rfl ?_
                  refine f_no rfl rfl ?_
                  refine f_no rfl rfl ?_
                  refine f_op rfl rfl (s_pickT (v := .bool true) rfl rfl) ?_
                  refine f_nil ?_
                  refine f_keep [0, 2, 3, 13, 171] ?_
                  exact s7_j3 happ v1 v2 v3 p19.2.n true H20
                · skip
                  refine o_know 130 rfl (dec_false h37) ?_
                  refine f_op rfl rfl (s_fieldAddr Try.underlying47 rfl ty3 rfl) ?_
                  refine o_bind ?_; intro x38 hx38
                  refine f_op rfl rfl (s_load Try.underlying3 rfl rfl (ldI_eq hx38)) ?_
                  refine f_op rfl rfl (s_gtr rfl rfl) ?_
                  refine f_op rfl rfl (s_pickF (v := .bool (decide (30000 < x38))) rfl rfl) ?_
                  refine f_op rfl rfl (s_mv (v := .bool (decide (30000 < x38))) rfl) ?_
                  refine o_if (fun h39 => ?_) (fun h39 => ?_)
                  · skip
                    refine o_know 135 rfl (dec_true h39) ?_
                    refine f_no rfl rfl ?_
                    refine f_no rfl rfl ?_
                    refine f_no rfl rfl ?_
                    refine f_no rfl rfl ?_
                    refine f_no rfl rfl ?_
                    refine f_no rfl rfl ?_
                    refine f_no rfl rfl ?_
                    refine f_no rfl rfl ?_
                    refine f_no rfl rfl ?_
                    refine f_no rfl rfl ?_
                    refine f_no rfl rfl ?_
                    refine f_no rfl rfl ?_
                    refine f_no rfl rfl ?_
                    refine f_no rfl rfl ?_
                    refine f_no rfl rfl ?_
                    refine f_no rfl rfl ?_
                    refine f_no rfl rfl ?_
                    refine f_no rfl rfl ?_
                    refine f_no rfl rfl ?_
                    refine f_no rfl rfl ?_
                    refine f_no rfl rfl ?_
                    refine f_no rfl rfl ?_
                    refine f_no rfl rfl ?_
                    refine f_no rfl rfl ?_
                    refine f_no rfl rfl ?_
                    refine f_no rfl rfl ?_
                    refine f_no rfl rfl ?_
                    refine f_no rfl rfl ?_
                    refine f_no rfl rfl ?_
                    refine f_no rfl rfl ?_
                    refine f_no rfl rfl ?_
                    refine f_no rfl rfl ?_
                    refine f_no rfl rfl ?_
                    refine f_no rfl rfl ?_
                    refine f_no rfl rfl ?_
                    refine f_op rfl rfl (s_pickT (v := .bool true) rfl rfl) ?_
                    refine f_nil ?_
                    refine f_keep [0, 2, 3, 13, 171] ?_
                    exact s7_j3 happ v1 v2 v3 p19.2.n true H20
                  · skip
                    refine o_know 135 rfl (dec_false h39) ?_
                    refine f_op rfl rfl (s_mv (v := .bool v5) rfl) ?_
                    refine f_op rfl rfl (s_mv (v := .bool v5) rfl) ?_
                    refine o_if (fun h40 => ?_) (fun h40 => ?_)
                    · skip
                      refine o_know 137 rfl (bool_T h40) ?_
                      refine f_op rfl rfl (s_fieldAddr Try.underlying47 rfl ty3 rfl) ?_
                      refine o_bind ?_; intro x41 hx41
                      refine f_op rfl rfl (s_load Try.underlying3 rfl rfl (ldI_eq hx41)) ?_
                      refine f_op rfl rfl (s_fieldAddr Try.underlying26 rfl ty24 rfl) ?_
                      refine f_op rfl rfl (s_fieldAddr Try.underlying24 rfl ty3 rfl) ?_
                      refine o_bind ?_; intro x42 hx42
                      refine f_op rfl rfl (s_load Try.underlying3 rfl rfl (ldI_eq hx42)) ?_
                      refine f_op rfl rfl (s_mul rfl rfl) ?_
                      refine f_op rfl rfl (s_fieldAddr Try.underlying26 rfl ty24 rfl) ?_
                      refine f_op rfl rfl (s_fieldAddr Try.underlying24 rfl ty3 rfl) ?_
                      refine o_bind ?_; intro x43 hx43
                      refine f_op rfl rfl (s_load Try.underlying3 rfl rfl (ldI_eq hx43)) ?_
                      refine f_op rfl rfl (s_mul rfl rfl) ?_
                      refine f_op rfl rfl (s_fieldAddr Try.underlying47 rfl ty3 rfl) ?_
                      refine o_bind ?_; intro x44 hx44
                      refine f_op rfl rfl (s_load Try.underlying3 rfl rfl (ldI_eq hx44)) ?_
                      refine f_op rfl rfl (s_fieldAddr Try.underlying26 rfl ty24 rfl) ?_
                      refine f_op rfl rfl (s_fieldAddr Try.underlying24 rfl ty3 rfl) ?_
                      refine o_bind ?_; intro x45 hx45
                      refine f_op rfl rfl (s_load Try.underlying3 rfl rfl (ldI_eq hx45)) ?_
                      refine f_op rfl rfl (s_mul rfl rfl) ?_
                      refine f_op rfl rfl (s_fieldAddr Try.underlying26 rfl ty24 rfl) ?_
                      refine f_op rfl rfl (s_fieldAddr Try.underlying24 rfl ty3 rfl) ?_
                      refine o_bind ?_; intro x46 hx46
                      refine f_op rfl rfl (s_load Try.underlying3 rfl rfl (ldI_eq hx46)) ?_
                      refine f_op rfl rfl (s_mul rfl rfl) ?_
                      refine f_op rfl rfl (s_add rfl rfl) ?_
                      refine f_op rfl rfl (s_fieldAddr Try.underlying47 rfl ty3 rfl) ?_
                      refine o_bind ?_; intro x47 hx47
                      refine f_op rfl rfl (s_load Try.underlying3 rfl rfl (ldI_eq hx47)) ?_
                      refine f_op rfl rfl (s_fieldAddr Try.underlying26 rfl ty24 rfl) ?_
                      refine f_op rfl rfl (s_fieldAddr Try.underlying24 rfl ty3 rfl) ?_
                      refine o_bind ?_; intro x48 hx48
                      refine f_op rfl rfl (s_load Try.underlying3 rfl rfl (ldI_eq hx48)) ?_
                      refine f_op rfl rfl (s_mul rfl rfl) ?_
                      refine f_op rfl rfl (s_fieldAddr Try.underlying26 rfl ty24 rfl) ?_
                      refine f_op rfl rfl (s_fieldAddr Try.underlying24 rfl ty3 rfl) ?_
                      refine o_bind ?_; intro x49 hx49
                      refine f_op rfl rfl (s_load Try.underlying3 rfl rfl (ldI_eq hx49)) ?_
                      refine f_op rfl rfl (s_mul rfl rfl) ?_
                      refine f_op rfl rfl (s_gtr rfl rfl) ?_
                      refine f_op rfl rfl (s_pickT (v := .bool (decide ((w64 ((w64 (x47 * x48)) * x49)) < (w64 ((w64 ((w64 (x41 * x42)) * x43)) + (w64 ((w64 (x44 * x45)) * x46))))))) rfl rfl) ?_
                      refine f_op rfl rfl (s_pickF (v := .bool (decide ((w64 ((w64 (x47 * x48)) * x49)) < (w64 ((w64 ((w64 (x41 * x42)) * x43)) + (w64 ((w64 (x44 * x45)) * x46))))))) rfl rfl) ?_
                      refine f_nil ?_
                      refine f_keep [0, 2, 3, 13, 171] ?_
                      exact s7_j3 happ v1 v2 v3 p19.2.n (decide ((w64 ((w64 (x47 * x48)) * x49)) < (w64 ((w64 ((w64 (x41 * x42)) * x43)) + (w64 ((w64 (x44 * x45)) * x46)))))) H20
                    · skip
                      refine o_know 137 rfl (bool_F h40) ?_
                      refine f_no rfl rfl ?_
                      refine f_no rfl rfl ?_
                      refine f_no rfl rfl ?_
                      refine f_no rfl rfl ?_
                      refine f_no rfl rfl ?_
                      refine f_no rfl rfl ?_
                      refine f_no rfl rfl ?_
                      refine f_no rfl rfl ?_
                      refine f_no rfl rfl ?_
                      refine f_no rfl rfl ?_
                      refine f_no rfl rfl ?_
                      refine f_no rfl rfl ?_
                      refine f_no rfl rfl ?_
                      refine f_no rfl rfl ?_
                      refine f_no rfl rfl ?_
                      refine f_no rfl rfl ?_
                      refine f_no rfl rfl ?_
                      refine f_no rfl rfl ?_
                      refine f_no rfl rfl ?_
                      refine f_no rfl rfl ?_
                      refine f_no rfl rfl ?_
                      refine f_no rfl rfl ?_
                      refine f_no rfl rfl ?_
                      refine f_no rfl rfl ?_
                      refine f_no rfl rfl ?_
                      refine f_no rfl rfl ?_
                      refine f_no rfl rfl ?_
                      refine f_no rfl rfl ?_
                      refine f_no rfl rfl ?_
                      refine f_no rfl rfl ?_
                      refine f_no rfl rfl ?_
                      refine f_no rfl rfl ?_
                      refine f_op rfl rfl (s_pickF (v := .bool false) rfl rfl) ?_
                      refine f_op rfl rfl (s_pickF (v := .bool false) rfl rfl) ?_
                      refine f_nil ?_
                      refine f_keep [0, 2, 3, 13, 171] ?_
                      exact s7_j3 happ v1 v2 v3 p19.2.n false H20

theorem s7_j0 {app : App} (happ : AppSim Try.prog app) (v1 : Sl) (v2 : Sl) (v3 : Int) (v4 : Nat) (v5 : Bool) (v6 : Int) (v7 : Bool) (H : Hp) : Fin Try.prog Try.f7 ret7 227 (todoAt (bodyOf Try.f7) [1, 1, 0, 1] []) [(0, .sl v1), (2, .sl v2), (3, .int .i64 v3), (5, .ptr v4 0), (9, .bool v5), (10, .int .i64 v6), (40, .bool v7)] H (r7_j0 app v1 v2 v3 v4 v5 v6 v7 H) := by
  unfold r7_j0
  refine f_if (fun h1 => ?_) (fun h1 => ?_)
  · skip
    refine f_know 40 rfl (bool_T h1) ?_
    refine f_condT rfl ?_
    refine f_seq ?_
    refine f_region ?_
    refine f_op rfl rfl (s_mv (v := .int .i64 v6) rfl) ?_
    refine f_op rfl rfl (s_eql rfl rfl) ?_
    refine f_op rfl rfl (s_mv (v := .bool (decide (v6 = 2))) rfl) ?_
    refine o_if (fun h2 => ?_) (fun h2 => ?_)
    · skip
      refine o_know 43 rfl (dec_true h2) ?_
      refine o_bind ?_; intro p3 hp3
      refine o_bind ?_; intro x4 hx4
      refine f_op rfl rfl (s_callA happ rfl hp3) ?_
      refine o_know 44 rfl (asB_eq hx4) ?_
      refine f_op rfl rfl (s_pickT (v := .bool x4) rfl rfl) ?_
      refine f_op rfl rfl (s_as (v := .bool x4) rfl) ?_
      refine f_nil ?_
      exact f_ret (.tmp rfl (.nil)) rfl
    · skip
      refine o_know 43 rfl (dec_false h2) ?_
      refine f_no rfl rfl ?_
      refine f_op rfl rfl (s_pickF (v := .bool false) rfl rfl) ?_
      refine f_op rfl rfl (s_as (v := .bool false) rfl) ?_
      refine f_nil ?_
      exact f_ret (.tmp rfl (.nil)) rfl
  · skip
    refine f_know 40 rfl (bool_F h1) ?_
    refine f_condF rfl ?_
    refine f_skip ?_
    refine f_seq ?_
    refine f_seq ?_
    refine f_region ?_
    refine f_op rfl rfl (s_mv (v := .sl v1) rfl) ?_
    refine f_op rfl rfl (s_lenS rfl Try.underlying22 rfl) ?_
    refine f_op rfl rfl (s_mv (v := .int .i64 0) rfl) ?_
    refine f_nil ?_
    refine f_block ?_
    refine f_loop ?_
    refine f_keep [0, 2, 3, 5, 9, 46, 47, 48] ?_
    exact s7_l1 happ FUEL v1 v2 v3 v4 v5 v1 (v1.len : Int) 0 H

theorem sim7 {app : App} (happ : AppSim Try.prog app) {a0 : Sl} {a1_0 : Int} {a1_1 : Int} {a1_2 : Int} {a1_3 : Int} {a2 : Sl} {a3 : Int} {H : Hp} {p : Bool × Hp} (h : r7 app a0 a1_0 a1_1 a1_2 a1_3 a2 a3 H = some p) : CallSim Try.prog 7 [.sl a0, .agg [.int .i64 a1_0, .int .i64 a1_1, .int .i64 a1_2, .int .i64 a1_3], .sl a2, .int .i64 a3] H (.bool p.1) p.2 := by
  refine callSim (fn := Try.f7) (ret := ret7) Try.func7 rfl Try.ntmps7 rfl ?_ h
  unfold r7
  refine f_seq ?_
  refine f_region ?_
  refine f_op rfl rfl (s_box (v := .agg [.int .i64 a1_0, .int .i64 a1_1, .int .i64 a1_2, .int .i64 a1_3]) rfl rfl) ?_
  refine f_op rfl rfl (s_as (v := .bool false) rfl) ?_
  refine o_hp ?_; intro H1 hH1
  refine f_nil ?_
  refine f_seq ?_
  refine f_bind ?_; intro p2 hp2
  refine f_bind ?_; intro x3 hx3
  refine f_bind ?_; intro x4 hx4
  refine f_bind ?_; intro x5 hx5
  refine f_bind ?_; intro x6 hx6
  refine f_bind ?_; intro p7 hp7
  refine f_ck fun g8 => ?_
  refine f_ck fun g9 => ?_
  refine f_ck fun g10 => ?_
  refine f_ck fun g11 => ?_
  refine f_draw (Φ := fun H_ => H_.ld H.n (0 + 0) = some (.int .i64 x3) ∧ H_.ld H.n ((0 + 0) + 1) = some (.int .i64 x4) ∧ H_.ld H.n (0 + 2) = some (.int .i64 x5) ∧ H_.ld H.n ((0 + 2) + 1) = some (.int .i64 x6)) (lim := 7) [0, 2, 0, 0, 0, 0, 0, 2, 0, 0, 0, 0, 0] (Trc.pure rfl rfl rfl (.inl fun _ => s_mv (v := .sl a0) rfl) (Trc.eff rfl rfl rfl (fun _ => ⟨ldI_eq g8, ldI_eq g9, ldI_eq g10, ldI_eq g11⟩) (s_callF rfl ok18 (sim18 hp2)) (Trc.pure rfl rfl rfl (.inl fun _ => s_fieldAddr Try.underlying26 rfl ty24 rfl) (Trc.pure rfl rfl rfl (.inr ⟨by decide +kernel, fun _ hp_ => s_loads Try.underlying24 rfl ty24 rfl (lds_cons hp_.1 (lds_cons hp_.2.1 (lds_nil)))⟩) (Trc.pure rfl rfl rfl (.inl fun _ => s_fieldAddr Try.underlying26 rfl ty24 rfl) (Trc.pure rfl rfl rfl (.inr ⟨by decide +kernel, fun _ hp_ => s_loads Try.underlying24 rfl ty24 rfl (lds_cons hp_.2.2.1 (lds_cons hp_.2.2.2 (lds_nil)))⟩) (Trc.pure rfl rfl rfl (.inl fun _ => s_build (cs := [.int .i64 x3, .int .i64 x4, .int .i64 x5, .int .i64 x6]) Try.underlying32 ty32 rfl pl32 rfl) (Trc.eff rfl rfl rfl (fun _ => ⟨ldI_eq hx3, ldI_eq hx4, ldI_eq hx5, ldI_eq hx6⟩) (s_callF rfl ok17 (sim17 happ hp7)) (Trc.pure rfl rfl rfl (.inl fun _ => s_mv (v := .tup [.bool p7.1.1, .int .i64 p7.1.2]) rfl) (Trc.pure rfl rfl rfl (.inl fun _ => s_extract (r := .bool p7.1.1) rfl rfl) (Trc.pure rfl rfl rfl (.inl fun _ => s_extract (r := .int .i64 p7.1.2) rfl rfl) (Trc.pure rfl rfl rfl (.inl fun _ => s_as (v := .bool p7.1.1) rfl) (Trc.pure rfl rfl rfl (.inl fun _ => s_as (v := .int .i64 p7.1.2) rfl) (Trc.nil (fun h_ => absurd h_ (by decide +kernel)))))))))))))))) rfl (by decide +kernel) mixed ?_
  refine f_seq ?_
  refine f_seq ?_
  refine f_region ?_
  refine f_op rfl rfl (s_mv (v := .int .i64 p7.1.2) rfl) ?_
  refine f_op rfl rfl (s_neq rfl rfl) ?_
  refine f_op rfl rfl (s_mv (v := .bool (decide (p7.1.2 ≠ 0))) rfl) ?_
  refine o_if (fun h12 => ?_) (fun h12 => ?_)
  · skip
    refine o_know 31 rfl (dec_true h12) ?_
    refine f_no rfl rfl ?_
    refine f_no rfl rfl ?_
    refine f_no rfl rfl ?_
    refine f_op rfl rfl (s_pickT (v := .bool true) rfl rfl) ?_
    refine f_op rfl rfl (s_mv (v := .bool true) rfl) ?_
    refine f_no rfl rfl ?_
    refine f_no rfl rfl ?_
    refine f_no rfl rfl ?_
    refine f_op rfl rfl (s_pickT (v := .bool true) rfl rfl) ?_
    refine f_nil ?_
    refine f_keep [0, 2, 3, 5, 9, 10, 40] ?_
    exact s7_j0 happ a0 a2 a3 H.n p7.1.1 p7.1.2 true p7.2
  · skip
    refine o_know 31 rfl (dec_false h12) ?_
    refine f_op rfl rfl (s_mv (v := .sl a0) rfl) ?_
    refine o_bind ?_; intro p13 hp13
    refine f_op rfl rfl (s_callF rfl ok19 (sim19 hp13)) ?_
    refine f_op rfl rfl (s_not rfl) ?_
    refine f_op rfl rfl (s_pickF (v := .bool (!p13.1)) rfl rfl) ?_
    refine f_op rfl rfl (s_mv (v := .bool (!p13.1)) rfl) ?_
    refine o_if (fun h14 => ?_) (fun h14 => ?_)
    · skip
      refine o_know 36 rfl (bool_notT h14) ?_
      refine o_bind ?_; intro x15 hx15
      refine o_bind ?_; intro x16 hx16
      refine o_bind ?_; intro x17 hx17
      refine o_bind ?_; intro x18 hx18
      refine f_op rfl rfl (s_loads Try.underlying26 rfl ty26 rfl (lds_cons (ldI_eq hx15) (lds_cons (ldI_eq hx16) (lds_cons (ldI_eq hx17) (lds_cons (ldI_eq hx18) (lds_nil)))))) ?_
      refine o_bind ?_; intro p19 hp19
      refine f_op rfl rfl (s_callO rfl ok20 (sim20 hp19) rfl rfl) ?_
      refine f_op rfl rfl (s_not rfl) ?_
      refine f_op rfl rfl (s_pickF (v := .bool (!p19.1)) rfl rfl) ?_
      refine f_nil ?_
      refine f_keep [0, 2, 3, 5, 9, 10, 40] ?_
      exact s7_j0 happ a0 a2 a3 H.n p7.1.1 p7.1.2 (!p19.1) p13.2
    · skip
      refine o_know 36 rfl (bool_notF h14) ?_
      refine f_no rfl rfl ?_
      refine f_no rfl rfl ?_
      refine f_no rfl rfl ?_
      refine f_op rfl rfl (s_pickT (v := .bool true) rfl rfl) ?_
      refine f_nil ?_
      refine f_keep [0, 2, 3, 5, 9, 10, 40] ?_
      exact s7_j0 happ a0 a2 a3 H.n p7.1.1 p7.1.2 true p13.2

/- 97 congou/cuts.cross -/
theorem ok97 : FnOk Try.prog 97 := ⟨⟨Try.f97, Try.func97, by kernel_rfl, rfl⟩⟩
theorem sim97 {a0 : Int} {a1 : Int} {a2 : Int} {a3 : Int} {H : Hp} {p : Int × Hp} (h : r97 a0 a1 a2 a3 H = some p) : CallSim Try.prog 97 [.int .i64 a0, .int .i64 a1, .int .i64 a2, .int .i64 a3] H (.int .i64 p.1) p.2 := by
  refine callSim (fn := Try.f97) (ret := ret97) Try.func97 rfl Try.ntmps97 rfl ?_ h
  unfold r97
  refine f_seq ?_
  refine f_region ?_
  refine f_op rfl rfl (s_as (v := .int .i64 0) rfl) ?_
  refine f_nil ?_
  refine f_seq ?_
  refine f_region ?_
  refine f_op rfl rfl (s_mv (v := .int .i64 a0) rfl) ?_
  refine f_op rfl rfl (s_mv (v := .int .i64 a3) rfl) ?_
  refine f_op rfl rfl (s_mul rfl rfl) ?_
  refine f_op rfl rfl (s_mv (v := .int .i64 a1) rfl) ?_
  refine f_op rfl rfl (s_mv (v := .int .i64 a2) rfl) ?_
  refine f_op rfl rfl (s_mul rfl rfl) ?_
  refine f_op rfl rfl (s_sub rfl rfl) ?_
  refine f_op rfl rfl (s_as (v := .int .i64 (w64 ((w64 (a0 * a3)) - (w64 (a1 * a2))))) rfl) ?_
  refine f_nil ?_
  exact f_ret (.tmp rfl (.nil)) rfl

/- 96 (congou/cuts.Side).meet -/
theorem ok96 : FnOk Try.prog 96 := ⟨⟨Try.f96, Try.func96, by kernel_rfl, rfl⟩⟩
theorem sim96 {a0_0 : Int} {a0_1 : Int} {a0_2 : Int} {a1_0 : Int} {a1_1 : Int} {a1_2 : Int} {H : Hp} {p : (Int × Int × Int × Int × Bool) × Hp} (h : r96 a0_0 a0_1 a0_2 a1_0 a1_1 a1_2 H = some p) : CallSim Try.prog 96 [.agg [.int .i64 a0_0, .int .i64 a0_1, .int .i64 a0_2], .agg [.int .i64 a1_0, .int .i64 a1_1, .int .i64 a1_2]] H (.tup [.agg [.int .i64 p.1.1, .int .i64 p.1.2.1, .int .i64 p.1.2.2.1, .int .i64 p.1.2.2.2.1], .bool p.1.2.2.2.2]) p.2 := by
  refine callSim (fn := Try.f96) (ret := ret96) Try.func96 rfl Try.ntmps96 rfl ?_ h
  unfold r96
  refine f_seq ?_
  refine f_region ?_
  refine f_op rfl rfl (s_box (v := .agg [.int .i64 a0_0, .int .i64 a0_1, .int .i64 a0_2]) rfl rfl) ?_
  refine f_op rfl rfl (s_box (v := .agg [.int .i64 a1_0, .int .i64 a1_1, .int .i64 a1_2]) rfl rfl) ?_
  refine f_op rfl rfl (s_alloc (zs := [.int .i64 0, .int .i64 0, .int .i64 0, .int .i64 0]) ty32 rfl rfl) ?_
  refine f_op rfl rfl (s_as (v := .bool false) rfl) ?_
  refine o_hp ?_; intro H1 hH1
  refine f_nil ?_
  refine f_seq ?_
  refine f_region ?_
  refine f_op rfl rfl (s_fieldAddr Try.underlying47 rfl ty3 rfl) ?_
  refine o_bind ?_; intro x2 hx2
  refine f_op rfl rfl (s_load Try.underlying3 rfl rfl (ldI_eq hx2)) ?_
  refine f_op rfl rfl (s_fieldAddr Try.underlying47 rfl ty3 rfl) ?_
  refine o_bind ?_; intro x3 hx3
  refine f_op rfl rfl (s_load Try.underlying3 rfl rfl (ldI_eq hx3)) ?_
  refine f_op rfl rfl (s_fieldAddr Try.underlying47 rfl ty3 rfl) ?_
  refine o_bind ?_; intro x4 hx4
  refine f_op rfl rfl (s_load Try.underlying3 rfl rfl (ldI_eq hx4)) ?_
  refine f_op rfl rfl (s_fieldAddr Try.underlying47 rfl ty3 rfl) ?_
  refine o_bind ?_; intro x5 hx5
  refine f_op rfl rfl (s_load Try.underlying3 rfl rfl (ldI_eq hx5)) ?_
  refine o_bind ?_; intro p6 hp6
  refine f_op rfl rfl (s_callO rfl ok97 (sim97 hp6) rfl rfl) ?_
  refine f_op rfl rfl (s_as (v := .int .i64 p6.1) rfl) ?_
  refine f_nil ?_
  refine f_seq ?_
  refine f_seq ?_
  refine f_region ?_
  refine f_op rfl rfl (s_mv (v := .int .i64 p6.1) rfl) ?_
  refine f_op rfl rfl (s_eql rfl rfl) ?_
  refine f_nil ?_
  refine f_if (fun h7 => ?_) (fun h7 => ?_)
  · skip
    refine f_know 17 rfl (dec_true h7) ?_
    refine f_condT rfl ?_
    refine f_seq ?_
    refine f_region ?_
    refine f_op rfl rfl (s_build (cs := [.int .i64 0, .int .i64 0, .int .i64 0, .int .i64 0]) Try.underlying32 ty32 rfl pl32 rfl) ?_
    refine o_bind ?_; intro H8 hH8
    refine f_op rfl rfl (s_stores ty32 rfl rfl rfl rfl hH8 (Nat.le_of_eq (sts_mono hH8).symm)) ?_
    refine f_op rfl rfl (s_as (v := .bool false) rfl) ?_
    refine f_nil ?_
    refine f_bind ?_; intro x9 hx9
    refine f_bind ?_; intro x10 hx10
    refine f_bind ?_; intro x11 hx11
    refine f_bind ?_; intro x12 hx12
    exact f_ret (.cells Try.underlying32 rfl sz32 rfl (lds_cons (ldI_eq hx9) (lds_cons (ldI_eq hx10) (lds_cons (ldI_eq hx11) (lds_cons (ldI_eq hx12) (lds_nil))))) (.tmp rfl (.nil))) rfl
  · skip
    refine f_know 17 rfl (dec_false h7) ?_
    refine f_condF rfl ?_
    refine f_skip ?_
    refine f_seq ?_
    refine f_bind ?_; intro x13 hx13
    refine f_bind ?_; intro x14 hx14
    refine f_bind ?_; intro x15 hx15
    refine f_bind ?_; intro x16 hx16
    refine f_bind ?_; intro p17 hp17
    refine f_bind ?_; intro x18 hx18
    refine f_bind ?_; intro x19 hx19
    refine f_bind ?_; intro x20 hx20
    refine f_bind ?_; intro x21 hx21
    refine f_bind ?_; intro p22 hp22
    refine f_bind ?_; intro H23 hH23
    refine f_draw (Φ := fun _ => True) (lim := 1000000) [0, 1, 0, 1, 0, 0, 1, 0, 1, 0, 0, 0, 0, 0, 1, 0, 1, 0, 0, 1, 0, 1, 0, 0, 0, 0, 0, 2, 0] (Trc.pure rfl rfl rfl (.inl fun _ => s_fieldAddr Try.underlying47 rfl ty3 rfl) (Trc.read rfl rfl rfl (s_load Try.underlying3 rfl rfl (ldI_eq hx13)) (Trc.pure rfl rfl rfl (.inl fun _ => s_fieldAddr Try.underlying47 rfl ty3 rfl) (Trc.read rfl rfl rfl (s_load Try.underlying3 rfl rfl (ldI_eq hx14)) (Trc.pure rfl rfl rfl (.inl fun _ => s_mul rfl rfl) (Trc.pure rfl rfl rfl (.inl fun _ => s_fieldAddr Try.underlying47 rfl ty3 rfl) (Trc.read rfl rfl rfl (s_load Try.underlying3 rfl rfl (ldI_eq hx15)) (Trc.pure rfl rfl rfl (.inl fun _ => s_fieldAddr Try.underlying47 rfl ty3 rfl) (Trc.read rfl rfl rfl (s_load Try.underlying3 rfl rfl (ldI_eq hx16)) (Trc.pure rfl rfl rfl (.inl fun _ => s_mul rfl rfl) (Trc.pure rfl rfl rfl (.inl fun _ => s_sub rfl rfl) (Trc.pure rfl rfl rfl (.inl fun _ => s_mv (v := .int .i64 p6.1) rfl) (Trc.pure rfl rfl rfl (.inl fun _ => s_callO rfl ok100 (sim100 hp17) rfl rfl) (Trc.pure rfl rfl rfl (.inl fun _ => s_fieldAddr Try.underlying47 rfl ty3 rfl) (Trc.read rfl rfl rfl (s_load Try.underlying3 rfl rfl (ldI_eq hx18)) (Trc.pure rfl rfl rfl (.inl fun _ => s_fieldAddr Try.underlying47 rfl ty3 rfl) (Trc.read rfl rfl rfl (s_load Try.underlying3 rfl rfl (ldI_eq hx19)) (Trc.pure rfl rfl rfl (.inl fun _ => s_mul rfl rfl) (Trc.pure rfl rfl rfl (.inl fun _ => s_fieldAddr Try.underlying47 rfl ty3 rfl) (Trc.read rfl rfl rfl (s_load Try.underlying3 rfl rfl (ldI_eq hx20)) (Trc.pure rfl rfl rfl (.inl fun _ => s_fieldAddr Try.underlying47 rfl ty3 rfl) (Trc.read rfl rfl rfl (s_load Try.underlying3 rfl rfl (ldI_eq hx21)) (Trc.pure rfl rfl rfl (.inl fun _ => s_mul rfl rfl) (Trc.pure rfl rfl rfl (.inl fun _ => s_sub rfl rfl) (Trc.pure rfl rfl rfl (.inl fun _ => s_mv (v := .int .i64 p6.1) rfl) (Trc.pure rfl rfl rfl (.inl fun _ => s_callO rfl ok100 (sim100 hp22) rfl rfl) (Trc.pure rfl rfl rfl (.inl fun _ => s_build (cs := [.int .i64 p17.1.1, .int .i64 p17.1.2, .int .i64 p22.1.1, .int .i64 p22.1.2]) Try.underlying32 ty32 rfl pl32 rfl) (Trc.eff rfl rfl rfl (fun _ => trivial) (s_stores ty32 rfl rfl rfl rfl hH23 (Nat.le_of_eq (sts_mono hH23).symm)) (Trc.pure rfl rfl rfl (.inl fun _ => s_as (v := .bool true) rfl) (Trc.nil (fun _ => trivial))))))))))))))))))))))))))))))) rfl (by decide +kernel) mixed ?_
    refine f_bind ?_; intro x24 hx24
    refine f_bind ?_; intro x25 hx25
    refine f_bind ?_; intro x26 hx26
    refine f_bind ?_; intro x27 hx27
    exact f_ret (.cells Try.underlying32 rfl sz32 rfl (lds_cons (ldI_eq hx24) (lds_cons (ldI_eq hx25) (lds_cons (ldI_eq hx26) (lds_cons (ldI_eq hx27) (lds_nil))))) (.tmp rfl (.nil))) rfl

end Go.Lt.P2
