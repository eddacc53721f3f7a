/- PRINTED BY A PROGRAM OF OURS: what each function that 'DealsEqual' reaches computes on the abstract heap, and that the translated code does just that. Nothing is asked of the input. -/
import Derived.Test.YtficeemoekikdaaG9P5
set_option linter.unusedVariables false
set_option linter.unusedSimpArgs false
set_option maxRecDepth 100000
set_option maxHeartbeats 4000000
namespace Go.Lt.P5
open Go Go.Lt Go.Proofs
/- 69 (congou/deals.line).middle -/
theorem ok69 : FnOk Try.prog 69 := ⟨⟨Try.f69, Try.func69, by kernel_rfl, rfl⟩⟩
theorem sim69 {a0_0 : Int} {a0_1 : Int} {a0_2 : Int} {a1_0 : Int} {a1_1 : Int} {a2_0 : Int} {a2_1 : Int} {a3_0 : Int} {a3_1 : Int} {H : Hp} {p : (Int × Int × Int × Int × Bool) × Hp} (h : r69 a0_0 a0_1 a0_2 a1_0 a1_1 a2_0 a2_1 a3_0 a3_1 H = some p) : CallSim Try.prog 69 [.agg [.int .i64 a0_0, .int .i64 a0_1, .int .i64 a0_2], .agg [.int .i64 a1_0, .int .i64 a1_1], .agg [.int .i64 a2_0, .int .i64 a2_1], .agg [.int .i64 a3_0, .int .i64 a3_1]] H (.tup [.agg [.int .i64 p.1.1, .int .i64 p.1.2.1, .int .i64 p.1.2.2.1, .int .i64 p.1.2.2.2.1], .bool p.1.2.2.2.2]) p.2 := by
  refine callSim (fn := Try.f69) (ret := ret69) Try.func69 rfl Try.ntmps69 rfl ?_ h
  unfold r69
  refine f_seq ?_
  refine f_region ?_
  refine f_op rfl rfl (s_box (v := .agg [.int .i64 a0_0, .int .i64 a0_1, .int .i64 a0_2]) rfl rfl) ?_
  refine f_op rfl rfl (s_box (v := .agg [.int .i64 a1_0, .int .i64 a1_1]) rfl rfl) ?_
  refine f_op rfl rfl (s_box (v := .agg [.int .i64 a2_0, .int .i64 a2_1]) rfl rfl) ?_
  refine f_op rfl rfl (s_box (v := .agg [.int .i64 a3_0, .int .i64 a3_1]) rfl rfl) ?_
  refine f_op rfl rfl (s_alloc (zs := [.int .i64 0, .int .i64 0, .int .i64 0, .int .i64 0]) ty41 rfl rfl) ?_
  refine f_op rfl rfl (s_as (v := .bool false) rfl) ?_
  refine o_hp ?_; intro H1 hH1
  refine f_nil ?_
  refine f_seq ?_
  refine f_bind ?_; intro x2 hx2
  refine f_bind ?_; intro x3 hx3
  refine f_bind ?_; intro x4 hx4
  refine f_bind ?_; intro x5 hx5
  refine f_bind ?_; intro x6 hx6
  refine f_bind ?_; intro p7 hp7
  refine f_bind ?_; intro x8 hx8
  refine f_bind ?_; intro x9 hx9
  refine f_bind ?_; intro x10 hx10
  refine f_bind ?_; intro p11 hp11
  refine f_bind ?_; intro x12 hx12
  refine f_bind ?_; intro x13 hx13
  refine f_bind ?_; intro x14 hx14
  refine f_bind ?_; intro x15 hx15
  refine f_bind ?_; intro x16 hx16
  refine f_bind ?_; intro p17 hp17
  refine f_bind ?_; intro x18 hx18
  refine f_bind ?_; intro x19 hx19
  refine f_bind ?_; intro x20 hx20
  refine f_bind ?_; intro p21 hp21
  refine f_bind ?_; intro H22 hH22
  refine f_drawF (Φ := fun _ => True) (lim := 1000000) [1, 1, 0, 0, 1, 0, 0, 1, 0, 0, 0, 1, 0, 0, 1, 1, 0, 0, 1, 0, 0, 1, 0, 0, 0, 1, 0, 0, 0, 2, 2] [false, false, false, false, false, false, false, false, false, false, false, false, false, false, false, false, false, false, false, false, false, false, false, false, false, false, false, false, false, true, false] 29 30 (Trc.read rfl rfl rfl (s_loads Try.underlying78 rfl ty78 rfl (lds_cons (ldI_eq hx2) (lds_cons (ldI_eq hx3) (lds_cons (ldI_eq hx4) (lds_nil))))) (Trc.read rfl rfl rfl (s_loads Try.underlying49 rfl ty49 rfl (lds_cons (ldI_eq hx5) (lds_cons (ldI_eq hx6) (lds_nil)))) (Trc.pure rfl rfl rfl (.inl fun _ => s_callO rfl ok78 (sim78 hp7) rfl rfl) (Trc.pure rfl rfl rfl (.inl fun _ => s_fieldAddr Try.underlying78 rfl ty3 rfl) (Trc.read rfl rfl rfl (s_load Try.underlying3 rfl rfl (ldI_eq hx8)) (Trc.pure rfl rfl rfl (.inl fun _ => s_mul rfl rfl) (Trc.pure rfl rfl rfl (.inl fun _ => s_idxA Try.underlying49 ty3 rfl rfl (by decide)) (Trc.read rfl rfl rfl (s_load Try.underlying3 rfl rfl (ldI_eq hx9)) (Trc.pure rfl rfl rfl (.inl fun _ => s_mul rfl rfl) (Trc.pure rfl rfl rfl (.inl fun _ => s_add rfl rfl) (Trc.pure rfl rfl rfl (.inl fun _ => s_fieldAddr Try.underlying78 rfl ty3 rfl) (Trc.read rfl rfl rfl (s_load Try.underlying3 rfl rfl (ldI_eq hx10)) (Trc.pure rfl rfl rfl (.inl fun _ => s_mul rfl rfl) (Trc.pure rfl rfl rfl (.inl fun _ => s_callO rfl ok48 (sim48 hp11) rfl rfl) (Trc.read rfl rfl rfl (s_loads Try.underlying78 rfl ty78 rfl (lds_cons (ldI_eq hx12) (lds_cons (ldI_eq hx13) (lds_cons (ldI_eq hx14) (lds_nil))))) (Trc.read rfl rfl rfl (s_loads Try.underlying49 rfl ty49 rfl (lds_cons (ldI_eq hx15) (lds_cons (ldI_eq hx16) (lds_nil)))) (Trc.pure rfl rfl rfl (.inl fun _ => s_callO rfl ok78 (sim78 hp17) rfl rfl) (Trc.pure rfl rfl rfl (.inl fun _ => s_fieldAddr Try.underlying78 rfl ty3 rfl) (Trc.read rfl rfl rfl (s_load Try.underlying3 rfl rfl (ldI_eq hx18)) (Trc.pure rfl rfl rfl (.inl fun _ => s_mul rfl rfl) (Trc.pure rfl rfl rfl (.inl fun _ => s_idxA Try.underlying49 ty3 rfl rfl (by decide)) (Trc.read rfl rfl rfl (s_load Try.underlying3 rfl rfl (ldI_eq hx19)) (Trc.pure rfl rfl rfl (.inl fun _ => s_mul rfl rfl) (Trc.pure rfl rfl rfl (.inl fun _ => s_add rfl rfl) (Trc.pure rfl rfl rfl (.inl fun _ => s_fieldAddr Try.underlying78 rfl ty3 rfl) (Trc.read rfl rfl rfl (s_load Try.underlying3 rfl rfl (ldI_eq hx20)) (Trc.pure rfl rfl rfl (.inl fun _ => s_mul rfl rfl) (Trc.pure rfl rfl rfl (.inl fun _ => s_callO rfl ok48 (sim48 hp21) rfl rfl) (Trc.pure rfl rfl rfl (.inl fun _ => s_build (cs := [.int .i64 p11.1.1, .int .i64 p11.1.2, .int .i64 p21.1.1, .int .i64 p21.1.2]) Try.underlying41 ty41 rfl pl41 rfl) (Trc.fl .p rfl rfl rfl (fun _ => trivial) rfl (by rfl) (fun _ => s_alloc (zs := [.int .i64 0, .int .i64 0, .int .i64 0, .int .i64 0]) ty41 rfl rfl) (Trc.eff rfl rfl rfl (fun _ => trivial) (s_stores ty41 rfl rfl rfl rfl hH22 (Nat.le_of_eq (sts_mono hH22).symm)) (Trc.nil (fun _ => trivial))))))))))))))))))))))))))))))))) rfl rfl (by decide +kernel) mixed ?_
  refine f_seq ?_
  refine f_bind ?_; intro x23 hx23
  refine f_bind ?_; intro x24 hx24
  refine f_bind ?_; intro x25 hx25
  refine f_bind ?_; intro x26 hx26
  refine f_bind ?_; intro x27 hx27
  refine f_bind ?_; intro x28 hx28
  refine f_bind ?_; intro x29 hx29
  refine f_bind ?_; intro p30 hp30
  refine f_bind ?_; intro p31 hp31
  refine f_if (fun h32 => ?_) (fun h32 => ?_)
  · skip
    refine f_bind ?_; intro x33 hx33
    refine f_bind ?_; intro x34 hx34
    refine f_bind ?_; intro x35 hx35
    refine f_bind ?_; intro p36 hp36
    refine f_bind ?_; intro p37 hp37
    refine f_bind ?_; intro H38 hH38
    refine f_draw (Φ := fun _ => True) (lim := 1000000) [1, 0, 1, 0, 1, 0, 0, 0, 0, 0, 1, 0, 1, 0, 0, 0, 0, 2, 0] (Trc.read rfl rfl rfl (s_loads Try.underlying41 rfl ty41 rfl (lds_cons (ldI_eq hx23) (lds_cons (ldI_eq hx24) (lds_cons (ldI_eq hx25) (lds_cons (ldI_eq hx26) (lds_nil)))))) (Trc.pure rfl rfl rfl (.inl fun _ => s_fieldAddr Try.underlying41 rfl ty23 rfl) (Trc.read rfl rfl rfl (s_loads Try.underlying23 rfl ty23 rfl (lds_cons (ldI_eq hx27) (lds_cons (ldI_eq hx28) (lds_nil)))) (Trc.pure rfl rfl rfl (.inl fun _ => s_idxA Try.underlying49 ty3 rfl rfl (by decide)) (Trc.read rfl rfl rfl (s_load Try.underlying3 rfl rfl (ldI_eq hx29)) (Trc.pure rfl rfl rfl (.inl fun _ => s_callO rfl ok48 (sim48 hp30) rfl rfl) (Trc.pure rfl rfl rfl (.inl fun _ => s_callO rfl ok68 (sim68 hp31) rfl rfl) (Trc.pure rfl rfl rfl (.inl fun _ => s_geq rfl rfl) (Trc.pure rfl rfl rfl (.inl fun _ => s_mv (v := .bool (decide (0 ≤ p31.1))) rfl) (Trc.know 48 rfl (dec_true h32) (Trc.pure rfl rfl rfl (.inl fun _ => s_fieldAddr Try.underlying41 rfl ty23 rfl) (Trc.read rfl rfl rfl (s_loads Try.underlying23 rfl ty23 rfl (lds_cons (ldI_eq hx33) (lds_cons (ldI_eq hx34) (lds_nil)))) (Trc.pure rfl rfl rfl (.inl fun _ => s_idxA Try.underlying49 ty3 rfl rfl (by decide)) (Trc.read rfl rfl rfl (s_load Try.underlying3 rfl rfl (ldI_eq hx35)) (Trc.pure rfl rfl rfl (.inl fun _ => s_callO rfl ok48 (sim48 hp36) rfl rfl) (Trc.pure rfl rfl rfl (.inl fun _ => s_callO rfl ok68 (sim68 hp37) rfl rfl) (Trc.pure rfl rfl rfl (.inl fun _ => s_leq rfl rfl) (Trc.pure rfl rfl rfl (.inl fun _ => s_pickT (v := .bool (decide (p37.1 ≤ 0))) rfl rfl) (Trc.eff rfl rfl rfl (fun _ => trivial) (s_stores ty41 rfl rfl rfl rfl hH38 (Nat.le_of_eq (sts_mono hH38).symm)) (Trc.pure rfl rfl rfl (.inl fun _ => s_as (v := .bool (decide (p37.1 ≤ 0))) rfl) (Trc.nil (fun _ => trivial)))))))))))))))))))))) rfl (by decide +kernel) mixed ?_
    refine f_bind ?_; intro x39 hx39
    refine f_bind ?_; intro x40 hx40
    refine f_bind ?_; intro x41 hx41
    refine f_bind ?_; intro x42 hx42
    exact f_ret (.cells Try.underlying41 rfl sz41 rfl (lds_cons (ldI_eq hx39) (lds_cons (ldI_eq hx40) (lds_cons (ldI_eq hx41) (lds_cons (ldI_eq hx42) (lds_nil))))) (.tmp rfl (.nil))) rfl
  · skip
    refine f_bind ?_; intro H43 hH43
    refine f_draw (Φ := fun _ => True) (lim := 1000000) [1, 0, 1, 0, 1, 0, 0, 0, 0, 0, 0, 0, 0, 0, 0, 0, 0, 2, 0] (Trc.read rfl rfl rfl (s_loads Try.underlying41 rfl ty41 rfl (lds_cons (ldI_eq hx23) (lds_cons (ldI_eq hx24) (lds_cons (ldI_eq hx25) (lds_cons (ldI_eq hx26) (lds_nil)))))) (Trc.pure rfl rfl rfl (.inl fun _ => s_fieldAddr Try.underlying41 rfl ty23 rfl) (Trc.read rfl rfl rfl (s_loads Try.underlying23 rfl ty23 rfl (lds_cons (ldI_eq hx27) (lds_cons (ldI_eq hx28) (lds_nil)))) (Trc.pure rfl rfl rfl (.inl fun _ => s_idxA Try.underlying49 ty3 rfl rfl (by decide)) (Trc.read rfl rfl rfl (s_load Try.underlying3 rfl rfl (ldI_eq hx29)) (Trc.pure rfl rfl rfl (.inl fun _ => s_callO rfl ok48 (sim48 hp30) rfl rfl) (Trc.pure rfl rfl rfl (.inl fun _ => s_callO rfl ok68 (sim68 hp31) rfl rfl) (Trc.pure rfl rfl rfl (.inl fun _ => s_geq rfl rfl) (Trc.pure rfl rfl rfl (.inl fun _ => s_mv (v := .bool (decide (0 ≤ p31.1))) rfl) (Trc.know 48 rfl (dec_false h32) (Trc.no rfl rfl rfl (Trc.no rfl rfl rfl (Trc.no rfl rfl rfl (Trc.no rfl rfl rfl (Trc.no rfl rfl rfl (Trc.no rfl rfl rfl (Trc.no rfl rfl rfl (Trc.pure rfl rfl rfl (.inl fun _ => s_pickF (v := .bool false) rfl rfl) (Trc.eff rfl rfl rfl (fun _ => trivial) (s_stores ty41 rfl rfl rfl rfl hH43 (Nat.le_of_eq (sts_mono hH43).symm)) (Trc.pure rfl rfl rfl (.inl fun _ => s_as (v := .bool false) rfl) (Trc.nil (fun _ => trivial)))))))))))))))))))))) rfl (by decide +kernel) mixed ?_
    refine f_bind ?_; intro x44 hx44
    refine f_bind ?_; intro x45 hx45
    refine f_bind ?_; intro x46 hx46
    refine f_bind ?_; intro x47 hx47
    exact f_ret (.cells Try.underlying41 rfl sz41 rfl (lds_cons (ldI_eq hx44) (lds_cons (ldI_eq hx45) (lds_cons (ldI_eq hx46) (lds_cons (ldI_eq hx47) (lds_nil))))) (.tmp rfl (.nil))) rfl

/- 46 congou/deals.Product -/
theorem ok46 : FnOk Try.prog 46 := ⟨⟨Try.f46, Try.func46, by kernel_rfl, rfl⟩⟩
theorem s46_l0 {app : App} (happ : AppSim Try.prog app) : ∀ (k_ : Nat) (v1 : Nat) (v2 : Nat) (v3 : Sl) (v4 : Sl) (v5 : Nat) (v6 : Nat) (v7 : Nat) (v8 : Nat) (v9 : Sl) (v10 : Int) (v11 : Int) (H : Hp), Fin Try.prog Try.f46 ret46 71 (todoAt (bodyOf Try.f46) [1, 1, 1, 1, 1, 1, 1, 0, 1, 0, 0] []) [(3, .ptr v1 0), (4, .ptr v2 0), (6, .sl v3), (8, .sl v4), (9, .ptr v5 0), (11, .fn 66 [] [.ptr v6 0, .ptr v7 0, .ptr v8 0]), (30, .sl v9), (31, .int .i64 v10), (32, .int .i64 v11)] H (r46_l0 app k_ v1 v2 v3 v4 v5 v6 v7 v8 v9 v10 v11 H) := by
  intro k_
  induction k_ with
  | zero => intro _ _ _ _ _ _ _ _ _ _ _ _; exact f_none
  | succ k_ ih =>
    intro v1 v2 v3 v4 v5 v6 v7 v8 v9 v10 v11 H
    rw [r46_l0]
    refine f_seq ?_
    refine f_region ?_
    refine f_op rfl rfl (s_lss rfl rfl) ?_
    refine f_nil ?_
    refine f_seq ?_
    refine f_if (fun h1 => ?_) (fun h1 => ?_)
    · skip
      refine f_know 33 rfl (dec_true h1) ?_
      refine f_condT rfl ?_
      refine f_skip ?_
      refine f_seq ?_
      refine f_block ?_
      refine f_seq ?_
      refine f_region ?_
      refine f_op rfl rfl (s_mv (v := .int .i64 v11) rfl) ?_
      refine o_ck fun g2 => ?_
      refine f_op rfl rfl (s_idx Try.underlying35 ty49 rfl rfl g2) ?_
      refine o_bind ?_; intro x3 hx3
      refine o_bind ?_; intro x4 hx4
      refine f_op rfl rfl (s_loads Try.underlying49 rfl ty49 rfl (lds_cons (ldI_eq hx3) (lds_cons (ldI_eq hx4) (lds_nil)))) ?_
      refine f_op rfl rfl (s_alloc (zs := [.int .i64 0, .int .i64 0]) ty49 rfl rfl) ?_
      refine f_op rfl rfl (s_as (v := .int .i64 v11) rfl) ?_
      refine o_bind ?_; intro H5 hH5
      refine f_op rfl rfl (s_stores ty49 rfl rfl rfl rfl hH5 (Nat.le_of_eq (sts_mono hH5).symm)) ?_
      refine f_nil ?_
      refine f_seq ?_
      refine f_bind ?_; intro x6 hx6
      refine f_bind ?_; intro p7 hp7
      refine f_bind ?_; intro x8 hx8
      refine f_bind ?_; intro p9 hp9
      refine f_bind ?_; intro p10 hp10
      refine f_draw (Φ := fun _ => True) (lim := 1000000) [0, 0, 1, 0, 0, 1, 0, 0, 2] (Trc.pure rfl rfl rfl (.inl fun _ => s_mv (v := .fn 66 [] [.ptr v6 0, .ptr v7 0, .ptr v8 0]) rfl) (Trc.pure rfl rfl rfl (.inl fun _ => s_idxA Try.underlying49 ty3 rfl rfl (by decide)) (Trc.read rfl rfl rfl (s_load Try.underlying3 rfl rfl (ldI_eq hx6)) (Trc.pure rfl rfl rfl (.inl fun _ => s_callO rfl ok48 (sim48 hp7) rfl rfl) (Trc.pure rfl rfl rfl (.inl fun _ => s_idxA Try.underlying49 ty3 rfl rfl (by decide)) (Trc.read rfl rfl rfl (s_load Try.underlying3 rfl rfl (ldI_eq hx8)) (Trc.pure rfl rfl rfl (.inl fun _ => s_callO rfl ok48 (sim48 hp9) rfl rfl) (Trc.pure rfl rfl rfl (.inl fun _ => s_build (cs := [.int .i64 p7.1.1, .int .i64 p7.1.2, .int .i64 p9.1.1, .int .i64 p9.1.2]) Try.underlying41 ty41 rfl pl41 rfl) (Trc.eff rfl rfl rfl (fun _ => trivial) (s_callv happ rfl rfl hp10) (Trc.nil (fun _ => trivial))))))))))) rfl (by decide +kernel) mixed ?_
      refine f_seq ?_
      refine f_region ?_
      refine f_op rfl rfl (s_mv (v := .int .i64 v11) rfl) ?_
      refine f_op rfl rfl (s_gtr rfl rfl) ?_
      refine f_nil ?_
      refine f_if (fun h11 => ?_) (fun h11 => ?_)
      · skip
        refine f_know 47 rfl (dec_true h11) ?_
        refine f_condT rfl ?_
        refine f_seq ?_
        refine f_bind ?_; intro p12 hp12
        refine f_ck fun g13 => ?_
        refine f_bind ?_; intro x14 hx14
        refine f_bind ?_; intro x15 hx15
        refine f_bind ?_; intro x16 hx16
        refine f_bind ?_; intro x17 hx17
        refine f_bind ?_; intro x18 hx18
        refine f_ck fun g19 => ?_
        refine f_bind ?_; intro x20 hx20
        refine f_bind ?_; intro x21 hx21
        refine f_bind ?_; intro x22 hx22
        refine f_bind ?_; intro x23 hx23
        refine f_bind ?_; intro p24 hp24
        refine f_bind ?_; intro H25 hH25
        refine f_ck fun g26 => ?_
        refine f_ck fun g27 => ?_
        refine f_ck fun g28 => ?_
        refine f_ck fun g29 => ?_
        refine f_ck fun g30 => ?_
        refine f_ck fun g31 => ?_
        refine f_ck fun g32 => ?_
        refine f_ck fun g33 => ?_
        refine f_ck fun g34 => ?_
        refine f_ck fun g35 => ?_
        refine f_ck fun g36 => ?_
        refine f_ck fun g37 => ?_
        refine f_drawF (Φ := fun H_ => H_.ld v1 0 = some (.int .i64 x17) ∧ H_.ld v1 (0 + 1) = some (.int .i64 x18) ∧ H_.ld v4.b (v4.o + (w64 (v11 - 1) : Int).toNat * 2) = some (.int .i64 x20) ∧ H_.ld v4.b ((v4.o + (w64 (v11 - 1) : Int).toNat * 2) + 1) = some (.int .i64 x21) ∧ H_.ld H.n 0 = some (.int .i64 x22) ∧ H_.ld H.n (0 + 1) = some (.int .i64 x23)) (lim := 18) [0, 2, 0, 0, 0, 1, 0, 0, 0, 0, 0, 0, 0, 0, 0, 0, 0, 2, 2, 0] [false, false, false, false, false, false, false, false, false, false, false, false, false, false, false, false, false, true, false, false] 17 18 (Trc.pure rfl rfl rfl (.inl fun _ => s_mv (v := .sl v3) rfl) (Trc.eff rfl rfl rfl (fun _ => ⟨ldI_eq g26, ldI_eq g27, ldI_eq g28, ldI_eq g29, ldI_eq g30, ldI_eq g31⟩) (s_callF rfl ok54 (sim54 happ hp12)) (Trc.pure rfl rfl rfl (.inl fun _ => s_mv (v := .int .i64 v11) rfl) (Trc.pure rfl rfl rfl (.inl fun _ => s_add rfl rfl) (Trc.pure rfl rfl rfl (.inl fun _ => s_idx Try.underlying75 ty78 rfl rfl g13) (Trc.read rfl rfl rfl (s_loads Try.underlying78 rfl ty78 rfl (lds_cons (ldI_eq hx14) (lds_cons (ldI_eq hx15) (lds_cons (ldI_eq hx16) (lds_nil))))) (Trc.pure rfl rfl rfl (.inr ⟨by decide +kernel, fun _ hp_ => s_loads Try.underlying49 rfl ty49 rfl (lds_cons hp_.1 (lds_cons hp_.2.1 (lds_nil)))⟩) (Trc.pure rfl rfl rfl (.inl fun _ => s_mv (v := .sl v4) rfl) (Trc.pure rfl rfl rfl (.inl fun _ => s_mv (v := .int .i64 v11) rfl) (Trc.pure rfl rfl rfl (.inl fun _ => s_sub rfl rfl) (Trc.pure rfl rfl rfl (.inl fun _ => s_idx Try.underlying35 ty49 rfl rfl g19) (Trc.pure rfl rfl rfl (.inr ⟨by decide +kernel, fun _ hp_ => s_loads Try.underlying49 rfl ty49 rfl (lds_cons hp_.2.2.1 (lds_cons hp_.2.2.2.1 (lds_nil)))⟩) (Trc.pure rfl rfl rfl (.inr ⟨by decide +kernel, fun _ hp_ => s_loads Try.underlying49 rfl ty49 rfl (lds_cons hp_.2.2.2.2.1 (lds_cons hp_.2.2.2.2.2 (lds_nil)))⟩) (Trc.pure rfl rfl rfl (.inl fun _ => s_callO rfl ok69 (sim69 hp24) rfl rfl) (Trc.pure rfl rfl rfl (.inl fun _ => s_mv (v := .tup [.agg [.int .i64 p24.1.1, .int .i64 p24.1.2.1, .int .i64 p24.1.2.2.1, .int .i64 p24.1.2.2.2.1], .bool p24.1.2.2.2.2]) rfl) (Trc.pure rfl rfl rfl (.inl fun _ => s_extract (r := .agg [.int .i64 p24.1.1, .int .i64 p24.1.2.1, .int .i64 p24.1.2.2.1, .int .i64 p24.1.2.2.2.1]) rfl rfl) (Trc.pure rfl rfl rfl (.inl fun _ => s_extract (r := .bool p24.1.2.2.2.2) rfl rfl) (Trc.fl .p rfl rfl rfl (fun _ => ⟨ldI_eq hx17, ldI_eq hx18, ldI_eq hx20, ldI_eq hx21, ldI_eq hx22, ldI_eq hx23⟩) rfl (by rfl) (fun _ => s_alloc (zs := [.int .i64 0, .int .i64 0, .int .i64 0, .int .i64 0]) ty41 rfl rfl) (Trc.eff rfl rfl rfl (fun _ => ⟨ldI_eq g32, ldI_eq g33, ldI_eq g34, ldI_eq g35, ldI_eq g36, ldI_eq g37⟩) (s_stores ty41 rfl rfl rfl rfl hH25 (Nat.le_of_eq (sts_mono hH25).symm)) (Trc.pure rfl rfl rfl (.inl fun _ => s_as (v := .bool p24.1.2.2.2.2) rfl) (Trc.nil (fun h_ => absurd h_ (by decide +kernel))))))))))))))))))))))) rfl rfl (by decide +kernel) mixed ?_
        refine f_seq ?_
        refine f_region ?_
        refine f_op rfl rfl (s_mv (v := .bool p24.1.2.2.2.2) rfl) ?_
        refine f_nil ?_
        refine f_if (fun h38 => ?_) (fun h38 => ?_)
        · skip
          refine f_know 65 rfl (bool_T h38) ?_
          refine f_condT rfl ?_
          refine f_region ?_
          refine f_op rfl rfl (s_mv (v := .fn 66 [] [.ptr v6 0, .ptr v7 0, .ptr v8 0]) rfl) ?_
          refine o_bind ?_; intro x39 hx39
          refine o_bind ?_; intro x40 hx40
          refine o_bind ?_; intro x41 hx41
          refine o_bind ?_; intro x42 hx42
          refine f_op rfl rfl (s_loads Try.underlying41 rfl ty41 rfl (lds_cons (ldI_eq hx39) (lds_cons (ldI_eq hx40) (lds_cons (ldI_eq hx41) (lds_cons (ldI_eq hx42) (lds_nil)))))) ?_
          refine o_bind ?_; intro p43 hp43
          refine f_op rfl rfl (s_callv happ rfl rfl hp43) ?_
          refine f_nil ?_
          refine f_inBlock ?_
          refine f_region ?_
          refine f_op rfl rfl (s_add rfl rfl) ?_
          refine f_op rfl rfl (s_mv (v := .int .i64 (w64 (v11 + 1))) rfl) ?_
          refine f_nil ?_
          refine f_inLoop ?_
          refine f_keep [3, 4, 6, 8, 9, 11, 30, 31, 32] ?_
          exact ih v1 v2 v3 v4 v5 v6 v7 v8 v9 v10 (w64 (v11 + 1)) p43.2
        · skip
          refine f_know 65 rfl (bool_F h38) ?_
          refine f_condF rfl ?_
          refine f_skip ?_
          refine f_inBlock ?_
          refine f_region ?_
          refine f_op rfl rfl (s_add rfl rfl) ?_
          refine f_op rfl rfl (s_mv (v := .int .i64 (w64 (v11 + 1))) rfl) ?_
          refine f_nil ?_
          refine f_inLoop ?_
          refine f_keep [3, 4, 6, 8, 9, 11, 30, 31, 32] ?_
          exact ih v1 v2 v3 v4 v5 v6 v7 v8 v9 v10 (w64 (v11 + 1)) H25
      · skip
        refine f_know 47 rfl (dec_false h11) ?_
        refine f_condF rfl ?_
        refine f_skip ?_
        refine f_inBlock ?_
        refine f_region ?_
        refine f_op rfl rfl (s_add rfl rfl) ?_
        refine f_op rfl rfl (s_mv (v := .int .i64 (w64 (v11 + 1))) rfl) ?_
        refine f_nil ?_
        refine f_inLoop ?_
        refine f_keep [3, 4, 6, 8, 9, 11, 30, 31, 32] ?_
        exact ih v1 v2 v3 v4 v5 v6 v7 v8 v9 v10 (w64 (v11 + 1)) p10.2
    · skip
      refine f_know 33 rfl (dec_false h1) ?_
      refine f_condF rfl ?_
      refine f_exit rfl ?_
      refine f_seq ?_
      refine f_region ?_
      refine o_bind ?_; intro x44 hx44
      refine o_bind ?_; intro x45 hx45
      refine o_bind ?_; intro x46 hx46
      refine o_bind ?_; intro x47 hx47
      refine f_op rfl rfl (s_loads Try.underlying41 rfl ty41 rfl (lds_cons (ldI_eq hx44) (lds_cons (ldI_eq hx45) (lds_cons (ldI_eq hx46) (lds_cons (ldI_eq hx47) (lds_nil)))))) ?_
      refine o_bind ?_; intro H48 hH48
      refine f_op rfl rfl (s_stores ty41 rfl rfl rfl rfl hH48 (Nat.le_of_eq (sts_mono hH48).symm)) ?_
      refine f_op rfl rfl (s_as (v := .int .i64 0) rfl) ?_
      refine f_nil ?_
      refine f_bind ?_; intro x49 hx49
      refine f_bind ?_; intro x50 hx50
      refine f_bind ?_; intro x51 hx51
      refine f_bind ?_; intro x52 hx52
      exact f_ret (.cells Try.underlying41 rfl sz41 rfl (lds_cons (ldI_eq hx49) (lds_cons (ldI_eq hx50) (lds_cons (ldI_eq hx51) (lds_cons (ldI_eq hx52) (lds_nil))))) (.tmp rfl (.nil))) rfl

theorem sim46 {app : App} (happ : AppSim Try.prog app) {a0 : Sl} {a1_0 : Int} {a1_1 : Int} {H : Hp} {p : (Int × Int × Int × Int × Int) × Hp} (h : r46 app a0 a1_0 a1_1 H = some p) : CallSim Try.prog 46 [.sl a0, .agg [.int .i64 a1_0, .int .i64 a1_1]] H (.tup [.agg [.int .i64 p.1.1, .int .i64 p.1.2.1, .int .i64 p.1.2.2.1, .int .i64 p.1.2.2.2.1], .int .i64 p.1.2.2.2.2]) p.2 := by
  refine callSim (fn := Try.f46) (ret := ret46) Try.func46 rfl Try.ntmps46 rfl ?_ h
  unfold r46
  refine f_seq ?_
  refine f_region ?_
  refine f_op rfl rfl (s_box (v := .agg [.int .i64 a1_0, .int .i64 a1_1]) rfl rfl) ?_
  refine f_op rfl rfl (s_alloc (zs := [.int .i64 0, .int .i64 0, .int .i64 0, .int .i64 0]) ty41 rfl rfl) ?_
  refine f_op rfl rfl (s_as (v := .int .i64 0) rfl) ?_
  refine o_hp ?_; intro H1 hH1
  refine f_nil ?_
  refine f_seq ?_
  refine f_region ?_
  refine f_op rfl rfl (s_mv (v := .sl a0) rfl) ?_
  refine o_bind ?_; intro x2 hx2
  refine o_bind ?_; intro x3 hx3
  refine f_op rfl rfl (s_loads Try.underlying49 rfl ty49 rfl (lds_cons (ldI_eq hx2) (lds_cons (ldI_eq hx3) (lds_nil)))) ?_
  refine o_bind ?_; intro p4 hp4
  refine f_op rfl rfl (s_callF rfl ok64 (sim64 happ hp4)) ?_
  refine f_op rfl rfl (s_mv (v := .tup [.sl p4.1.1, .int .i64 p4.1.2]) rfl) ?_
  refine f_op rfl rfl (s_extract (r := .sl p4.1.1) rfl rfl) ?_
  refine f_op rfl rfl (s_extract (r := .int .i64 p4.1.2) rfl rfl) ?_
  refine f_op rfl rfl (s_as (v := .sl p4.1.1) rfl) ?_
  refine f_op rfl rfl (s_as (v := .int .i64 p4.1.2) rfl) ?_
  refine f_nil ?_
  refine f_seq ?_
  refine f_seq ?_
  refine f_region ?_
  refine f_op rfl rfl (s_mv (v := .int .i64 p4.1.2) rfl) ?_
  refine f_op rfl rfl (s_neq rfl rfl) ?_
  refine f_nil ?_
  refine f_if (fun h5 => ?_) (fun h5 => ?_)
  · skip
    refine f_know 23 rfl (dec_true h5) ?_
    refine f_condT rfl ?_
    refine f_seq ?_
    refine f_region ?_
    refine f_op rfl rfl (s_build (cs := [.int .i64 0, .int .i64 0, .int .i64 0, .int .i64 0]) Try.underlying41 ty41 rfl pl41 rfl) ?_
    refine f_op rfl rfl (s_mv (v := .int .i64 p4.1.2) rfl) ?_
    refine o_bind ?_; intro H6 hH6
    refine f_op rfl rfl (s_stores ty41 rfl rfl rfl rfl hH6 (Nat.le_of_eq (sts_mono hH6).symm)) ?_
    refine f_op rfl rfl (s_as (v := .int .i64 p4.1.2) rfl) ?_
    refine f_nil ?_
    refine f_bind ?_; intro x7 hx7
    refine f_bind ?_; intro x8 hx8
    refine f_bind ?_; intro x9 hx9
    refine f_bind ?_; intro x10 hx10
    exact f_ret (.cells Try.underlying41 rfl sz41 rfl (lds_cons (ldI_eq hx7) (lds_cons (ldI_eq hx8) (lds_cons (ldI_eq hx9) (lds_cons (ldI_eq hx10) (lds_nil))))) (.tmp rfl (.nil))) rfl
  · skip
    refine f_know 23 rfl (dec_false h5) ?_
    refine f_condF rfl ?_
    refine f_skip ?_
    refine f_seq ?_
    refine f_region ?_
    refine f_op rfl rfl (s_mv (v := .sl p4.1.1) rfl) ?_
    refine o_bind ?_; intro p11 hp11
    refine f_op rfl rfl (s_callF rfl ok56 (sim56 happ hp11)) ?_
    refine f_op rfl rfl (s_as (v := .sl p11.1) rfl) ?_
    refine f_nil ?_
    refine f_seq ?_
    refine f_region ?_
    refine f_op rfl rfl (s_alloc (zs := [.int .i64 0, .int .i64 0, .int .i64 0, .int .i64 0]) ty41 rfl rfl) ?_
    refine o_hp ?_; intro H12 hH12
    refine f_nil ?_
    refine f_seq ?_
    refine f_region ?_
    refine o_bind ?_; intro p13 hp13
    refine f_op rfl rfl (s_callO rfl ok48 (sim48 hp13) rfl rfl) ?_
    refine f_op rfl rfl (s_alloc (zs := [.int .i64 0, .int .i64 0]) ty23 rfl rfl) ?_
    refine o_bind ?_; intro H14 hH14
    refine f_op rfl rfl (s_stores ty23 rfl rfl rfl rfl hH14 (Nat.le_of_eq (sts_mono hH14).symm)) ?_
    refine f_nil ?_
    refine f_seq ?_
    refine f_region ?_
    refine f_op rfl rfl (s_makeFunc rfl rfl) ?_
    refine f_op rfl rfl (s_as (v := .fn 66 [] [.ptr H.n 0, .ptr H12.n 0, .ptr p11.2.n 0]) rfl) ?_
    refine f_nil ?_
    refine f_seq ?_
    refine f_seq ?_
    refine f_region ?_
    refine f_op rfl rfl (s_mv (v := .sl p11.1) rfl) ?_
    refine f_op rfl rfl (s_lenS rfl Try.underlying35 rfl) ?_
    refine f_op rfl rfl (s_mv (v := .int .i64 0) rfl) ?_
    refine f_nil ?_
    refine f_block ?_
    refine f_loop ?_
    refine f_keep [3, 4, 6, 8, 9, 11, 30, 31, 32] ?_
    exact s46_l0 happ FUEL H.n ((H.push (.cells [.int .i64 a1_0, .int .i64 a1_1] false)).n) p4.1.1 p11.1 p11.2.n H.n H12.n p11.2.n p11.1 (p11.1.len : Int) 0 H14

/- 77 (congou/deals.offers).reach -/
theorem ok77 : FnOk Try.prog 77 := ⟨⟨Try.f77, Try.func77, by kernel_rfl, rfl⟩⟩
theorem s77_j1 {app : App} (happ : AppSim Try.prog app) (kt0 : Int → Nat → Nat → Nat → Sl → Int → Int → Hp → Option ((Int × Int) × Hp)) (hkt0 : ∀ (v1 : Int) (v2 : Nat) (v3 : Nat) (v4 : Nat) (v5 : Sl) (v6 : Int) (v7 : Int) (H : Hp), Fin Try.prog Try.f77 ret77 46 (todoAt (bodyOf Try.f77) [1, 1, 0, 1, 0, 0] []) [(2, .int .i64 v1), (4, .ptr v2 0), (6, .ptr v3 0), (7, .ptr v4 0), (14, .sl v5), (15, .int .i64 v6), (16, .int .i64 v7)] H (kt0 v1 v2 v3 v4 v5 v6 v7 H)) (v1 : Int) (v2 : Nat) (v3 : Nat) (v4 : Nat) (v5 : Nat) (v6 : Sl) (v7 : Int) (v8 : Int) (v9 : Bool) (H : Hp) : Fin Try.prog Try.f77 ret77 46 (todoAt (bodyOf Try.f77) [1, 1, 0, 1, 0, 0, 1, 1, 0, 0, 1, 1, 1, 1, 1] []) [(2, .int .i64 v1), (4, .ptr v2 0), (6, .ptr v3 0), (7, .ptr v4 0), (11, .ptr v5 0), (14, .sl v6), (15, .int .i64 v7), (16, .int .i64 v8), (42, .bool v9)] H (r77_j1 app kt0 v1 v2 v3 v4 v5 v6 v7 v8 v9 H) := by
  unfold r77_j1
  refine f_if (fun h1 => ?_) (fun h1 => ?_)
  · skip
    refine f_know 42 rfl (bool_T h1) ?_
    refine f_condT rfl ?_
    refine f_region ?_
    refine o_bind ?_; intro x2 hx2
    refine o_bind ?_; intro x3 hx3
    refine f_op rfl rfl (s_loads Try.underlying23 rfl ty23 rfl (lds_cons (ldI_eq hx2) (lds_cons (ldI_eq hx3) (lds_nil)))) ?_
    refine o_bind ?_; intro H4 hH4
    refine f_op rfl rfl (s_stores ty23 rfl rfl rfl rfl hH4 (Nat.le_of_eq (sts_mono hH4).symm)) ?_
    refine f_nil ?_
    refine f_inBlock ?_
    refine f_region ?_
    refine f_op rfl rfl (s_add rfl rfl) ?_
    refine f_op rfl rfl (s_mv (v := .int .i64 (w64 (v8 + 1))) rfl) ?_
    refine f_nil ?_
    refine f_inLoop ?_
    refine f_keep [2, 4, 6, 7, 14, 15, 16] ?_
    exact hkt0 v1 v2 v3 v4 v6 v7 (w64 (v8 + 1)) H4
  · skip
    refine f_know 42 rfl (bool_F h1) ?_
    refine f_condF rfl ?_
    refine f_skip ?_
    refine f_inBlock ?_
    refine f_region ?_
    refine f_op rfl rfl (s_add rfl rfl) ?_
    refine f_op rfl rfl (s_mv (v := .int .i64 (w64 (v8 + 1))) rfl) ?_
    refine f_nil ?_
    refine f_inLoop ?_
    refine f_keep [2, 4, 6, 7, 14, 15, 16] ?_
    exact hkt0 v1 v2 v3 v4 v6 v7 (w64 (v8 + 1)) H

theorem s77_l0 {app : App} (happ : AppSim Try.prog app) : ∀ (k_ : Nat) (v1 : Int) (v2 : Nat) (v3 : Nat) (v4 : Nat) (v5 : Sl) (v6 : Int) (v7 : Int) (H : Hp), Fin Try.prog Try.f77 ret77 46 (todoAt (bodyOf Try.f77) [1, 1, 0, 1, 0, 0] []) [(2, .int .i64 v1), (4, .ptr v2 0), (6, .ptr v3 0), (7, .ptr v4 0), (14, .sl v5), (15, .int .i64 v6), (16, .int .i64 v7)] H (r77_l0 app k_ v1 v2 v3 v4 v5 v6 v7 H) := by
  intro k_
  induction k_ with
  | zero => intro _ _ _ _ _ _ _ _; exact f_none
  | succ k_ ih =>
    intro v1 v2 v3 v4 v5 v6 v7 H
    rw [r77_l0]
    refine f_seq ?_
    refine f_region ?_
    refine f_op rfl rfl (s_lss rfl rfl) ?_
    refine f_nil ?_
    refine f_seq ?_
    refine f_if (fun h1 => ?_) (fun h1 => ?_)
    · skip
      refine f_know 17 rfl (dec_true h1) ?_
      refine f_condT rfl ?_
      refine f_skip ?_
      refine f_seq ?_
      refine f_block ?_
      refine f_seq ?_
      refine f_region ?_
      refine o_ck fun g2 => ?_
      refine f_op rfl rfl (s_idx Try.underlying75 ty78 rfl rfl g2) ?_
      refine o_bind ?_; intro x3 hx3
      refine o_bind ?_; intro x4 hx4
      refine o_bind ?_; intro x5 hx5
      refine f_op rfl rfl (s_loads Try.underlying78 rfl ty78 rfl (lds_cons (ldI_eq hx3) (lds_cons (ldI_eq hx4) (lds_cons (ldI_eq hx5) (lds_nil))))) ?_
      refine f_op rfl rfl (s_alloc (zs := [.int .i64 0, .int .i64 0, .int .i64 0]) ty78 rfl rfl) ?_
      refine o_bind ?_; intro H6 hH6
      refine f_op rfl rfl (s_stores ty78 rfl rfl rfl rfl hH6 (Nat.le_of_eq (sts_mono hH6).symm)) ?_
      refine f_nil ?_
      refine f_seq ?_
      refine f_region ?_
      refine f_op rfl rfl (s_fieldAddr Try.underlying78 rfl ty3 rfl) ?_
      refine o_bind ?_; intro x7 hx7
      refine f_op rfl rfl (s_load Try.underlying3 rfl rfl (ldI_eq hx7)) ?_
      refine f_op rfl rfl (s_fieldAddr Try.underlying78 rfl ty3 rfl) ?_
      refine o_bind ?_; intro x8 hx8
      refine f_op rfl rfl (s_load Try.underlying3 rfl rfl (ldI_eq hx8)) ?_
      refine f_op rfl rfl (s_buildA (cs := [.int .i64 x7, .int .i64 x8]) Try.underlying49 ty49 ty3 rfl rfl) ?_
      refine f_op rfl rfl (s_mv (v := .int .i64 v1) rfl) ?_
      refine o_ck fun g9 => ?_
      refine o_bind ?_; intro x10 hx10
      refine o_bind ?_; intro x11 hx11
      refine f_op rfl rfl (s_index Try.underlying49 Try.underlying3 ty3 rfl rfl g9 hx10) ?_
      refine o_know 26 rfl (asI_eq hx11) ?_
      refine f_op rfl rfl (s_as (v := .int .i64 x11) rfl) ?_
      refine f_nil ?_
      refine f_seq ?_
      refine f_seq ?_
      refine f_region ?_
      refine f_op rfl rfl (s_mv (v := .int .i64 x11) rfl) ?_
      refine f_op rfl rfl (s_eql rfl rfl) ?_
      refine f_nil ?_
      refine f_if (fun h12 => ?_) (fun h12 => ?_)
      · skip
        refine f_know 28 rfl (dec_true h12) ?_
        refine f_condT rfl ?_
        refine f_exit rfl ?_
        refine f_region ?_
        refine f_op rfl rfl (s_add rfl rfl) ?_
        refine f_op rfl rfl (s_mv (v := .int .i64 (w64 (v7 + 1))) rfl) ?_
        refine f_nil ?_
        refine f_inLoop ?_
        refine f_keep [2, 4, 6, 7, 14, 15, 16] ?_
        exact ih v1 v2 v3 v4 v5 v6 (w64 (v7 + 1)) H6
      · skip
        refine f_know 28 rfl (dec_false h12) ?_
        refine f_condF rfl ?_
        refine f_skip ?_
        refine f_seq ?_
        refine f_region ?_
        refine o_bind ?_; intro x13 hx13
        refine o_bind ?_; intro x14 hx14
        refine o_bind ?_; intro x15 hx15
        refine f_op rfl rfl (s_loads Try.underlying78 rfl ty78 rfl (lds_cons (ldI_eq hx13) (lds_cons (ldI_eq hx14) (lds_cons (ldI_eq hx15) (lds_nil))))) ?_
        refine o_bind ?_; intro x16 hx16
        refine o_bind ?_; intro x17 hx17
        refine f_op rfl rfl (s_loads Try.underlying49 rfl ty49 rfl (lds_cons (ldI_eq hx16) (lds_cons (ldI_eq hx17) (lds_nil)))) ?_
        refine o_bind ?_; intro p18 hp18
        refine f_op rfl rfl (s_callO rfl ok78 (sim78 hp18) rfl rfl) ?_
        refine f_op rfl rfl (s_mv (v := .int .i64 x11) rfl) ?_
        refine o_bind ?_; intro p19 hp19
        refine f_op rfl rfl (s_callO rfl ok48 (sim48 hp19) rfl rfl) ?_
        refine f_op rfl rfl (s_alloc (zs := [.int .i64 0, .int .i64 0]) ty23 rfl rfl) ?_
        refine o_bind ?_; intro H20 hH20
        refine f_op rfl rfl (s_stores ty23 rfl rfl rfl rfl hH20 (Nat.le_of_eq (sts_mono hH20).symm)) ?_
        refine f_nil ?_
        refine f_seq ?_
        refine f_region ?_
        refine f_op rfl rfl (s_fieldAddr Try.underlying23 rfl ty3 rfl) ?_
        refine o_bind ?_; intro x21 hx21
        refine f_op rfl rfl (s_load Try.underlying3 rfl rfl (ldI_eq hx21)) ?_
        refine f_op rfl rfl (s_eql rfl rfl) ?_
        refine f_op rfl rfl (s_mv (v := .bool (decide (x21 = 0))) rfl) ?_
        refine o_if (fun h22 => ?_) (fun h22 => ?_)
        · skip
          refine o_know 37 rfl (dec_true h22) ?_
          refine f_no rfl rfl ?_
          refine f_no rfl rfl ?_
          refine f_no rfl rfl ?_
          refine f_no rfl rfl ?_
          refine f_op rfl rfl (s_pickT (v := .bool true) rfl rfl) ?_
          refine f_nil ?_
          refine f_keep [2, 4, 6, 7, 11, 14, 15, 16, 42] ?_
          exact s77_j1 happ _ (fun v1_ v2_ v3_ v4_ v5_ v6_ v7_ H_ => ih v1_ v2_ v3_ v4_ v5_ v6_ v7_ H_) v1 v2 v3 v4 H6.n v5 v6 v7 true H20
        · skip
          refine o_know 37 rfl (dec_false h22) ?_
          refine o_bind ?_; intro x23 hx23
          refine o_bind ?_; intro x24 hx24
          refine f_op rfl rfl (s_loads Try.underlying23 rfl ty23 rfl (lds_cons (ldI_eq hx23) (lds_cons (ldI_eq hx24) (lds_nil)))) ?_
          refine o_bind ?_; intro x25 hx25
          refine o_bind ?_; intro x26 hx26
          refine f_op rfl rfl (s_loads Try.underlying23 rfl ty23 rfl (lds_cons (ldI_eq hx25) (lds_cons (ldI_eq hx26) (lds_nil)))) ?_
          refine o_bind ?_; intro p27 hp27
          refine f_op rfl rfl (s_callO rfl ok68 (sim68 hp27) rfl rfl) ?_
          refine f_op rfl rfl (s_lss rfl rfl) ?_
          refine f_op rfl rfl (s_pickF (v := .bool (decide (p27.1 < 0))) rfl rfl) ?_
          refine f_nil ?_
          refine f_keep [2, 4, 6, 7, 11, 14, 15, 16, 42] ?_
          exact s77_j1 happ _ (fun v1_ v2_ v3_ v4_ v5_ v6_ v7_ H_ => ih v1_ v2_ v3_ v4_ v5_ v6_ v7_ H_) v1 v2 v3 v4 H6.n v5 v6 v7 (decide (p27.1 < 0)) H20
    · skip
      refine f_know 17 rfl (dec_false h1) ?_
      refine f_condF rfl ?_
      refine f_exit rfl ?_
      refine f_seq ?_
      refine f_region ?_
      refine o_bind ?_; intro x28 hx28
      refine o_bind ?_; intro x29 hx29
      refine f_op rfl rfl (s_loads Try.underlying23 rfl ty23 rfl (lds_cons (ldI_eq hx28) (lds_cons (ldI_eq hx29) (lds_nil)))) ?_
      refine o_bind ?_; intro H30 hH30
      refine f_op rfl rfl (s_stores ty23 rfl rfl rfl rfl hH30 (Nat.le_of_eq (sts_mono hH30).symm)) ?_
      refine f_nil ?_
      refine f_bind ?_; intro x31 hx31
      refine f_bind ?_; intro x32 hx32
      exact f_ret (.cells Try.underlying23 rfl sz23 rfl (lds_cons (ldI_eq hx31) (lds_cons (ldI_eq hx32) (lds_nil))) (.nil)) rfl

theorem sim77 {app : App} (happ : AppSim Try.prog app) {a0 : Sl} {a1_0 : Int} {a1_1 : Int} {a2 : Int} {H : Hp} {p : (Int × Int) × Hp} (h : r77 app a0 a1_0 a1_1 a2 H = some p) : CallSim Try.prog 77 [.sl a0, .agg [.int .i64 a1_0, .int .i64 a1_1], .int .i64 a2] H (.agg [.int .i64 p.1.1, .int .i64 p.1.2]) p.2 := by
  refine callSim (fn := Try.f77) (ret := ret77) Try.func77 rfl Try.ntmps77 rfl ?_ h
  unfold r77
  refine f_seq ?_
  refine f_region ?_
  refine f_op rfl rfl (s_box (v := .agg [.int .i64 a1_0, .int .i64 a1_1]) rfl rfl) ?_
  refine f_op rfl rfl (s_alloc (zs := [.int .i64 0, .int .i64 0]) ty23 rfl rfl) ?_
  refine o_hp ?_; intro H1 hH1
  refine f_nil ?_
  refine f_seq ?_
  refine f_region ?_
  refine f_op rfl rfl (s_build (cs := [.int .i64 0, .int .i64 0]) Try.underlying23 ty23 rfl pl23 rfl) ?_
  refine f_op rfl rfl (s_alloc (zs := [.int .i64 0, .int .i64 0]) ty23 rfl rfl) ?_
  refine o_bind ?_; intro H2 hH2
  refine f_op rfl rfl (s_stores ty23 rfl rfl rfl rfl hH2 (Nat.le_of_eq (sts_mono hH2).symm)) ?_
  refine f_nil ?_
  refine f_seq ?_
  refine f_seq ?_
  refine f_region ?_
  refine f_op rfl rfl (s_mv (v := .sl a0) rfl) ?_
  refine o_bind ?_; intro p3 hp3
  refine f_op rfl rfl (s_callF rfl ok54 (sim54 happ hp3)) ?_
  refine f_op rfl rfl (s_lenS rfl Try.underlying75 rfl) ?_
  refine f_op rfl rfl (s_mv (v := .int .i64 0) rfl) ?_
  refine f_nil ?_
  refine f_block ?_
  refine f_loop ?_
  refine f_keep [2, 4, 6, 7, 14, 15, 16] ?_
  exact s77_l0 happ FUEL a2 H.n ((H.push (.cells [.int .i64 a1_0, .int .i64 a1_1] false)).n) H1.n p3.1 (p3.1.len : Int) 0 p3.2

/- 63 congou/deals.Best -/
theorem ok63 : FnOk Try.prog 63 := ⟨⟨Try.f63, Try.func63, by kernel_rfl, rfl⟩⟩
theorem sim63 {app : App} (happ : AppSim Try.prog app) {a0 : Sl} {a1_0 : Int} {a1_1 : Int} {H : Hp} {p : (Int × Int × Int × Int × Int) × Hp} (h : r63 app a0 a1_0 a1_1 H = some p) : CallSim Try.prog 63 [.sl a0, .agg [.int .i64 a1_0, .int .i64 a1_1]] H (.tup [.agg [.int .i64 p.1.1, .int .i64 p.1.2.1, .int .i64 p.1.2.2.1, .int .i64 p.1.2.2.2.1], .int .i64 p.1.2.2.2.2]) p.2 := by
  refine callSim (fn := Try.f63) (ret := ret63) Try.func63 rfl Try.ntmps63 rfl ?_ h
  unfold r63
  refine f_seq ?_
  refine f_region ?_
  refine f_op rfl rfl (s_box (v := .agg [.int .i64 a1_0, .int .i64 a1_1]) rfl rfl) ?_
  refine f_op rfl rfl (s_alloc (zs := [.int .i64 0, .int .i64 0, .int .i64 0, .int .i64 0]) ty41 rfl rfl) ?_
  refine f_op rfl rfl (s_as (v := .int .i64 0) rfl) ?_
  refine o_hp ?_; intro H1 hH1
  refine f_nil ?_
  refine f_seq ?_
  refine f_region ?_
  refine f_op rfl rfl (s_mv (v := .sl a0) rfl) ?_
  refine o_bind ?_; intro x2 hx2
  refine o_bind ?_; intro x3 hx3
  refine f_op rfl rfl (s_loads Try.underlying49 rfl ty49 rfl (lds_cons (ldI_eq hx2) (lds_cons (ldI_eq hx3) (lds_nil)))) ?_
  refine o_bind ?_; intro p4 hp4
  refine f_op rfl rfl (s_callF rfl ok64 (sim64 happ hp4)) ?_
  refine f_op rfl rfl (s_mv (v := .tup [.sl p4.1.1, .int .i64 p4.1.2]) rfl) ?_
  refine f_op rfl rfl (s_extract (r := .sl p4.1.1) rfl rfl) ?_
  refine f_op rfl rfl (s_extract (r := .int .i64 p4.1.2) rfl rfl) ?_
  refine f_op rfl rfl (s_as (v := .sl p4.1.1) rfl) ?_
  refine f_op rfl rfl (s_as (v := .int .i64 p4.1.2) rfl) ?_
  refine f_nil ?_
  refine f_seq ?_
  refine f_seq ?_
  refine f_region ?_
  refine f_op rfl rfl (s_mv (v := .int .i64 p4.1.2) rfl) ?_
  refine f_op rfl rfl (s_neq rfl rfl) ?_
  refine f_nil ?_
  refine f_if (fun h5 => ?_) (fun h5 => ?_)
  · skip
    refine f_know 15 rfl (dec_true h5) ?_
    refine f_condT rfl ?_
    refine f_seq ?_
    refine f_region ?_
    refine f_op rfl rfl (s_build (cs := [.int .i64 0, .int .i64 0, .int .i64 0, .int .i64 0]) Try.underlying41 ty41 rfl pl41 rfl) ?_
    refine f_op rfl rfl (s_mv (v := .int .i64 p4.1.2) rfl) ?_
    refine o_bind ?_; intro H6 hH6
    refine f_op rfl rfl (s_stores ty41 rfl rfl rfl rfl hH6 (Nat.le_of_eq (sts_mono hH6).symm)) ?_
    refine f_op rfl rfl (s_as (v := .int .i64 p4.1.2) rfl) ?_
    refine f_nil ?_
    refine f_bind ?_; intro x7 hx7
    refine f_bind ?_; intro x8 hx8
    refine f_bind ?_; intro x9 hx9
    refine f_bind ?_; intro x10 hx10
    exact f_ret (.cells Try.underlying41 rfl sz41 rfl (lds_cons (ldI_eq hx7) (lds_cons (ldI_eq hx8) (lds_cons (ldI_eq hx9) (lds_cons (ldI_eq hx10) (lds_nil))))) (.tmp rfl (.nil))) rfl
  · skip
    refine f_know 15 rfl (dec_false h5) ?_
    refine f_condF rfl ?_
    refine f_skip ?_
    refine f_seq ?_
    refine f_bind ?_; intro x11 hx11
    refine f_bind ?_; intro x12 hx12
    refine f_bind ?_; intro x13 hx13
    refine f_bind ?_; intro x14 hx14
    refine f_bind ?_; intro p15 hp15
    refine f_bind ?_; intro x16 hx16
    refine f_bind ?_; intro x17 hx17
    refine f_bind ?_; intro p18 hp18
    refine f_bind ?_; intro p19 hp19
    refine f_bind ?_; intro H20 hH20
    refine f_ck fun g21 => ?_
    refine f_ck fun g22 => ?_
    refine f_ck fun g23 => ?_
    refine f_ck fun g24 => ?_
    refine f_ck fun g25 => ?_
    refine f_ck fun g26 => ?_
    refine f_ck fun g27 => ?_
    refine f_ck fun g28 => ?_
    refine f_draw (Φ := fun H_ => H_.ld H.n 0 = some (.int .i64 x11) ∧ H_.ld H.n (0 + 1) = some (.int .i64 x12) ∧ H_.ld H.n 0 = some (.int .i64 x16) ∧ H_.ld H.n (0 + 1) = some (.int .i64 x17)) (lim := 8) [0, 0, 0, 1, 2, 0, 0, 2, 2, 2, 0] (Trc.pure rfl rfl rfl (.inl fun _ => s_mv (v := .sl p4.1.1) rfl) (Trc.pure rfl rfl rfl (.inr ⟨by decide +kernel, fun _ hp_ => s_loads Try.underlying49 rfl ty49 rfl (lds_cons hp_.1 (lds_cons hp_.2.1 (lds_nil)))⟩) (Trc.pure rfl rfl rfl (.inl fun _ => s_mv (v := .sl p4.1.1) rfl) (Trc.read rfl rfl rfl (s_loads Try.underlying49 rfl ty49 rfl (lds_cons (ldI_eq hx13) (lds_cons (ldI_eq hx14) (lds_nil)))) (Trc.eff rfl rfl rfl (fun _ => ⟨ldI_eq hx11, ldI_eq hx12, ldI_eq g21, ldI_eq g22⟩) (s_callF rfl ok77 (sim77 happ hp15)) (Trc.pure rfl rfl rfl (.inl fun _ => s_mv (v := .sl p4.1.1) rfl) (Trc.pure rfl rfl rfl (.inr ⟨by decide +kernel, fun _ hp_ => s_loads Try.underlying49 rfl ty49 rfl (lds_cons hp_.2.2.1 (lds_cons hp_.2.2.2 (lds_nil)))⟩) (Trc.eff rfl rfl rfl (fun _ => ⟨ldI_eq g23, ldI_eq g24, ldI_eq hx16, ldI_eq hx17⟩) (s_callF rfl ok77 (sim77 happ hp18)) (Trc.eff rfl rfl rfl (fun _ => ⟨ldI_eq g25, ldI_eq g26, ldI_eq g27, ldI_eq g28⟩) (s_callF rfl ok65 (sim65 happ hp19)) (Trc.eff rfl rfl rfl (fun h_ => absurd h_ (by decide +kernel)) (s_stores ty41 rfl rfl rfl rfl hH20 (Nat.le_of_eq (sts_mono hH20).symm)) (Trc.pure rfl rfl rfl (.inl fun _ => s_as (v := .int .i64 0) rfl) (Trc.nil (fun h_ => absurd h_ (by decide +kernel)))))))))))))) rfl (by decide +kernel) mixed ?_
    refine f_bind ?_; intro x29 hx29
    refine f_bind ?_; intro x30 hx30
    refine f_bind ?_; intro x31 hx31
    refine f_bind ?_; intro x32 hx32
    exact f_ret (.cells Try.underlying41 rfl sz41 rfl (lds_cons (ldI_eq hx29) (lds_cons (ldI_eq hx30) (lds_cons (ldI_eq hx31) (lds_cons (ldI_eq hx32) (lds_nil))))) (.tmp rfl (.nil))) rfl

end Go.Lt.P5
