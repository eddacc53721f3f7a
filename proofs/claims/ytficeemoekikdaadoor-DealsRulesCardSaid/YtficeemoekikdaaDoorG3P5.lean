/- PRINTED BY A PROGRAM OF OURS: what each function that 'DealsRules' reaches computes on the abstract heap, and that the translated code does just that. Nothing is asked of the input. -/
import Derived.Test.YtficeemoekikdaaDoorG3P4
set_option linter.unusedVariables false
set_option linter.unusedSimpArgs false
set_option maxRecDepth 100000
set_option maxHeartbeats 4000000
namespace Go.Lt.P5
open Go Go.Lt Go.Proofs
/- 4 congou/deals.Product -/
theorem ok4 : FnOk Tryd.prog 4 := ⟨⟨Tryd.f4, Tryd.func4, by kernel_rfl, rfl⟩⟩
theorem s4_l0 {app : App} (happ : AppSim Tryd.prog app) : ∀ (k_ : Nat) (v1 : Nat) (v2 : Nat) (v3 : Sl) (v4 : Sl) (v5 : Nat) (v6 : Nat) (v7 : Nat) (v8 : Nat) (v9 : Sl) (v10 : Int) (v11 : Int) (H : Hp), Fin Tryd.prog Tryd.f4 ret4 71 (todoAt (bodyOf Tryd.f4) [1, 1, 1, 1, 1, 1, 1, 0, 1, 0, 0] []) [(3, .ptr v1 0), (4, .ptr v2 0), (6, .sl v3), (8, .sl v4), (9, .ptr v5 0), (11, .fn 19 [] [.ptr v6 0, .ptr v7 0, .ptr v8 0]), (30, .sl v9), (31, .int .i64 v10), (32, .int .i64 v11)] H (r4_l0 app k_ v1 v2 v3 v4 v5 v6 v7 v8 v9 v10 v11 H) := by
  intro k_
  induction k_ with
  | zero => intro _ _ _ _ _ _ _ _ _ _ _ _; exact f_none
  | succ k_ ih =>
    intro v1 v2 v3 v4 v5 v6 v7 v8 v9 v10 v11 H
    rw [r4_l0]
    refine f_seq ?_
    refine f_region ?_
    refine f_op rfl rfl (s_lss rfl rfl) ?_
    refine f_nil ?_
    refine f_seq ?_
    refine f_if (fun h1 => ?_) (fun h1 => ?_)
    · skip
      refine f_know 33 rfl (dec_true h1) ?_
      refine f_condT rfl ?_
      refine f_skip ?_
      refine f_seq ?_
      refine f_block ?_
      refine f_seq ?_
      refine f_region ?_
      refine f_op rfl rfl (s_mv (v := .int .i64 v11) rfl) ?_
      refine o_ck fun g2 => ?_
      refine f_op rfl rfl (s_idx Tryd.underlying22 ty23 rfl rfl g2) ?_
      refine o_bind ?_; intro x3 hx3
      refine o_bind ?_; intro x4 hx4
      refine f_op rfl rfl (s_loads Tryd.underlying23 rfl ty23 rfl (lds_cons (ldI_eq hx3) (lds_cons (ldI_eq hx4) (lds_nil)))) ?_
      refine f_op rfl rfl (s_alloc (zs := [.int .i64 0, .int .i64 0]) ty23 rfl rfl) ?_
      refine f_op rfl rfl (s_as (v := .int .i64 v11) rfl) ?_
      refine o_bind ?_; intro H5 hH5
      refine f_op rfl rfl (s_stores ty23 rfl rfl rfl rfl hH5 (Nat.le_of_eq (sts_mono hH5).symm)) ?_
      refine f_nil ?_
      refine f_seq ?_
      refine f_bind ?_; intro x6 hx6
      refine f_bind ?_; intro p7 hp7
      refine f_bind ?_; intro x8 hx8
      refine f_bind ?_; intro p9 hp9
      refine f_bind ?_; intro p10 hp10
      refine f_draw (Φ := fun _ => True) (lim := 1000000) [0, 0, 1, 0, 0, 1, 0, 0, 2] (Trc.pure rfl rfl rfl (.inl fun _ => s_mv (v := .fn 19 [] [.ptr v6 0, .ptr v7 0, .ptr v8 0]) rfl) (Trc.pure rfl rfl rfl (.inl fun _ => s_idxA Tryd.underlying23 ty3 rfl rfl (by decide)) (Trc.read rfl rfl rfl (s_load Tryd.underlying3 rfl rfl (ldI_eq hx6)) (Trc.pure rfl rfl rfl (.inl fun _ => s_callO rfl ok18 (sim18 hp7) rfl rfl) (Trc.pure rfl rfl rfl (.inl fun _ => s_idxA Tryd.underlying23 ty3 rfl rfl (by decide)) (Trc.read rfl rfl rfl (s_load Tryd.underlying3 rfl rfl (ldI_eq hx8)) (Trc.pure rfl rfl rfl (.inl fun _ => s_callO rfl ok18 (sim18 hp9) rfl rfl) (Trc.pure rfl rfl rfl (.inl fun _ => s_build (cs := [.int .i64 p7.1.1, .int .i64 p7.1.2, .int .i64 p9.1.1, .int .i64 p9.1.2]) Tryd.underlying27 ty27 rfl pl27 rfl) (Trc.eff rfl rfl rfl (fun _ => trivial) (s_callv happ rfl rfl hp10) (Trc.nil (fun _ => trivial))))))))))) rfl (by decide +kernel) mixed ?_
      refine f_seq ?_
      refine f_region ?_
      refine f_op rfl rfl (s_mv (v := .int .i64 v11) rfl) ?_
      refine f_op rfl rfl (s_gtr rfl rfl) ?_
      refine f_nil ?_
      refine f_if (fun h11 => ?_) (fun h11 => ?_)
      · skip
        refine f_know 47 rfl (dec_true h11) ?_
        refine f_condT rfl ?_
        refine f_seq ?_
        refine f_bind ?_; intro p12 hp12
        refine f_ck fun g13 => ?_
        refine f_bind ?_; intro x14 hx14
        refine f_bind ?_; intro x15 hx15
        refine f_bind ?_; intro x16 hx16
        refine f_bind ?_; intro x17 hx17
        refine f_bind ?_; intro x18 hx18
        refine f_ck fun g19 => ?_
        refine f_bind ?_; intro x20 hx20
        refine f_bind ?_; intro x21 hx21
        refine f_bind ?_; intro x22 hx22
        refine f_bind ?_; intro x23 hx23
        refine f_bind ?_; intro p24 hp24
        refine f_bind ?_; intro H25 hH25
        refine f_ck fun g26 => ?_
        refine f_ck fun g27 => ?_
        refine f_ck fun g28 => ?_
        refine f_ck fun g29 => ?_
        refine f_ck fun g30 => ?_
        refine f_ck fun g31 => ?_
        refine f_ck fun g32 => ?_
        refine f_ck fun g33 => ?_
        refine f_ck fun g34 => ?_
        refine f_ck fun g35 => ?_
        refine f_ck fun g36 => ?_
        refine f_ck fun g37 => ?_
        refine f_drawF (Φ := fun H_ => H_.ld v1 0 = some (.int .i64 x17) ∧ H_.ld v1 (0 + 1) = some (.int .i64 x18) ∧ H_.ld v4.b (v4.o + (w64 (v11 - 1) : Int).toNat * 2) = some (.int .i64 x20) ∧ H_.ld v4.b ((v4.o + (w64 (v11 - 1) : Int).toNat * 2) + 1) = some (.int .i64 x21) ∧ H_.ld H.n 0 = some (.int .i64 x22) ∧ H_.ld H.n (0 + 1) = some (.int .i64 x23)) (lim := 18) [0, 2, 0, 0, 0, 1, 0, 0, 0, 0, 0, 0, 0, 0, 0, 0, 0, 2, 2, 0] [false, false, false, false, false, false, false, false, false, false, false, false, false, false, false, false, false, true, false, false] 17 18 (Trc.pure rfl rfl rfl (.inl fun _ => s_mv (v := .sl v3) rfl) (Trc.eff rfl rfl rfl (fun _ => ⟨ldI_eq g26, ldI_eq g27, ldI_eq g28, ldI_eq g29, ldI_eq g30, ldI_eq g31⟩) (s_callF rfl ok22 (sim22 happ hp12)) (Trc.pure rfl rfl rfl (.inl fun _ => s_mv (v := .int .i64 v11) rfl) (Trc.pure rfl rfl rfl (.inl fun _ => s_add rfl rfl) (Trc.pure rfl rfl rfl (.inl fun _ => s_idx Tryd.underlying50 ty49 rfl rfl g13) (Trc.read rfl rfl rfl (s_loads Tryd.underlying49 rfl ty49 rfl (lds_cons (ldI_eq hx14) (lds_cons (ldI_eq hx15) (lds_cons (ldI_eq hx16) (lds_nil))))) (Trc.pure rfl rfl rfl (.inr ⟨by decide +kernel, fun _ hp_ => s_loads Tryd.underlying23 rfl ty23 rfl (lds_cons hp_.1 (lds_cons hp_.2.1 (lds_nil)))⟩) (Trc.pure rfl rfl rfl (.inl fun _ => s_mv (v := .sl v4) rfl) (Trc.pure rfl rfl rfl (.inl fun _ => s_mv (v := .int .i64 v11) rfl) (Trc.pure rfl rfl rfl (.inl fun _ => s_sub rfl rfl) (Trc.pure rfl rfl rfl (.inl fun _ => s_idx Tryd.underlying22 ty23 rfl rfl g19) (Trc.pure rfl rfl rfl (.inr ⟨by decide +kernel, fun _ hp_ => s_loads Tryd.underlying23 rfl ty23 rfl (lds_cons hp_.2.2.1 (lds_cons hp_.2.2.2.1 (lds_nil)))⟩) (Trc.pure rfl rfl rfl (.inr ⟨by decide +kernel, fun _ hp_ => s_loads Tryd.underlying23 rfl ty23 rfl (lds_cons hp_.2.2.2.2.1 (lds_cons hp_.2.2.2.2.2 (lds_nil)))⟩) (Trc.pure rfl rfl rfl (.inl fun _ => s_callO rfl ok23 (sim23 hp24) rfl rfl) (Trc.pure rfl rfl rfl (.inl fun _ => s_mv (v := .tup [.agg [.int .i64 p24.1.1, .int .i64 p24.1.2.1, .int .i64 p24.1.2.2.1, .int .i64 p24.1.2.2.2.1], .bool p24.1.2.2.2.2]) rfl) (Trc.pure rfl rfl rfl (.inl fun _ => s_extract (r := .agg [.int .i64 p24.1.1, .int .i64 p24.1.2.1, .int .i64 p24.1.2.2.1, .int .i64 p24.1.2.2.2.1]) rfl rfl) (Trc.pure rfl rfl rfl (.inl fun _ => s_extract (r := .bool p24.1.2.2.2.2) rfl rfl) (Trc.fl .p rfl rfl rfl (fun _ => ⟨ldI_eq hx17, ldI_eq hx18, ldI_eq hx20, ldI_eq hx21, ldI_eq hx22, ldI_eq hx23⟩) rfl (by rfl) (fun _ => s_alloc (zs := [.int .i64 0, .int .i64 0, .int .i64 0, .int .i64 0]) ty27 rfl rfl) (Trc.eff rfl rfl rfl (fun _ => ⟨ldI_eq g32, ldI_eq g33, ldI_eq g34, ldI_eq g35, ldI_eq g36, ldI_eq g37⟩) (s_stores ty27 rfl rfl rfl rfl hH25 (Nat.le_of_eq (sts_mono hH25).symm)) (Trc.pure rfl rfl rfl (.inl fun _ => s_as (v := .bool p24.1.2.2.2.2) rfl) (Trc.nil (fun h_ => absurd h_ (by decide +kernel))))))))))))))))))))))) rfl rfl (by decide +kernel) mixed ?_
        refine f_seq ?_
        refine f_region ?_
        refine f_op rfl rfl (s_mv (v := .bool p24.1.2.2.2.2) rfl) ?_
        refine f_nil ?_
        refine f_if (fun h38 => ?_) (fun h38 => ?_)
        · skip
          refine f_know 65 rfl (bool_T h38) ?_
          refine f_condT rfl ?_
          refine f_region ?_
          refine f_op rfl rfl (s_mv (v := .fn 19 [] [.ptr v6 0, .ptr v7 0, .ptr v8 0]) rfl) ?_
          refine o_bind ?_; intro x39 hx39
          refine o_bind ?_; intro x40 hx40
          refine o_bind ?_; intro x41 hx41
          refine o_bind ?_; intro x42 hx42
          refine f_op rfl rfl (s_loads Tryd.underlying27 rfl ty27 rfl (lds_cons (ldI_eq hx39) (lds_cons (ldI_eq hx40) (lds_cons (ldI_eq hx41) (lds_cons (ldI_eq hx42) (lds_nil)))))) ?_
          refine o_bind ?_; intro p43 hp43
          refine f_op rfl rfl (s_callv happ rfl rfl hp43) ?_
          refine f_nil ?_
          refine f_inBlock ?_
          refine f_region ?_
          refine f_op rfl rfl (s_add rfl rfl) ?_
          refine f_op rfl rfl (s_mv (v := .int .i64 (w64 (v11 + 1))) rfl) ?_
          refine f_nil ?_
          refine f_inLoop ?_
          refine f_keep [3, 4, 6, 8, 9, 11, 30, 31, 32] ?_
          exact ih v1 v2 v3 v4 v5 v6 v7 v8 v9 v10 (w64 (v11 + 1)) p43.2
        · skip
          refine f_know 65 rfl (bool_F h38) ?_
          refine f_condF rfl ?_
          refine f_skip ?_
          refine f_inBlock ?_
          refine f_region ?_
          refine f_op rfl rfl (s_add rfl rfl) ?_
          refine f_op rfl rfl (s_mv (v := .int .i64 (w64 (v11 + 1))) rfl) ?_
          refine f_nil ?_
          refine f_inLoop ?_
          refine f_keep [3, 4, 6, 8, 9, 11, 30, 31, 32] ?_
          exact ih v1 v2 v3 v4 v5 v6 v7 v8 v9 v10 (w64 (v11 + 1)) H25
      · skip
        refine f_know 47 rfl (dec_false h11) ?_
        refine f_condF rfl ?_
        refine f_skip ?_
        refine f_inBlock ?_
        refine f_region ?_
        refine f_op rfl rfl (s_add rfl rfl) ?_
        refine f_op rfl rfl (s_mv (v := .int .i64 (w64 (v11 + 1))) rfl) ?_
        refine f_nil ?_
        refine f_inLoop ?_
        refine f_keep [3, 4, 6, 8, 9, 11, 30, 31, 32] ?_
        exact ih v1 v2 v3 v4 v5 v6 v7 v8 v9 v10 (w64 (v11 + 1)) p10.2
    · skip
      refine f_know 33 rfl (dec_false h1) ?_
      refine f_condF rfl ?_
      refine f_exit rfl ?_
      refine f_seq ?_
      refine f_region ?_
      refine o_bind ?_; intro x44 hx44
      refine o_bind ?_; intro x45 hx45
      refine o_bind ?_; intro x46 hx46
      refine o_bind ?_; intro x47 hx47
      refine f_op rfl rfl (s_loads Tryd.underlying27 rfl ty27 rfl (lds_cons (ldI_eq hx44) (lds_cons (ldI_eq hx45) (lds_cons (ldI_eq hx46) (lds_cons (ldI_eq hx47) (lds_nil)))))) ?_
      refine o_bind ?_; intro H48 hH48
      refine f_op rfl rfl (s_stores ty27 rfl rfl rfl rfl hH48 (Nat.le_of_eq (sts_mono hH48).symm)) ?_
      refine f_op rfl rfl (s_as (v := .int .i64 0) rfl) ?_
      refine f_nil ?_
      refine f_bind ?_; intro x49 hx49
      refine f_bind ?_; intro x50 hx50
      refine f_bind ?_; intro x51 hx51
      refine f_bind ?_; intro x52 hx52
      exact f_ret (.cells Tryd.underlying27 rfl sz27 rfl (lds_cons (ldI_eq hx49) (lds_cons (ldI_eq hx50) (lds_cons (ldI_eq hx51) (lds_cons (ldI_eq hx52) (lds_nil))))) (.tmp rfl (.nil))) rfl

theorem sim4 {app : App} (happ : AppSim Tryd.prog app) {a0 : Sl} {a1_0 : Int} {a1_1 : Int} {H : Hp} {p : (Int × Int × Int × Int × Int) × Hp} (h : r4 app a0 a1_0 a1_1 H = some p) : CallSim Tryd.prog 4 [.sl a0, .agg [.int .i64 a1_0, .int .i64 a1_1]] H (.tup [.agg [.int .i64 p.1.1, .int .i64 p.1.2.1, .int .i64 p.1.2.2.1, .int .i64 p.1.2.2.2.1], .int .i64 p.1.2.2.2.2]) p.2 := by
  refine callSim (fn := Tryd.f4) (ret := ret4) Tryd.func4 rfl Tryd.ntmps4 rfl ?_ h
  unfold r4
  refine f_seq ?_
  refine f_region ?_
  refine f_op rfl rfl (s_box (v := .agg [.int .i64 a1_0, .int .i64 a1_1]) rfl rfl) ?_
  refine f_op rfl rfl (s_alloc (zs := [.int .i64 0, .int .i64 0, .int .i64 0, .int .i64 0]) ty27 rfl rfl) ?_
  refine f_op rfl rfl (s_as (v := .int .i64 0) rfl) ?_
  refine o_hp ?_; intro H1 hH1
  refine f_nil ?_
  refine f_seq ?_
  refine f_region ?_
  refine f_op rfl rfl (s_mv (v := .sl a0) rfl) ?_
  refine o_bind ?_; intro x2 hx2
  refine o_bind ?_; intro x3 hx3
  refine f_op rfl rfl (s_loads Tryd.underlying23 rfl ty23 rfl (lds_cons (ldI_eq hx2) (lds_cons (ldI_eq hx3) (lds_nil)))) ?_
  refine o_bind ?_; intro p4 hp4
  refine f_op rfl rfl (s_callF rfl ok16 (sim16 happ hp4)) ?_
  refine f_op rfl rfl (s_mv (v := .tup [.sl p4.1.1, .int .i64 p4.1.2]) rfl) ?_
  refine f_op rfl rfl (s_extract (r := .sl p4.1.1) rfl rfl) ?_
  refine f_op rfl rfl (s_extract (r := .int .i64 p4.1.2) rfl rfl) ?_
  refine f_op rfl rfl (s_as (v := .sl p4.1.1) rfl) ?_
  refine f_op rfl rfl (s_as (v := .int .i64 p4.1.2) rfl) ?_
  refine f_nil ?_
  refine f_seq ?_
  refine f_seq ?_
  refine f_region ?_
  refine f_op rfl rfl (s_mv (v := .int .i64 p4.1.2) rfl) ?_
  refine f_op rfl rfl (s_neq rfl rfl) ?_
  refine f_nil ?_
  refine f_if (fun h5 => ?_) (fun h5 => ?_)
  · skip
    refine f_know 23 rfl (dec_true h5) ?_
    refine f_condT rfl ?_
    refine f_seq ?_
    refine f_region ?_
    refine f_op rfl rfl (s_build (cs := [.int .i64 0, .int .i64 0, .int .i64 0, .int .i64 0]) Tryd.underlying27 ty27 rfl pl27 rfl) ?_
    refine f_op rfl rfl (s_mv (v := .int .i64 p4.1.2) rfl) ?_
    refine o_bind ?_; intro H6 hH6
    refine f_op rfl rfl (s_stores ty27 rfl rfl rfl rfl hH6 (Nat.le_of_eq (sts_mono hH6).symm)) ?_
    refine f_op rfl rfl (s_as (v := .int .i64 p4.1.2) rfl) ?_
    refine f_nil ?_
    refine f_bind ?_; intro x7 hx7
    refine f_bind ?_; intro x8 hx8
    refine f_bind ?_; intro x9 hx9
    refine f_bind ?_; intro x10 hx10
    exact f_ret (.cells Tryd.underlying27 rfl sz27 rfl (lds_cons (ldI_eq hx7) (lds_cons (ldI_eq hx8) (lds_cons (ldI_eq hx9) (lds_cons (ldI_eq hx10) (lds_nil))))) (.tmp rfl (.nil))) rfl
  · skip
    refine f_know 23 rfl (dec_false h5) ?_
    refine f_condF rfl ?_
    refine f_skip ?_
    refine f_seq ?_
    refine f_region ?_
    refine f_op rfl rfl (s_mv (v := .sl p4.1.1) rfl) ?_
    refine o_bind ?_; intro p11 hp11
    refine f_op rfl rfl (s_callF rfl ok17 (sim17 happ hp11)) ?_
    refine f_op rfl rfl (s_as (v := .sl p11.1) rfl) ?_
    refine f_nil ?_
    refine f_seq ?_
    refine f_region ?_
    refine f_op rfl rfl (s_alloc (zs := [.int .i64 0, .int .i64 0, .int .i64 0, .int .i64 0]) ty27 rfl rfl) ?_
    refine o_hp ?_; intro H12 hH12
    refine f_nil ?_
    refine f_seq ?_
    refine f_region ?_
    refine o_bind ?_; intro p13 hp13
    refine f_op rfl rfl (s_callO rfl ok18 (sim18 hp13) rfl rfl) ?_
    refine f_op rfl rfl (s_alloc (zs := [.int .i64 0, .int .i64 0]) ty25 rfl rfl) ?_
    refine o_bind ?_; intro H14 hH14
    refine f_op rfl rfl (s_stores ty25 rfl rfl rfl rfl hH14 (Nat.le_of_eq (sts_mono hH14).symm)) ?_
    refine f_nil ?_
    refine f_seq ?_
    refine f_region ?_
    refine f_op rfl rfl (s_makeFunc rfl rfl) ?_
    refine f_op rfl rfl (s_as (v := .fn 19 [] [.ptr H.n 0, .ptr H12.n 0, .ptr p11.2.n 0]) rfl) ?_
    refine f_nil ?_
    refine f_seq ?_
    refine f_seq ?_
    refine f_region ?_
    refine f_op rfl rfl (s_mv (v := .sl p11.1) rfl) ?_
    refine f_op rfl rfl (s_lenS rfl Tryd.underlying22 rfl) ?_
    refine f_op rfl rfl (s_mv (v := .int .i64 0) rfl) ?_
    refine f_nil ?_
    refine f_block ?_
    refine f_loop ?_
    refine f_keep [3, 4, 6, 8, 9, 11, 30, 31, 32] ?_
    exact s4_l0 happ FUEL H.n ((H.push (.cells [.int .i64 a1_0, .int .i64 a1_1] false)).n) p4.1.1 p11.1 p11.2.n H.n H12.n p11.2.n p11.1 (p11.1.len : Int) 0 H14

/- 24 slices.Clone[[][2]int,[2]int] -/
theorem ok24 : FnOk Tryd.prog 24 := ⟨⟨Tryd.f24, Tryd.func24, by kernel_rfl, rfl⟩⟩
theorem sim24 {a0 : Sl} {H : Hp} {p : Sl × Hp} (h : r24 a0 H = some p) : CallSim Tryd.prog 24 [.sl a0] H (.sl p.1) p.2 := by
  refine callSim (fn := Tryd.f24) (ret := ret24) Tryd.func24 rfl Tryd.ntmps24 rfl ?_ h
  unfold r24
  refine f_seq ?_
  refine f_region ?_
  refine f_op rfl rfl (s_as (v := .sl ⟨true, 0, 0, 0, 0, 0⟩) rfl) ?_
  refine f_nil ?_
  refine f_seq ?_
  refine f_seq ?_
  refine f_region ?_
  refine f_op rfl rfl (s_mv (v := .sl a0) rfl) ?_
  refine f_op rfl rfl (s_eqNil Tryd.underlying22 rfl rfl) ?_
  refine f_nil ?_
  refine f_if (fun h1 => ?_) (fun h1 => ?_)
  · skip
    refine f_know 4 rfl (bool_T h1) ?_
    refine f_condT rfl ?_
    refine f_seq ?_
    refine f_region ?_
    refine f_op rfl rfl (s_as (v := .sl ⟨true, 0, 0, 0, 0, 0⟩) rfl) ?_
    refine f_nil ?_
    exact f_ret (.tmp rfl (.nil)) rfl
  · skip
    refine f_know 4 rfl (bool_F h1) ?_
    refine f_condF rfl ?_
    refine f_skip ?_
    refine f_seq ?_
    refine f_region ?_
    refine f_op rfl rfl (s_buildSlice0 Tryd.underlying22 ty23) ?_
    refine f_op rfl rfl (s_mv (v := .sl a0) rfl) ?_
    refine o_bind ?_; intro x2 hx2
    refine o_ck fun g3 => ?_
    refine o_bind ?_; intro x4 hx4
    refine f_op rfl rfl (s_append rfl rfl Tryd.underlying22 Tryd.underlying22 ty23 (by decide) rfl (by decide) rfl rfl hx2 g3 hx4) ?_
    refine f_op rfl rfl (s_as (v := .sl x4.1) rfl) ?_
    refine f_nil ?_
    exact f_ret (.tmp rfl (.nil)) rfl

/- 5 congou/congoulaw05.list -/
theorem ok5 : FnOk Tryd.prog 5 := ⟨⟨Tryd.f5, Tryd.func5, by kernel_rfl, rfl⟩⟩
theorem sim5 {a0 : Sl} {H : Hp} {p : Sl × Hp} (h : r5 a0 H = some p) : CallSim Tryd.prog 5 [.sl a0] H (.sl p.1) p.2 := by
  refine callSim (fn := Tryd.f5) (ret := ret5) Tryd.func5 rfl Tryd.ntmps5 rfl ?_ h
  unfold r5
  refine f_seq ?_
  refine f_region ?_
  refine f_op rfl rfl (s_as (v := .sl ⟨true, 0, 0, 0, 0, 0⟩) rfl) ?_
  refine f_nil ?_
  refine f_seq ?_
  refine f_region ?_
  refine f_op rfl rfl (s_mv (v := .sl a0) rfl) ?_
  refine f_op rfl rfl (s_mv (v := .sl a0) rfl) ?_
  refine f_op rfl rfl (s_lenS rfl Tryd.underlying22 rfl) ?_
  refine f_op rfl rfl (s_min2 rfl rfl) ?_
  refine o_ck fun g1 => ?_
  refine f_op rfl rfl (s_slice Tryd.underlying22 ty23 rfl rfl rfl g1.1 g1.2) ?_
  refine o_bind ?_; intro p2 hp2
  refine f_op rfl rfl (s_callF rfl ok24 (sim24 hp2)) ?_
  refine f_op rfl rfl (s_as (v := .sl p2.1) rfl) ?_
  refine f_nil ?_
  exact f_ret (.tmp rfl (.nil)) rfl

/- 47 congou/deals.along -/
theorem ok47 : FnOk Tryd.prog 47 := ⟨⟨Tryd.f47, Tryd.func47, by kernel_rfl, rfl⟩⟩
theorem sim47 {a0 : Int} {a1_0 : Int} {a1_1 : Int} {a2_0 : Int} {a2_1 : Int} {H : Hp} {p : (Int × Int) × Hp} (h : r47 a0 a1_0 a1_1 a2_0 a2_1 H = some p) : CallSim Tryd.prog 47 [.int .i64 a0, .agg [.int .i64 a1_0, .int .i64 a1_1], .agg [.int .i64 a2_0, .int .i64 a2_1]] H (.agg [.int .i64 p.1.1, .int .i64 p.1.2]) p.2 := by
  refine callSim (fn := Tryd.f47) (ret := ret47) Tryd.func47 rfl Tryd.ntmps47 rfl ?_ h
  unfold r47
  refine f_seq ?_
  refine f_region ?_
  refine f_op rfl rfl (s_box (v := .agg [.int .i64 a1_0, .int .i64 a1_1]) rfl rfl) ?_
  refine f_op rfl rfl (s_box (v := .agg [.int .i64 a2_0, .int .i64 a2_1]) rfl rfl) ?_
  refine f_op rfl rfl (s_alloc (zs := [.int .i64 0, .int .i64 0]) ty25 rfl rfl) ?_
  refine o_hp ?_; intro H1 hH1
  refine f_nil ?_
  refine f_seq ?_
  refine f_region ?_
  refine f_op rfl rfl (s_fieldAddr Tryd.underlying25 rfl ty3 rfl) ?_
  refine o_bind ?_; intro x2 hx2
  refine f_op rfl rfl (s_load Tryd.underlying3 rfl rfl (ldI_eq hx2)) ?_
  refine f_op rfl rfl (s_fieldAddr Tryd.underlying25 rfl ty3 rfl) ?_
  refine o_bind ?_; intro x3 hx3
  refine f_op rfl rfl (s_load Tryd.underlying3 rfl rfl (ldI_eq hx3)) ?_
  refine f_op rfl rfl (s_mul rfl rfl) ?_
  refine f_op rfl rfl (s_fieldAddr Tryd.underlying25 rfl ty3 rfl) ?_
  refine o_bind ?_; intro x4 hx4
  refine f_op rfl rfl (s_load Tryd.underlying3 rfl rfl (ldI_eq hx4)) ?_
  refine f_op rfl rfl (s_fieldAddr Tryd.underlying25 rfl ty3 rfl) ?_
  refine o_bind ?_; intro x5 hx5
  refine f_op rfl rfl (s_load Tryd.underlying3 rfl rfl (ldI_eq hx5)) ?_
  refine f_op rfl rfl (s_mul rfl rfl) ?_
  refine o_bind ?_; intro p6 hp6
  refine f_op rfl rfl (s_callO rfl ok18 (sim18 hp6) rfl rfl) ?_
  refine f_op rfl rfl (s_alloc (zs := [.int .i64 0, .int .i64 0]) ty25 rfl rfl) ?_
  refine o_bind ?_; intro H7 hH7
  refine f_op rfl rfl (s_stores ty25 rfl rfl rfl rfl hH7 (Nat.le_of_eq (sts_mono hH7).symm)) ?_
  refine f_nil ?_
  refine f_seq ?_
  refine f_region ?_
  refine f_op rfl rfl (s_mv (v := .int .i64 a0) rfl) ?_
  refine f_op rfl rfl (s_fieldAddr Tryd.underlying25 rfl ty3 rfl) ?_
  refine o_bind ?_; intro x8 hx8
  refine f_op rfl rfl (s_load Tryd.underlying3 rfl rfl (ldI_eq hx8)) ?_
  refine f_op rfl rfl (s_mul rfl rfl) ?_
  refine f_op rfl rfl (s_fieldAddr Tryd.underlying25 rfl ty3 rfl) ?_
  refine o_bind ?_; intro x9 hx9
  refine f_op rfl rfl (s_load Tryd.underlying3 rfl rfl (ldI_eq hx9)) ?_
  refine f_op rfl rfl (s_add rfl rfl) ?_
  refine f_op rfl rfl (s_fieldAddr Tryd.underlying25 rfl ty3 rfl) ?_
  refine o_bind ?_; intro x10 hx10
  refine f_op rfl rfl (s_load Tryd.underlying3 rfl rfl (ldI_eq hx10)) ?_
  refine o_bind ?_; intro p11 hp11
  refine f_op rfl rfl (s_callO rfl ok18 (sim18 hp11) rfl rfl) ?_
  refine o_bind ?_; intro H12 hH12
  refine f_op rfl rfl (s_stores ty25 rfl rfl rfl rfl hH12 (Nat.le_of_eq (sts_mono hH12).symm)) ?_
  refine f_nil ?_
  refine f_bind ?_; intro x13 hx13
  refine f_bind ?_; intro x14 hx14
  exact f_ret (.cells Tryd.underlying25 rfl sz25 rfl (lds_cons (ldI_eq hx13) (lds_cons (ldI_eq hx14) (lds_nil))) (.nil)) rfl

/- 25 (congou/deals.offers).far -/
theorem ok25 : FnOk Tryd.prog 25 := ⟨⟨Tryd.f25, Tryd.func25, by kernel_rfl, rfl⟩⟩
theorem s25_j1 {app : App} (happ : AppSim Tryd.prog app) (kt0 : Nat → Nat → Nat → Nat → Nat → Sl → Int → Int → Hp → Option ((Int × Int × Int × Int) × Hp)) (hkt0 : ∀ (v1 : Nat) (v2 : Nat) (v3 : Nat) (v4 : Nat) (v5 : Nat) (v6 : Sl) (v7 : Int) (v8 : Int) (H : Hp), Fin Tryd.prog Tryd.f25 ret25 74 (todoAt (bodyOf Tryd.f25) [1, 1, 0, 1, 0, 0] []) [(5, .ptr v1 0), (6, .ptr v2 0), (7, .ptr v3 0), (8, .ptr v4 0), (9, .ptr v5 0), (16, .sl v6), (17, .int .i64 v7), (18, .int .i64 v8)] H (kt0 v1 v2 v3 v4 v5 v6 v7 v8 H)) (v1 : Nat) (v2 : Nat) (v3 : Nat) (v4 : Nat) (v5 : Nat) (v6 : Nat) (v7 : Sl) (v8 : Int) (v9 : Int) (v10 : Bool) (H : Hp) : Fin Tryd.prog Tryd.f25 ret25 74 (todoAt (bodyOf Tryd.f25) [1, 1, 0, 1, 0, 0, 1, 1, 0, 0, 1, 1, 1, 1, 1] []) [(5, .ptr v1 0), (6, .ptr v2 0), (7, .ptr v3 0), (8, .ptr v4 0), (9, .ptr v5 0), (13, .ptr v6 0), (16, .sl v7), (17, .int .i64 v8), (18, .int .i64 v9), (60, .bool v10)] H (r25_j1 app kt0 v1 v2 v3 v4 v5 v6 v7 v8 v9 v10 H) := by
  unfold r25_j1
  refine f_if (fun h1 => ?_) (fun h1 => ?_)
  · skip
    refine f_know 60 rfl (bool_T h1) ?_
    refine f_condT rfl ?_
    refine f_region ?_
    refine o_bind ?_; intro x2 hx2
    refine o_bind ?_; intro x3 hx3
    refine f_op rfl rfl (s_loads Tryd.underlying25 rfl ty25 rfl (lds_cons (ldI_eq hx2) (lds_cons (ldI_eq hx3) (lds_nil)))) ?_
    refine o_bind ?_; intro H4 hH4
    refine f_op rfl rfl (s_stores ty25 rfl rfl rfl rfl hH4 (Nat.le_of_eq (sts_mono hH4).symm)) ?_
    refine f_nil ?_
    refine f_inBlock ?_
    refine f_region ?_
    refine f_op rfl rfl (s_add rfl rfl) ?_
    refine f_op rfl rfl (s_mv (v := .int .i64 (w64 (v9 + 1))) rfl) ?_
    refine f_nil ?_
    refine f_inLoop ?_
    refine f_keep [5, 6, 7, 8, 9, 16, 17, 18] ?_
    exact hkt0 v1 v2 v3 v4 v5 v7 v8 (w64 (v9 + 1)) H4
  · skip
    refine f_know 60 rfl (bool_F h1) ?_
    refine f_condF rfl ?_
    refine f_skip ?_
    refine f_inBlock ?_
    refine f_region ?_
    refine f_op rfl rfl (s_add rfl rfl) ?_
    refine f_op rfl rfl (s_mv (v := .int .i64 (w64 (v9 + 1))) rfl) ?_
    refine f_nil ?_
    refine f_inLoop ?_
    refine f_keep [5, 6, 7, 8, 9, 16, 17, 18] ?_
    exact hkt0 v1 v2 v3 v4 v5 v7 v8 (w64 (v9 + 1)) H

theorem s25_l0 {app : App} (happ : AppSim Tryd.prog app) : ∀ (k_ : Nat) (v1 : Nat) (v2 : Nat) (v3 : Nat) (v4 : Nat) (v5 : Nat) (v6 : Sl) (v7 : Int) (v8 : Int) (H : Hp), Fin Tryd.prog Tryd.f25 ret25 74 (todoAt (bodyOf Tryd.f25) [1, 1, 0, 1, 0, 0] []) [(5, .ptr v1 0), (6, .ptr v2 0), (7, .ptr v3 0), (8, .ptr v4 0), (9, .ptr v5 0), (16, .sl v6), (17, .int .i64 v7), (18, .int .i64 v8)] H (r25_l0 app k_ v1 v2 v3 v4 v5 v6 v7 v8 H) := by
  intro k_
  induction k_ with
  | zero => intro _ _ _ _ _ _ _ _ _; exact f_none
  | succ k_ ih =>
    intro v1 v2 v3 v4 v5 v6 v7 v8 H
    rw [r25_l0]
    refine f_seq ?_
    refine f_region ?_
    refine f_op rfl rfl (s_lss rfl rfl) ?_
    refine f_nil ?_
    refine f_seq ?_
    refine f_if (fun h1 => ?_) (fun h1 => ?_)
    · skip
      refine f_know 19 rfl (dec_true h1) ?_
      refine f_condT rfl ?_
      refine f_skip ?_
      refine f_seq ?_
      refine f_block ?_
      refine f_seq ?_
      refine f_region ?_
      refine o_ck fun g2 => ?_
      refine f_op rfl rfl (s_idx Tryd.underlying50 ty49 rfl rfl g2) ?_
      refine o_bind ?_; intro x3 hx3
      refine o_bind ?_; intro x4 hx4
      refine o_bind ?_; intro x5 hx5
      refine f_op rfl rfl (s_loads Tryd.underlying49 rfl ty49 rfl (lds_cons (ldI_eq hx3) (lds_cons (ldI_eq hx4) (lds_cons (ldI_eq hx5) (lds_nil))))) ?_
      refine f_op rfl rfl (s_alloc (zs := [.int .i64 0, .int .i64 0, .int .i64 0]) ty49 rfl rfl) ?_
      refine o_bind ?_; intro H6 hH6
      refine f_op rfl rfl (s_stores ty49 rfl rfl rfl rfl hH6 (Nat.le_of_eq (sts_mono hH6).symm)) ?_
      refine f_nil ?_
      refine f_seq ?_
      refine f_region ?_
      refine f_op rfl rfl (s_fieldAddr Tryd.underlying49 rfl ty3 rfl) ?_
      refine o_bind ?_; intro x7 hx7
      refine f_op rfl rfl (s_load Tryd.underlying3 rfl rfl (ldI_eq hx7)) ?_
      refine f_op rfl rfl (s_fieldAddr Tryd.underlying25 rfl ty3 rfl) ?_
      refine o_bind ?_; intro x8 hx8
      refine f_op rfl rfl (s_load Tryd.underlying3 rfl rfl (ldI_eq hx8)) ?_
      refine f_op rfl rfl (s_mul rfl rfl) ?_
      refine f_op rfl rfl (s_fieldAddr Tryd.underlying25 rfl ty3 rfl) ?_
      refine o_bind ?_; intro x9 hx9
      refine f_op rfl rfl (s_load Tryd.underlying3 rfl rfl (ldI_eq hx9)) ?_
      refine f_op rfl rfl (s_mul rfl rfl) ?_
      refine f_op rfl rfl (s_fieldAddr Tryd.underlying49 rfl ty3 rfl) ?_
      refine o_bind ?_; intro x10 hx10
      refine f_op rfl rfl (s_load Tryd.underlying3 rfl rfl (ldI_eq hx10)) ?_
      refine f_op rfl rfl (s_fieldAddr Tryd.underlying25 rfl ty3 rfl) ?_
      refine o_bind ?_; intro x11 hx11
      refine f_op rfl rfl (s_load Tryd.underlying3 rfl rfl (ldI_eq hx11)) ?_
      refine f_op rfl rfl (s_mul rfl rfl) ?_
      refine f_op rfl rfl (s_fieldAddr Tryd.underlying25 rfl ty3 rfl) ?_
      refine o_bind ?_; intro x12 hx12
      refine f_op rfl rfl (s_load Tryd.underlying3 rfl rfl (ldI_eq hx12)) ?_
      refine f_op rfl rfl (s_mul rfl rfl) ?_
      refine f_op rfl rfl (s_add rfl rfl) ?_
      refine f_op rfl rfl (s_as (v := .int .i64 (w64 ((w64 ((w64 (x7 * x8)) * x9)) + (w64 ((w64 (x10 * x11)) * x12))))) rfl) ?_
      refine f_nil ?_
      refine f_seq ?_
      refine f_seq ?_
      refine f_region ?_
      refine f_op rfl rfl (s_mv (v := .int .i64 (w64 ((w64 ((w64 (x7 * x8)) * x9)) + (w64 ((w64 (x10 * x11)) * x12))))) rfl) ?_
      refine f_op rfl rfl (s_eql rfl rfl) ?_
      refine f_nil ?_
      refine f_if (fun h13 => ?_) (fun h13 => ?_)
      · skip
        refine f_know 40 rfl (dec_true h13) ?_
        refine f_condT rfl ?_
        refine f_exit rfl ?_
        refine f_region ?_
        refine f_op rfl rfl (s_add rfl rfl) ?_
        refine f_op rfl rfl (s_mv (v := .int .i64 (w64 (v8 + 1))) rfl) ?_
        refine f_nil ?_
        refine f_inLoop ?_
        refine f_keep [5, 6, 7, 8, 9, 16, 17, 18] ?_
        exact ih v1 v2 v3 v4 v5 v6 v7 (w64 (v8 + 1)) H6
      · skip
        refine f_know 40 rfl (dec_false h13) ?_
        refine f_condF rfl ?_
        refine f_skip ?_
        refine f_seq ?_
        refine f_bind ?_; intro x14 hx14
        refine f_bind ?_; intro x15 hx15
        refine f_bind ?_; intro x16 hx16
        refine f_bind ?_; intro x17 hx17
        refine f_bind ?_; intro x18 hx18
        refine f_bind ?_; intro p19 hp19
        refine f_bind ?_; intro x20 hx20
        refine f_bind ?_; intro x21 hx21
        refine f_bind ?_; intro p22 hp22
        refine f_bind ?_; intro H23 hH23
        refine f_drawF (Φ := fun _ => True) (lim := 1000000) [1, 1, 0, 0, 1, 0, 0, 1, 0, 0, 0, 2, 2] [false, false, false, false, false, false, false, false, false, false, false, true, false] 11 12 (Trc.read rfl rfl rfl (s_loads Tryd.underlying49 rfl ty49 rfl (lds_cons (ldI_eq hx14) (lds_cons (ldI_eq hx15) (lds_cons (ldI_eq hx16) (lds_nil))))) (Trc.read rfl rfl rfl (s_loads Tryd.underlying23 rfl ty23 rfl (lds_cons (ldI_eq hx17) (lds_cons (ldI_eq hx18) (lds_nil)))) (Trc.pure rfl rfl rfl (.inl fun _ => s_callO rfl ok39 (sim39 hp19) rfl rfl) (Trc.pure rfl rfl rfl (.inl fun _ => s_fieldAddr Tryd.underlying25 rfl ty3 rfl) (Trc.read rfl rfl rfl (s_load Tryd.underlying3 rfl rfl (ldI_eq hx20)) (Trc.pure rfl rfl rfl (.inl fun _ => s_mul rfl rfl) (Trc.pure rfl rfl rfl (.inl fun _ => s_fieldAddr Tryd.underlying25 rfl ty3 rfl) (Trc.read rfl rfl rfl (s_load Tryd.underlying3 rfl rfl (ldI_eq hx21)) (Trc.pure rfl rfl rfl (.inl fun _ => s_mul rfl rfl) (Trc.pure rfl rfl rfl (.inl fun _ => s_mv (v := .int .i64 (w64 ((w64 ((w64 (x7 * x8)) * x9)) + (w64 ((w64 (x10 * x11)) * x12))))) rfl) (Trc.pure rfl rfl rfl (.inl fun _ => s_callO rfl ok18 (sim18 hp22) rfl rfl) (Trc.fl .p rfl rfl rfl (fun _ => trivial) rfl (by rfl) (fun _ => s_alloc (zs := [.int .i64 0, .int .i64 0]) ty25 rfl rfl) (Trc.eff rfl rfl rfl (fun _ => trivial) (s_stores ty25 rfl rfl rfl rfl hH23 (Nat.le_of_eq (sts_mono hH23).symm)) (Trc.nil (fun _ => trivial))))))))))))))) rfl rfl (by decide +kernel) mixed ?_
        refine f_seq ?_
        refine f_region ?_
        refine f_op rfl rfl (s_fieldAddr Tryd.underlying25 rfl ty3 rfl) ?_
        refine o_bind ?_; intro x24 hx24
        refine f_op rfl rfl (s_load Tryd.underlying3 rfl rfl (ldI_eq hx24)) ?_
        refine f_op rfl rfl (s_eql rfl rfl) ?_
        refine f_op rfl rfl (s_mv (v := .bool (decide (x24 = 0))) rfl) ?_
        refine o_if (fun h25 => ?_) (fun h25 => ?_)
        · skip
          refine o_know 55 rfl (dec_true h25) ?_
          refine f_no rfl rfl ?_
          refine f_no rfl rfl ?_
          refine f_no rfl rfl ?_
          refine f_no rfl rfl ?_
          refine f_op rfl rfl (s_pickT (v := .bool true) rfl rfl) ?_
          refine f_nil ?_
          refine f_keep [5, 6, 7, 8, 9, 13, 16, 17, 18, 60] ?_
          exact s25_j1 happ _ (fun v1_ v2_ v3_ v4_ v5_ v6_ v7_ v8_ H_ => ih v1_ v2_ v3_ v4_ v5_ v6_ v7_ v8_ H_) v1 v2 v3 v4 v5 H6.n v6 v7 v8 true H23
        · skip
          refine o_know 55 rfl (dec_false h25) ?_
          refine o_bind ?_; intro x26 hx26
          refine o_bind ?_; intro x27 hx27
          refine f_op rfl rfl (s_loads Tryd.underlying25 rfl ty25 rfl (lds_cons (ldI_eq hx26) (lds_cons (ldI_eq hx27) (lds_nil)))) ?_
          refine o_bind ?_; intro x28 hx28
          refine o_bind ?_; intro x29 hx29
          refine f_op rfl rfl (s_loads Tryd.underlying25 rfl ty25 rfl (lds_cons (ldI_eq hx28) (lds_cons (ldI_eq hx29) (lds_nil)))) ?_
          refine o_bind ?_; intro p30 hp30
          refine f_op rfl rfl (s_callO rfl ok21 (sim21 hp30) rfl rfl) ?_
          refine f_op rfl rfl (s_lss rfl rfl) ?_
          refine f_op rfl rfl (s_pickF (v := .bool (decide (p30.1 < 0))) rfl rfl) ?_
          refine f_nil ?_
          refine f_keep [5, 6, 7, 8, 9, 13, 16, 17, 18, 60] ?_
          exact s25_j1 happ _ (fun v1_ v2_ v3_ v4_ v5_ v6_ v7_ v8_ H_ => ih v1_ v2_ v3_ v4_ v5_ v6_ v7_ v8_ H_) v1 v2 v3 v4 v5 H6.n v6 v7 v8 (decide (p30.1 < 0)) H23
    · skip
      refine f_know 19 rfl (dec_false h1) ?_
      refine f_condF rfl ?_
      refine f_exit rfl ?_
      refine f_seq ?_
      refine f_bind ?_; intro x31 hx31
      refine f_bind ?_; intro x32 hx32
      refine f_bind ?_; intro x33 hx33
      refine f_bind ?_; intro x34 hx34
      refine f_bind ?_; intro x35 hx35
      refine f_bind ?_; intro p36 hp36
      refine f_bind ?_; intro x37 hx37
      refine f_bind ?_; intro x38 hx38
      refine f_bind ?_; intro x39 hx39
      refine f_bind ?_; intro x40 hx40
      refine f_bind ?_; intro x41 hx41
      refine f_bind ?_; intro p42 hp42
      refine f_bind ?_; intro H43 hH43
      refine f_draw (Φ := fun _ => True) (lim := 1000000) [0, 1, 1, 1, 0, 0, 1, 1, 1, 0, 0, 2] (Trc.pure rfl rfl rfl (.inl fun _ => s_idxA Tryd.underlying23 ty3 rfl rfl (by decide)) (Trc.read rfl rfl rfl (s_load Tryd.underlying3 rfl rfl (ldI_eq hx31)) (Trc.read rfl rfl rfl (s_loads Tryd.underlying25 rfl ty25 rfl (lds_cons (ldI_eq hx32) (lds_cons (ldI_eq hx33) (lds_nil)))) (Trc.read rfl rfl rfl (s_loads Tryd.underlying25 rfl ty25 rfl (lds_cons (ldI_eq hx34) (lds_cons (ldI_eq hx35) (lds_nil)))) (Trc.pure rfl rfl rfl (.inl fun _ => s_callO rfl ok47 (sim47 hp36) rfl rfl) (Trc.pure rfl rfl rfl (.inl fun _ => s_idxA Tryd.underlying23 ty3 rfl rfl (by decide)) (Trc.read rfl rfl rfl (s_load Tryd.underlying3 rfl rfl (ldI_eq hx37)) (Trc.read rfl rfl rfl (s_loads Tryd.underlying25 rfl ty25 rfl (lds_cons (ldI_eq hx38) (lds_cons (ldI_eq hx39) (lds_nil)))) (Trc.read rfl rfl rfl (s_loads Tryd.underlying25 rfl ty25 rfl (lds_cons (ldI_eq hx40) (lds_cons (ldI_eq hx41) (lds_nil)))) (Trc.pure rfl rfl rfl (.inl fun _ => s_callO rfl ok47 (sim47 hp42) rfl rfl) (Trc.pure rfl rfl rfl (.inl fun _ => s_build (cs := [.int .i64 p36.1.1, .int .i64 p36.1.2, .int .i64 p42.1.1, .int .i64 p42.1.2]) Tryd.underlying27 ty27 rfl pl27 rfl) (Trc.eff rfl rfl rfl (fun _ => trivial) (s_stores ty27 rfl rfl rfl rfl hH43 (Nat.le_of_eq (sts_mono hH43).symm)) (Trc.nil (fun _ => trivial)))))))))))))) rfl (by decide +kernel) mixed ?_
      refine f_bind ?_; intro x44 hx44
      refine f_bind ?_; intro x45 hx45
      refine f_bind ?_; intro x46 hx46
      refine f_bind ?_; intro x47 hx47
      exact f_ret (.cells Tryd.underlying27 rfl sz27 rfl (lds_cons (ldI_eq hx44) (lds_cons (ldI_eq hx45) (lds_cons (ldI_eq hx46) (lds_cons (ldI_eq hx47) (lds_nil))))) (.nil)) rfl

theorem sim25 {app : App} (happ : AppSim Tryd.prog app) {a0 : Sl} {a1_0 : Int} {a1_1 : Int} {a2_0 : Int} {a2_1 : Int} {a3_0 : Int} {a3_1 : Int} {H : Hp} {p : (Int × Int × Int × Int) × Hp} (h : r25 app a0 a1_0 a1_1 a2_0 a2_1 a3_0 a3_1 H = some p) : CallSim Tryd.prog 25 [.sl a0, .agg [.int .i64 a1_0, .int .i64 a1_1], .agg [.int .i64 a2_0, .int .i64 a2_1], .agg [.int .i64 a3_0, .int .i64 a3_1]] H (.agg [.int .i64 p.1.1, .int .i64 p.1.2.1, .int .i64 p.1.2.2.1, .int .i64 p.1.2.2.2]) p.2 := by
  refine callSim (fn := Tryd.f25) (ret := ret25) Tryd.func25 rfl Tryd.ntmps25 rfl ?_ h
  unfold r25
  refine f_seq ?_
  refine f_region ?_
  refine f_op rfl rfl (s_box (v := .agg [.int .i64 a1_0, .int .i64 a1_1]) rfl rfl) ?_
  refine f_op rfl rfl (s_box (v := .agg [.int .i64 a2_0, .int .i64 a2_1]) rfl rfl) ?_
  refine f_op rfl rfl (s_box (v := .agg [.int .i64 a3_0, .int .i64 a3_1]) rfl rfl) ?_
  refine f_op rfl rfl (s_alloc (zs := [.int .i64 0, .int .i64 0, .int .i64 0, .int .i64 0]) ty27 rfl rfl) ?_
  refine o_hp ?_; intro H1 hH1
  refine f_nil ?_
  refine f_seq ?_
  refine f_region ?_
  refine f_op rfl rfl (s_build (cs := [.int .i64 0, .int .i64 0]) Tryd.underlying25 ty25 rfl pl25 rfl) ?_
  refine f_op rfl rfl (s_alloc (zs := [.int .i64 0, .int .i64 0]) ty25 rfl rfl) ?_
  refine o_bind ?_; intro H2 hH2
  refine f_op rfl rfl (s_stores ty25 rfl rfl rfl rfl hH2 (Nat.le_of_eq (sts_mono hH2).symm)) ?_
  refine f_nil ?_
  refine f_seq ?_
  refine f_seq ?_
  refine f_region ?_
  refine f_op rfl rfl (s_mv (v := .sl a0) rfl) ?_
  refine o_bind ?_; intro p3 hp3
  refine f_op rfl rfl (s_callF rfl ok22 (sim22 happ hp3)) ?_
  refine f_op rfl rfl (s_lenS rfl Tryd.underlying50 rfl) ?_
  refine f_op rfl rfl (s_mv (v := .int .i64 0) rfl) ?_
  refine f_nil ?_
  refine f_block ?_
  refine f_loop ?_
  refine f_keep [5, 6, 7, 8, 9, 16, 17, 18] ?_
  exact s25_l0 happ FUEL H.n ((H.push (.cells [.int .i64 a1_0, .int .i64 a1_1] false)).n) (((H.push (.cells [.int .i64 a1_0, .int .i64 a1_1] false)).push (.cells [.int .i64 a2_0, .int .i64 a2_1] false)).n) ((((H.push (.cells [.int .i64 a1_0, .int .i64 a1_1] false)).push (.cells [.int .i64 a2_0, .int .i64 a2_1] false)).push (.cells [.int .i64 a3_0, .int .i64 a3_1] false)).n) H1.n p3.1 (p3.1.len : Int) 0 p3.2

/- 26 (congou/deals.offers).reach -/
theorem ok26 : FnOk Tryd.prog 26 := ⟨⟨Tryd.f26, Tryd.func26, by kernel_rfl, rfl⟩⟩
theorem s26_j1 {app : App} (happ : AppSim Tryd.prog app) (kt0 : Int → Nat → Nat → Nat → Sl → Int → Int → Hp → Option ((Int × Int) × Hp)) (hkt0 : ∀ (v1 : Int) (v2 : Nat) (v3 : Nat) (v4 : Nat) (v5 : Sl) (v6 : Int) (v7 : Int) (H : Hp), Fin Tryd.prog Tryd.f26 ret26 46 (todoAt (bodyOf Tryd.f26) [1, 1, 0, 1, 0, 0] []) [(2, .int .i64 v1), (4, .ptr v2 0), (6, .ptr v3 0), (7, .ptr v4 0), (14, .sl v5), (15, .int .i64 v6), (16, .int .i64 v7)] H (kt0 v1 v2 v3 v4 v5 v6 v7 H)) (v1 : Int) (v2 : Nat) (v3 : Nat) (v4 : Nat) (v5 : Nat) (v6 : Sl) (v7 : Int) (v8 : Int) (v9 : Bool) (H : Hp) : Fin Tryd.prog Tryd.f26 ret26 46 (todoAt (bodyOf Tryd.f26) [1, 1, 0, 1, 0, 0, 1, 1, 0, 0, 1, 1, 1, 1, 1] []) [(2, .int .i64 v1), (4, .ptr v2 0), (6, .ptr v3 0), (7, .ptr v4 0), (11, .ptr v5 0), (14, .sl v6), (15, .int .i64 v7), (16, .int .i64 v8), (42, .bool v9)] H (r26_j1 app kt0 v1 v2 v3 v4 v5 v6 v7 v8 v9 H) := by
  unfold r26_j1
  refine f_if (fun h1 => ?_) (fun h1 => ?_)
  · skip
    refine f_know 42 rfl (bool_T h1) ?_
    refine f_condT rfl ?_
    refine f_region ?_
    refine o_bind ?_; intro x2 hx2
    refine o_bind ?_; intro x3 hx3
    refine f_op rfl rfl (s_loads Tryd.underlying25 rfl ty25 rfl (lds_cons (ldI_eq hx2) (lds_cons (ldI_eq hx3) (lds_nil)))) ?_
    refine o_bind ?_; intro H4 hH4
    refine f_op rfl rfl (s_stores ty25 rfl rfl rfl rfl hH4 (Nat.le_of_eq (sts_mono hH4).symm)) ?_
    refine f_nil ?_
    refine f_inBlock ?_
    refine f_region ?_
    refine f_op rfl rfl (s_add rfl rfl) ?_
    refine f_op rfl rfl (s_mv (v := .int .i64 (w64 (v8 + 1))) rfl) ?_
    refine f_nil ?_
    refine f_inLoop ?_
    refine f_keep [2, 4, 6, 7, 14, 15, 16] ?_
    exact hkt0 v1 v2 v3 v4 v6 v7 (w64 (v8 + 1)) H4
  · skip
    refine f_know 42 rfl (bool_F h1) ?_
    refine f_condF rfl ?_
    refine f_skip ?_
    refine f_inBlock ?_
    refine f_region ?_
    refine f_op rfl rfl (s_add rfl rfl) ?_
    refine f_op rfl rfl (s_mv (v := .int .i64 (w64 (v8 + 1))) rfl) ?_
    refine f_nil ?_
    refine f_inLoop ?_
    refine f_keep [2, 4, 6, 7, 14, 15, 16] ?_
    exact hkt0 v1 v2 v3 v4 v6 v7 (w64 (v8 + 1)) H

theorem s26_l0 {app : App} (happ : AppSim Tryd.prog app) : ∀ (k_ : Nat) (v1 : Int) (v2 : Nat) (v3 : Nat) (v4 : Nat) (v5 : Sl) (v6 : Int) (v7 : Int) (H : Hp), Fin Tryd.prog Tryd.f26 ret26 46 (todoAt (bodyOf Tryd.f26) [1, 1, 0, 1, 0, 0] []) [(2, .int .i64 v1), (4, .ptr v2 0), (6, .ptr v3 0), (7, .ptr v4 0), (14, .sl v5), (15, .int .i64 v6), (16, .int .i64 v7)] H (r26_l0 app k_ v1 v2 v3 v4 v5 v6 v7 H) := by
  intro k_
  induction k_ with
  | zero => intro _ _ _ _ _ _ _ _; exact f_none
  | succ k_ ih =>
    intro v1 v2 v3 v4 v5 v6 v7 H
    rw [r26_l0]
    refine f_seq ?_
    refine f_region ?_
    refine f_op rfl rfl (s_lss rfl rfl) ?_
    refine f_nil ?_
    refine f_seq ?_
    refine f_if (fun h1 => ?_) (fun h1 => ?_)
    · skip
      refine f_know 17 rfl (dec_true h1) ?_
      refine f_condT rfl ?_
      refine f_skip ?_
      refine f_seq ?_
      refine f_block ?_
      refine f_seq ?_
      refine f_region ?_
      refine o_ck fun g2 => ?_
      refine f_op rfl rfl (s_idx Tryd.underlying50 ty49 rfl rfl g2) ?_
      refine o_bind ?_; intro x3 hx3
      refine o_bind ?_; intro x4 hx4
      refine o_bind ?_; intro x5 hx5
      refine f_op rfl rfl (s_loads Tryd.underlying49 rfl ty49 rfl (lds_cons (ldI_eq hx3) (lds_cons (ldI_eq hx4) (lds_cons (ldI_eq hx5) (lds_nil))))) ?_
      refine f_op rfl rfl (s_alloc (zs := [.int .i64 0, .int .i64 0, .int .i64 0]) ty49 rfl rfl) ?_
      refine o_bind ?_; intro H6 hH6
      refine f_op rfl rfl (s_stores ty49 rfl rfl rfl rfl hH6 (Nat.le_of_eq (sts_mono hH6).symm)) ?_
      refine f_nil ?_
      refine f_seq ?_
      refine f_region ?_
      refine f_op rfl rfl (s_fieldAddr Tryd.underlying49 rfl ty3 rfl) ?_
      refine o_bind ?_; intro x7 hx7
      refine f_op rfl rfl (s_load Tryd.underlying3 rfl rfl (ldI_eq hx7)) ?_
      refine f_op rfl rfl (s_fieldAddr Tryd.underlying49 rfl ty3 rfl) ?_
      refine o_bind ?_; intro x8 hx8
      refine f_op rfl rfl (s_load Tryd.underlying3 rfl rfl (ldI_eq hx8)) ?_
      refine f_op rfl rfl (s_buildA (cs := [.int .i64 x7, .int .i64 x8]) Tryd.underlying23 ty23 ty3 rfl rfl) ?_
      refine f_op rfl rfl (s_mv (v := .int .i64 v1) rfl) ?_
      refine o_ck fun g9 => ?_
      refine o_bind ?_; intro x10 hx10
      refine o_bind ?_; intro x11 hx11
      refine f_op rfl rfl (s_index Tryd.underlying23 Tryd.underlying3 ty3 rfl rfl g9 hx10) ?_
      refine o_know 26 rfl (asI_eq hx11) ?_
      refine f_op rfl rfl (s_as (v := .int .i64 x11) rfl) ?_
      refine f_nil ?_
      refine f_seq ?_
      refine f_seq ?_
      refine f_region ?_
      refine f_op rfl rfl (s_mv (v := .int .i64 x11) rfl) ?_
      refine f_op rfl rfl (s_eql rfl rfl) ?_
      refine f_nil ?_
      refine f_if (fun h12 => ?_) (fun h12 => ?_)
      · skip
        refine f_know 28 rfl (dec_true h12) ?_
        refine f_condT rfl ?_
        refine f_exit rfl ?_
        refine f_region ?_
        refine f_op rfl rfl (s_add rfl rfl) ?_
        refine f_op rfl rfl (s_mv (v := .int .i64 (w64 (v7 + 1))) rfl) ?_
        refine f_nil ?_
        refine f_inLoop ?_
        refine f_keep [2, 4, 6, 7, 14, 15, 16] ?_
        exact ih v1 v2 v3 v4 v5 v6 (w64 (v7 + 1)) H6
      · skip
        refine f_know 28 rfl (dec_false h12) ?_
        refine f_condF rfl ?_
        refine f_skip ?_
        refine f_seq ?_
        refine f_region ?_
        refine o_bind ?_; intro x13 hx13
        refine o_bind ?_; intro x14 hx14
        refine o_bind ?_; intro x15 hx15
        refine f_op rfl rfl (s_loads Tryd.underlying49 rfl ty49 rfl (lds_cons (ldI_eq hx13) (lds_cons (ldI_eq hx14) (lds_cons (ldI_eq hx15) (lds_nil))))) ?_
        refine o_bind ?_; intro x16 hx16
        refine o_bind ?_; intro x17 hx17
        refine f_op rfl rfl (s_loads Tryd.underlying23 rfl ty23 rfl (lds_cons (ldI_eq hx16) (lds_cons (ldI_eq hx17) (lds_nil)))) ?_
        refine o_bind ?_; intro p18 hp18
        refine f_op rfl rfl (s_callO rfl ok39 (sim39 hp18) rfl rfl) ?_
        refine f_op rfl rfl (s_mv (v := .int .i64 x11) rfl) ?_
        refine o_bind ?_; intro p19 hp19
        refine f_op rfl rfl (s_callO rfl ok18 (sim18 hp19) rfl rfl) ?_
        refine f_op rfl rfl (s_alloc (zs := [.int .i64 0, .int .i64 0]) ty25 rfl rfl) ?_
        refine o_bind ?_; intro H20 hH20
        refine f_op rfl rfl (s_stores ty25 rfl rfl rfl rfl hH20 (Nat.le_of_eq (sts_mono hH20).symm)) ?_
        refine f_nil ?_
        refine f_seq ?_
        refine f_region ?_
        refine f_op rfl rfl (s_fieldAddr Tryd.underlying25 rfl ty3 rfl) ?_
        refine o_bind ?_; intro x21 hx21
        refine f_op rfl rfl (s_load Tryd.underlying3 rfl rfl (ldI_eq hx21)) ?_
        refine f_op rfl rfl (s_eql rfl rfl) ?_
        refine f_op rfl rfl (s_mv (v := .bool (decide (x21 = 0))) rfl) ?_
        refine o_if (fun h22 => ?_) (fun h22 => ?_)
        · skip
          refine o_know 37 rfl (dec_true h22) ?_
          refine f_no rfl rfl ?_
          refine f_no rfl rfl ?_
          refine f_no rfl rfl ?_
          refine f_no rfl rfl ?_
          refine f_op rfl rfl (s_pickT (v := .bool true) rfl rfl) ?_
          refine f_nil ?_
          refine f_keep [2, 4, 6, 7, 11, 14, 15, 16, 42] ?_
          exact s26_j1 happ _ (fun v1_ v2_ v3_ v4_ v5_ v6_ v7_ H_ => ih v1_ v2_ v3_ v4_ v5_ v6_ v7_ H_) v1 v2 v3 v4 H6.n v5 v6 v7 true H20
        · skip
          refine o_know 37 rfl (dec_false h22) ?_
          refine o_bind ?_; intro x23 hx23
          refine o_bind ?_; intro x24 hx24
          refine f_op rfl rfl (s_loads Tryd.underlying25 rfl ty25 rfl (lds_cons (ldI_eq hx23) (lds_cons (ldI_eq hx24) (lds_nil)))) ?_
          refine o_bind ?_; intro x25 hx25
          refine o_bind ?_; intro x26 hx26
          refine f_op rfl rfl (s_loads Tryd.underlying25 rfl ty25 rfl (lds_cons (ldI_eq hx25) (lds_cons (ldI_eq hx26) (lds_nil)))) ?_
          refine o_bind ?_; intro p27 hp27
          refine f_op rfl rfl (s_callO rfl ok21 (sim21 hp27) rfl rfl) ?_
          refine f_op rfl rfl (s_lss rfl rfl) ?_
          refine f_op rfl rfl (s_pickF (v := .bool (decide (p27.1 < 0))) rfl rfl) ?_
          refine f_nil ?_
          refine f_keep [2, 4, 6, 7, 11, 14, 15, 16, 42] ?_
          exact s26_j1 happ _ (fun v1_ v2_ v3_ v4_ v5_ v6_ v7_ H_ => ih v1_ v2_ v3_ v4_ v5_ v6_ v7_ H_) v1 v2 v3 v4 H6.n v5 v6 v7 (decide (p27.1 < 0)) H20
    · skip
      refine f_know 17 rfl (dec_false h1) ?_
      refine f_condF rfl ?_
      refine f_exit rfl ?_
      refine f_seq ?_
      refine f_region ?_
      refine o_bind ?_; intro x28 hx28
      refine o_bind ?_; intro x29 hx29
      refine f_op rfl rfl (s_loads Tryd.underlying25 rfl ty25 rfl (lds_cons (ldI_eq hx28) (lds_cons (ldI_eq hx29) (lds_nil)))) ?_
      refine o_bind ?_; intro H30 hH30
      refine f_op rfl rfl (s_stores ty25 rfl rfl rfl rfl hH30 (Nat.le_of_eq (sts_mono hH30).symm)) ?_
      refine f_nil ?_
      refine f_bind ?_; intro x31 hx31
      refine f_bind ?_; intro x32 hx32
      exact f_ret (.cells Tryd.underlying25 rfl sz25 rfl (lds_cons (ldI_eq hx31) (lds_cons (ldI_eq hx32) (lds_nil))) (.nil)) rfl

theorem sim26 {app : App} (happ : AppSim Tryd.prog app) {a0 : Sl} {a1_0 : Int} {a1_1 : Int} {a2 : Int} {H : Hp} {p : (Int × Int) × Hp} (h : r26 app a0 a1_0 a1_1 a2 H = some p) : CallSim Tryd.prog 26 [.sl a0, .agg [.int .i64 a1_0, .int .i64 a1_1], .int .i64 a2] H (.agg [.int .i64 p.1.1, .int .i64 p.1.2]) p.2 := by
  refine callSim (fn := Tryd.f26) (ret := ret26) Tryd.func26 rfl Tryd.ntmps26 rfl ?_ h
  unfold r26
  refine f_seq ?_
  refine f_region ?_
  refine f_op rfl rfl (s_box (v := .agg [.int .i64 a1_0, .int .i64 a1_1]) rfl rfl) ?_
  refine f_op rfl rfl (s_alloc (zs := [.int .i64 0, .int .i64 0]) ty25 rfl rfl) ?_
  refine o_hp ?_; intro H1 hH1
  refine f_nil ?_
  refine f_seq ?_
  refine f_region ?_
  refine f_op rfl rfl (s_build (cs := [.int .i64 0, .int .i64 0]) Tryd.underlying25 ty25 rfl pl25 rfl) ?_
  refine f_op rfl rfl (s_alloc (zs := [.int .i64 0, .int .i64 0]) ty25 rfl rfl) ?_
  refine o_bind ?_; intro H2 hH2
  refine f_op rfl rfl (s_stores ty25 rfl rfl rfl rfl hH2 (Nat.le_of_eq (sts_mono hH2).symm)) ?_
  refine f_nil ?_
  refine f_seq ?_
  refine f_seq ?_
  refine f_region ?_
  refine f_op rfl rfl (s_mv (v := .sl a0) rfl) ?_
  refine o_bind ?_; intro p3 hp3
  refine f_op rfl rfl (s_callF rfl ok22 (sim22 happ hp3)) ?_
  refine f_op rfl rfl (s_lenS rfl Tryd.underlying50 rfl) ?_
  refine f_op rfl rfl (s_mv (v := .int .i64 0) rfl) ?_
  refine f_nil ?_
  refine f_block ?_
  refine f_loop ?_
  refine f_keep [2, 4, 6, 7, 14, 15, 16] ?_
  exact s26_l0 happ FUEL a2 H.n ((H.push (.cells [.int .i64 a1_0, .int .i64 a1_1] false)).n) H1.n p3.1 (p3.1.len : Int) 0 p3.2

/- 6 congou/deals.Best -/
theorem ok6 : FnOk Tryd.prog 6 := ⟨⟨Tryd.f6, Tryd.func6, by kernel_rfl, rfl⟩⟩
theorem sim6 {app : App} (happ : AppSim Tryd.prog app) {a0 : Sl} {a1_0 : Int} {a1_1 : Int} {H : Hp} {p : (Int × Int × Int × Int × Int) × Hp} (h : r6 app a0 a1_0 a1_1 H = some p) : CallSim Tryd.prog 6 [.sl a0, .agg [.int .i64 a1_0, .int .i64 a1_1]] H (.tup [.agg [.int .i64 p.1.1, .int .i64 p.1.2.1, .int .i64 p.1.2.2.1, .int .i64 p.1.2.2.2.1], .int .i64 p.1.2.2.2.2]) p.2 := by
  refine callSim (fn := Tryd.f6) (ret := ret6) Tryd.func6 rfl Tryd.ntmps6 rfl ?_ h
  unfold r6
  refine f_seq ?_
  refine f_region ?_
  refine f_op rfl rfl (s_box (v := .agg [.int .i64 a1_0, .int .i64 a1_1]) rfl rfl) ?_
  refine f_op rfl rfl (s_alloc (zs := [.int .i64 0, .int .i64 0, .int .i64 0, .int .i64 0]) ty27 rfl rfl) ?_
  refine f_op rfl rfl (s_as (v := .int .i64 0) rfl) ?_
  refine o_hp ?_; intro H1 hH1
  refine f_nil ?_
  refine f_seq ?_
  refine f_region ?_
  refine f_op rfl rfl (s_mv (v := .sl a0) rfl) ?_
  refine o_bind ?_; intro x2 hx2
  refine o_bind ?_; intro x3 hx3
  refine f_op rfl rfl (s_loads Tryd.underlying23 rfl ty23 rfl (lds_cons (ldI_eq hx2) (lds_cons (ldI_eq hx3) (lds_nil)))) ?_
  refine o_bind ?_; intro p4 hp4
  refine f_op rfl rfl (s_callF rfl ok16 (sim16 happ hp4)) ?_
  refine f_op rfl rfl (s_mv (v := .tup [.sl p4.1.1, .int .i64 p4.1.2]) rfl) ?_
  refine f_op rfl rfl (s_extract (r := .sl p4.1.1) rfl rfl) ?_
  refine f_op rfl rfl (s_extract (r := .int .i64 p4.1.2) rfl rfl) ?_
  refine f_op rfl rfl (s_as (v := .sl p4.1.1) rfl) ?_
  refine f_op rfl rfl (s_as (v := .int .i64 p4.1.2) rfl) ?_
  refine f_nil ?_
  refine f_seq ?_
  refine f_seq ?_
  refine f_region ?_
  refine f_op rfl rfl (s_mv (v := .int .i64 p4.1.2) rfl) ?_
  refine f_op rfl rfl (s_neq rfl rfl) ?_
  refine f_nil ?_
  refine f_if (fun h5 => ?_) (fun h5 => ?_)
  · skip
    refine f_know 15 rfl (dec_true h5) ?_
    refine f_condT rfl ?_
    refine f_seq ?_
    refine f_region ?_
    refine f_op rfl rfl (s_build (cs := [.int .i64 0, .int .i64 0, .int .i64 0, .int .i64 0]) Tryd.underlying27 ty27 rfl pl27 rfl) ?_
    refine f_op rfl rfl (s_mv (v := .int .i64 p4.1.2) rfl) ?_
    refine o_bind ?_; intro H6 hH6
    refine f_op rfl rfl (s_stores ty27 rfl rfl rfl rfl hH6 (Nat.le_of_eq (sts_mono hH6).symm)) ?_
    refine f_op rfl rfl (s_as (v := .int .i64 p4.1.2) rfl) ?_
    refine f_nil ?_
    refine f_bind ?_; intro x7 hx7
    refine f_bind ?_; intro x8 hx8
    refine f_bind ?_; intro x9 hx9
    refine f_bind ?_; intro x10 hx10
    exact f_ret (.cells Tryd.underlying27 rfl sz27 rfl (lds_cons (ldI_eq hx7) (lds_cons (ldI_eq hx8) (lds_cons (ldI_eq hx9) (lds_cons (ldI_eq hx10) (lds_nil))))) (.tmp rfl (.nil))) rfl
  · skip
    refine f_know 15 rfl (dec_false h5) ?_
    refine f_condF rfl ?_
    refine f_skip ?_
    refine f_seq ?_
    refine f_bind ?_; intro x11 hx11
    refine f_bind ?_; intro x12 hx12
    refine f_bind ?_; intro x13 hx13
    refine f_bind ?_; intro x14 hx14
    refine f_bind ?_; intro p15 hp15
    refine f_bind ?_; intro x16 hx16
    refine f_bind ?_; intro x17 hx17
    refine f_bind ?_; intro p18 hp18
    refine f_bind ?_; intro p19 hp19
    refine f_bind ?_; intro H20 hH20
    refine f_ck fun g21 => ?_
    refine f_ck fun g22 => ?_
    refine f_ck fun g23 => ?_
    refine f_ck fun g24 => ?_
    refine f_ck fun g25 => ?_
    refine f_ck fun g26 => ?_
    refine f_ck fun g27 => ?_
    refine f_ck fun g28 => ?_
    refine f_draw (Φ := fun H_ => H_.ld H.n 0 = some (.int .i64 x11) ∧ H_.ld H.n (0 + 1) = some (.int .i64 x12) ∧ H_.ld H.n 0 = some (.int .i64 x16) ∧ H_.ld H.n (0 + 1) = some (.int .i64 x17)) (lim := 8) [0, 0, 0, 1, 2, 0, 0, 2, 2, 2, 0] (Trc.pure rfl rfl rfl (.inl fun _ => s_mv (v := .sl p4.1.1) rfl) (Trc.pure rfl rfl rfl (.inr ⟨by decide +kernel, fun _ hp_ => s_loads Tryd.underlying23 rfl ty23 rfl (lds_cons hp_.1 (lds_cons hp_.2.1 (lds_nil)))⟩) (Trc.pure rfl rfl rfl (.inl fun _ => s_mv (v := .sl p4.1.1) rfl) (Trc.read rfl rfl rfl (s_loads Tryd.underlying23 rfl ty23 rfl (lds_cons (ldI_eq hx13) (lds_cons (ldI_eq hx14) (lds_nil)))) (Trc.eff rfl rfl rfl (fun _ => ⟨ldI_eq hx11, ldI_eq hx12, ldI_eq g21, ldI_eq g22⟩) (s_callF rfl ok26 (sim26 happ hp15)) (Trc.pure rfl rfl rfl (.inl fun _ => s_mv (v := .sl p4.1.1) rfl) (Trc.pure rfl rfl rfl (.inr ⟨by decide +kernel, fun _ hp_ => s_loads Tryd.underlying23 rfl ty23 rfl (lds_cons hp_.2.2.1 (lds_cons hp_.2.2.2 (lds_nil)))⟩) (Trc.eff rfl rfl rfl (fun _ => ⟨ldI_eq g23, ldI_eq g24, ldI_eq hx16, ldI_eq hx17⟩) (s_callF rfl ok26 (sim26 happ hp18)) (Trc.eff rfl rfl rfl (fun _ => ⟨ldI_eq g25, ldI_eq g26, ldI_eq g27, ldI_eq g28⟩) (s_callF rfl ok25 (sim25 happ hp19)) (Trc.eff rfl rfl rfl (fun h_ => absurd h_ (by decide +kernel)) (s_stores ty27 rfl rfl rfl rfl hH20 (Nat.le_of_eq (sts_mono hH20).symm)) (Trc.pure rfl rfl rfl (.inl fun _ => s_as (v := .int .i64 0) rfl) (Trc.nil (fun h_ => absurd h_ (by decide +kernel)))))))))))))) rfl (by decide +kernel) mixed ?_
    refine f_bind ?_; intro x29 hx29
    refine f_bind ?_; intro x30 hx30
    refine f_bind ?_; intro x31 hx31
    refine f_bind ?_; intro x32 hx32
    exact f_ret (.cells Tryd.underlying27 rfl sz27 rfl (lds_cons (ldI_eq hx29) (lds_cons (ldI_eq hx30) (lds_cons (ldI_eq hx31) (lds_cons (ldI_eq hx32) (lds_nil))))) (.tmp rfl (.nil))) rfl

/- 7 congou/deals.Halves -/
theorem ok7 : FnOk Tryd.prog 7 := ⟨⟨Tryd.f7, Tryd.func7, by kernel_rfl, rfl⟩⟩
theorem sim7 {app : App} (happ : AppSim Tryd.prog app) {a0 : Sl} {a1_0 : Int} {a1_1 : Int} {H : Hp} {p : (Int × Int × Int × Int × Int) × Hp} (h : r7 app a0 a1_0 a1_1 H = some p) : CallSim Tryd.prog 7 [.sl a0, .agg [.int .i64 a1_0, .int .i64 a1_1]] H (.tup [.agg [.int .i64 p.1.1, .int .i64 p.1.2.1, .int .i64 p.1.2.2.1, .int .i64 p.1.2.2.2.1], .int .i64 p.1.2.2.2.2]) p.2 := by
  refine callSim (fn := Tryd.f7) (ret := ret7) Tryd.func7 rfl Tryd.ntmps7 rfl ?_ h
  unfold r7
  refine f_seq ?_
  refine f_region ?_
  refine f_op rfl rfl (s_box (v := .agg [.int .i64 a1_0, .int .i64 a1_1]) rfl rfl) ?_
  refine f_op rfl rfl (s_alloc (zs := [.int .i64 0, .int .i64 0, .int .i64 0, .int .i64 0]) ty27 rfl rfl) ?_
  refine f_op rfl rfl (s_as (v := .int .i64 0) rfl) ?_
  refine o_hp ?_; intro H1 hH1
  refine f_nil ?_
  refine f_seq ?_
  refine f_region ?_
  refine f_op rfl rfl (s_mv (v := .sl a0) rfl) ?_
  refine o_bind ?_; intro x2 hx2
  refine o_bind ?_; intro x3 hx3
  refine f_op rfl rfl (s_loads Tryd.underlying23 rfl ty23 rfl (lds_cons (ldI_eq hx2) (lds_cons (ldI_eq hx3) (lds_nil)))) ?_
  refine o_bind ?_; intro p4 hp4
  refine f_op rfl rfl (s_callF rfl ok16 (sim16 happ hp4)) ?_
  refine f_op rfl rfl (s_mv (v := .tup [.sl p4.1.1, .int .i64 p4.1.2]) rfl) ?_
  refine f_op rfl rfl (s_extract (r := .sl p4.1.1) rfl rfl) ?_
  refine f_op rfl rfl (s_extract (r := .int .i64 p4.1.2) rfl rfl) ?_
  refine f_op rfl rfl (s_as (v := .sl p4.1.1) rfl) ?_
  refine f_op rfl rfl (s_as (v := .int .i64 p4.1.2) rfl) ?_
  refine f_nil ?_
  refine f_seq ?_
  refine f_seq ?_
  refine f_region ?_
  refine f_op rfl rfl (s_mv (v := .int .i64 p4.1.2) rfl) ?_
  refine f_op rfl rfl (s_neq rfl rfl) ?_
  refine f_nil ?_
  refine f_if (fun h5 => ?_) (fun h5 => ?_)
  · skip
    refine f_know 16 rfl (dec_true h5) ?_
    refine f_condT rfl ?_
    refine f_seq ?_
    refine f_region ?_
    refine f_op rfl rfl (s_build (cs := [.int .i64 0, .int .i64 0, .int .i64 0, .int .i64 0]) Tryd.underlying27 ty27 rfl pl27 rfl) ?_
    refine f_op rfl rfl (s_mv (v := .int .i64 p4.1.2) rfl) ?_
    refine o_bind ?_; intro H6 hH6
    refine f_op rfl rfl (s_stores ty27 rfl rfl rfl rfl hH6 (Nat.le_of_eq (sts_mono hH6).symm)) ?_
    refine f_op rfl rfl (s_as (v := .int .i64 p4.1.2) rfl) ?_
    refine f_nil ?_
    refine f_bind ?_; intro x7 hx7
    refine f_bind ?_; intro x8 hx8
    refine f_bind ?_; intro x9 hx9
    refine f_bind ?_; intro x10 hx10
    exact f_ret (.cells Tryd.underlying27 rfl sz27 rfl (lds_cons (ldI_eq hx7) (lds_cons (ldI_eq hx8) (lds_cons (ldI_eq hx9) (lds_cons (ldI_eq hx10) (lds_nil))))) (.tmp rfl (.nil))) rfl
  · skip
    refine f_know 16 rfl (dec_false h5) ?_
    refine f_condF rfl ?_
    refine f_skip ?_
    refine f_seq ?_
    refine f_region ?_
    refine o_bind ?_; intro p11 hp11
    refine f_op rfl rfl (s_callO rfl ok18 (sim18 hp11) rfl rfl) ?_
    refine f_op rfl rfl (s_alloc (zs := [.int .i64 0, .int .i64 0]) ty25 rfl rfl) ?_
    refine o_bind ?_; intro H12 hH12
    refine f_op rfl rfl (s_stores ty25 rfl rfl rfl rfl hH12 (Nat.le_of_eq (sts_mono hH12).symm)) ?_
    refine f_nil ?_
    refine f_seq ?_
    refine f_region ?_
    refine f_op rfl rfl (s_mv (v := .sl p4.1.1) rfl) ?_
    refine o_bind ?_; intro x13 hx13
    refine o_bind ?_; intro x14 hx14
    refine f_op rfl rfl (s_loads Tryd.underlying23 rfl ty23 rfl (lds_cons (ldI_eq hx13) (lds_cons (ldI_eq hx14) (lds_nil)))) ?_
    refine o_bind ?_; intro x15 hx15
    refine o_bind ?_; intro x16 hx16
    refine f_op rfl rfl (s_loads Tryd.underlying25 rfl ty25 rfl (lds_cons (ldI_eq hx15) (lds_cons (ldI_eq hx16) (lds_nil)))) ?_
    refine o_bind ?_; intro x17 hx17
    refine o_bind ?_; intro x18 hx18
    refine f_op rfl rfl (s_loads Tryd.underlying25 rfl ty25 rfl (lds_cons (ldI_eq hx17) (lds_cons (ldI_eq hx18) (lds_nil)))) ?_
    refine o_bind ?_; intro p19 hp19
    refine f_op rfl rfl (s_callF rfl ok25 (sim25 happ hp19)) ?_
    refine o_bind ?_; intro H20 hH20
    refine f_op rfl rfl (s_stores ty27 rfl rfl rfl rfl hH20 (Nat.le_of_eq (sts_mono hH20).symm)) ?_
    refine f_op rfl rfl (s_as (v := .int .i64 0) rfl) ?_
    refine f_nil ?_
    refine f_bind ?_; intro x21 hx21
    refine f_bind ?_; intro x22 hx22
    refine f_bind ?_; intro x23 hx23
    refine f_bind ?_; intro x24 hx24
    exact f_ret (.cells Tryd.underlying27 rfl sz27 rfl (lds_cons (ldI_eq hx21) (lds_cons (ldI_eq hx22) (lds_cons (ldI_eq hx23) (lds_cons (ldI_eq hx24) (lds_nil))))) (.tmp rfl (.nil))) rfl

end Go.Lt.P5
