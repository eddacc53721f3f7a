/- PRINTED BY A PROGRAM OF OURS: what each function that 'CutsMoved' reaches computes on the abstract heap, and that the translated code does just that. Nothing is asked of the input. -/
import Derived.Test.YteefkljbmjjncaaG16P7
set_option linter.unusedVariables false
set_option linter.unusedSimpArgs false
set_option maxRecDepth 100000
set_option maxHeartbeats 4000000
namespace Go.Lt.P2
open Go Go.Lt Go.Proofs
/- 16 congou/congoulaw02.CutsMoved -/
theorem ok16 : FnOk Try.prog 16 := ⟨⟨Try.f16, Try.func16, by kernel_rfl, rfl⟩⟩
theorem s16_l4 {app : App} (happ : AppSim Try.prog app) : ∀ (k_ : Nat) (v1 : Sl) (v2 : Int) (v3 : Int) (v4 : Nat) (v5 : Sl) (v6 : Sl) (v7 : Sl) (v8 : Int) (v9 : Int) (H : Hp), Fin Try.prog Try.f16 ret16 273 (todoAt (bodyOf Try.f16) [1, 1, 1, 1, 1, 1, 1, 1, 1, 1, 1, 1, 1, 0, 1, 0, 0] []) [(0, .sl v1), (1, .int .i64 v2), (2, .int .i64 v3), (7, .ptr v4 0), (9, .sl v5), (21, .sl v6), (197, .sl v7), (198, .int .i64 v8), (199, .int .i64 v9)] H (r16_l4 app k_ v1 v2 v3 v4 v5 v6 v7 v8 v9 H) := by
  intro k_
  induction k_ with
  | zero => intro _ _ _ _ _ _ _ _ _ _; exact f_none
  | succ k_ ih =>
    intro v1 v2 v3 v4 v5 v6 v7 v8 v9 H
    rw [r16_l4]
    refine f_seq ?_
    refine f_region ?_
    refine f_op rfl rfl (s_lss rfl rfl) ?_
    refine f_nil ?_
    refine f_seq ?_
    refine f_if (fun h1 => ?_) (fun h1 => ?_)
    · skip
      refine f_know 200 rfl (dec_true h1) ?_
      refine f_condT rfl ?_
      refine f_skip ?_
      refine f_seq ?_
      refine f_block ?_
      refine f_seq ?_
      refine f_region ?_
      refine f_op rfl rfl (s_mv (v := .int .i64 v9) rfl) ?_
      refine o_ck fun g2 => ?_
      refine f_op rfl rfl (s_idx Try.underlying83 ty32 rfl rfl g2) ?_
      refine o_bind ?_; intro x3 hx3
      refine o_bind ?_; intro x4 hx4
      refine o_bind ?_; intro x5 hx5
      refine o_bind ?_; intro x6 hx6
      refine f_op rfl rfl (s_loads Try.underlying32 rfl ty32 rfl (lds_cons (ldI_eq hx3) (lds_cons (ldI_eq hx4) (lds_cons (ldI_eq hx5) (lds_cons (ldI_eq hx6) (lds_nil)))))) ?_
      refine f_op rfl rfl (s_alloc (zs := [.int .i64 0, .int .i64 0, .int .i64 0, .int .i64 0]) ty32 rfl rfl) ?_
      refine f_op rfl rfl (s_as (v := .int .i64 v9) rfl) ?_
      refine o_bind ?_; intro H7 hH7
      refine f_op rfl rfl (s_stores ty32 rfl rfl rfl rfl hH7 (Nat.le_of_eq (sts_mono hH7).symm)) ?_
      refine f_nil ?_
      refine f_seq ?_
      refine f_ck fun g8 => ?_
      refine f_bind ?_; intro x9 hx9
      refine f_bind ?_; intro x10 hx10
      refine f_bind ?_; intro x11 hx11
      refine f_bind ?_; intro x12 hx12
      refine f_bind ?_; intro x13 hx13
      refine f_bind ?_; intro x14 hx14
      refine f_bind ?_; intro p15 hp15
      refine f_bind ?_; intro x16 hx16
      refine f_bind ?_; intro x17 hx17
      refine f_bind ?_; intro p18 hp18
      refine f_draw (Φ := fun _ => True) (lim := 1000000) [0, 0, 0, 1, 0, 1, 0, 0, 0, 1, 0, 0, 0, 0] (Trc.pure rfl rfl rfl (.inl fun _ => s_mv (v := .sl v6) rfl) (Trc.pure rfl rfl rfl (.inl fun _ => s_mv (v := .int .i64 v9) rfl) (Trc.pure rfl rfl rfl (.inl fun _ => s_idx Try.underlying83 ty32 rfl rfl g8) (Trc.read rfl rfl rfl (s_loads Try.underlying32 rfl ty32 rfl (lds_cons (ldI_eq hx9) (lds_cons (ldI_eq hx10) (lds_cons (ldI_eq hx11) (lds_cons (ldI_eq hx12) (lds_nil)))))) (Trc.pure rfl rfl rfl (.inl fun _ => s_fieldAddr Try.underlying32 rfl ty24 rfl) (Trc.read rfl rfl rfl (s_loads Try.underlying24 rfl ty24 rfl (lds_cons (ldI_eq hx13) (lds_cons (ldI_eq hx14) (lds_nil)))) (Trc.pure rfl rfl rfl (.inl fun _ => s_mv (v := .int .i64 v2) rfl) (Trc.pure rfl rfl rfl (.inl fun _ => s_callO rfl ok62 (sim62 hp15) rfl rfl) (Trc.pure rfl rfl rfl (.inl fun _ => s_fieldAddr Try.underlying32 rfl ty24 rfl) (Trc.read rfl rfl rfl (s_loads Try.underlying24 rfl ty24 rfl (lds_cons (ldI_eq hx16) (lds_cons (ldI_eq hx17) (lds_nil)))) (Trc.pure rfl rfl rfl (.inl fun _ => s_mv (v := .int .i64 v3) rfl) (Trc.pure rfl rfl rfl (.inl fun _ => s_callO rfl ok62 (sim62 hp18) rfl rfl) (Trc.pure rfl rfl rfl (.inl fun _ => s_build (cs := [.int .i64 p15.1.1, .int .i64 p15.1.2, .int .i64 p18.1.1, .int .i64 p18.1.2]) Try.underlying32 ty32 rfl pl32 rfl) (Trc.pure rfl rfl rfl (.inl fun _ => s_neAgg eg32 rfl rfl (eq22 Try.underlying32 Try.underlying24 Try.underlying3 Try.underlying3 ty24 (by decide) (by decide) (by decide) (by decide) rfl rfl rfl rfl sih32 sih24 x9 x10 x11 x12 p15.1.1 p15.1.2 p18.1.1 p18.1.2)) (Trc.nil (fun _ => trivial)))))))))))))))) rfl (by decide +kernel) mixed ?_
      refine f_if (fun h19 => ?_) (fun h19 => ?_)
      · skip
        refine f_know 217 rfl (bool_notT h19) ?_
        refine f_condF rfl ?_
        refine f_skip ?_
        refine f_inBlock ?_
        refine f_region ?_
        refine f_op rfl rfl (s_add rfl rfl) ?_
        refine f_op rfl rfl (s_mv (v := .int .i64 (w64 (v9 + 1))) rfl) ?_
        refine f_nil ?_
        refine f_inLoop ?_
        refine f_keep [0, 1, 2, 7, 9, 21, 197, 198, 199] ?_
        exact ih v1 v2 v3 v4 v5 v6 v7 v8 (w64 (v9 + 1)) H7
      · skip
        refine f_know 217 rfl (bool_notF h19) ?_
        refine f_condT rfl ?_
        refine f_seq ?_
        refine f_region ?_
        refine f_op rfl rfl (s_as (v := .bool false) rfl) ?_
        refine f_nil ?_
        exact f_ret (.tmp rfl (.nil)) rfl
    · skip
      refine f_know 200 rfl (dec_false h1) ?_
      refine f_condF rfl ?_
      refine f_exit rfl ?_
      refine f_seq ?_
      refine f_seq ?_
      refine f_region ?_
      refine o_bind ?_; intro x20 hx20
      refine o_bind ?_; intro x21 hx21
      refine o_bind ?_; intro x22 hx22
      refine o_bind ?_; intro x23 hx23
      refine f_op rfl rfl (s_loads Try.underlying26 rfl ty26 rfl (lds_cons (ldI_eq hx20) (lds_cons (ldI_eq hx21) (lds_cons (ldI_eq hx22) (lds_cons (ldI_eq hx23) (lds_nil)))))) ?_
      refine o_bind ?_; intro p24 hp24
      refine f_op rfl rfl (s_callO rfl ok20 (sim20 hp24) rfl rfl) ?_
      refine f_op rfl rfl (s_not rfl) ?_
      refine f_nil ?_
      refine f_if (fun h25 => ?_) (fun h25 => ?_)
      · skip
        refine f_know 221 rfl (bool_notT h25) ?_
        refine f_condF rfl ?_
        refine f_skip ?_
        refine f_seq ?_
        refine f_bind ?_; intro x26 hx26
        refine f_bind ?_; intro x27 hx27
        refine f_bind ?_; intro p28 hp28
        refine f_bind ?_; intro x29 hx29
        refine f_bind ?_; intro x30 hx30
        refine f_bind ?_; intro p31 hp31
        refine f_bind ?_; intro H32 hH32
        refine f_drawF (Φ := fun _ => True) (lim := 1000000) [0, 1, 0, 0, 0, 1, 0, 0, 0, 2, 2] [false, false, false, false, false, false, false, false, false, true, false] 9 10 (Trc.pure rfl rfl rfl (.inl fun _ => s_fieldAddr Try.underlying26 rfl ty24 rfl) (Trc.read rfl rfl rfl (s_loads Try.underlying24 rfl ty24 rfl (lds_cons (ldI_eq hx26) (lds_cons (ldI_eq hx27) (lds_nil)))) (Trc.pure rfl rfl rfl (.inl fun _ => s_mv (v := .int .i64 v2) rfl) (Trc.pure rfl rfl rfl (.inl fun _ => s_callO rfl ok62 (sim62 hp28) rfl rfl) (Trc.pure rfl rfl rfl (.inl fun _ => s_fieldAddr Try.underlying26 rfl ty24 rfl) (Trc.read rfl rfl rfl (s_loads Try.underlying24 rfl ty24 rfl (lds_cons (ldI_eq hx29) (lds_cons (ldI_eq hx30) (lds_nil)))) (Trc.pure rfl rfl rfl (.inl fun _ => s_mv (v := .int .i64 v3) rfl) (Trc.pure rfl rfl rfl (.inl fun _ => s_callO rfl ok62 (sim62 hp31) rfl rfl) (Trc.pure rfl rfl rfl (.inl fun _ => s_build (cs := [.int .i64 p28.1.1, .int .i64 p28.1.2, .int .i64 p31.1.1, .int .i64 p31.1.2]) Try.underlying26 ty26 rfl pl26 rfl) (Trc.fl .p rfl rfl rfl (fun _ => trivial) rfl (by rfl) (fun _ => s_alloc (zs := [.int .i64 0, .int .i64 0, .int .i64 0, .int .i64 0]) ty26 rfl rfl) (Trc.eff rfl rfl rfl (fun _ => trivial) (s_stores ty26 rfl rfl rfl rfl hH32 (Nat.le_of_eq (sts_mono hH32).symm)) (Trc.nil (fun _ => trivial))))))))))))) rfl rfl (by decide +kernel) mixed ?_
        refine f_seq ?_
        refine f_bind ?_; intro p33 hp33
        refine f_bind ?_; intro x34 hx34
        refine f_bind ?_; intro x35 hx35
        refine f_bind ?_; intro x36 hx36
        refine f_bind ?_; intro x37 hx37
        refine f_bind ?_; intro p38 hp38
        refine f_ck fun g39 => ?_
        refine f_ck fun g40 => ?_
        refine f_ck fun g41 => ?_
        refine f_ck fun g42 => ?_
        refine f_draw (Φ := fun H_ => H_.ld v4 (0 + 0) = some (.int .i64 x34) ∧ H_.ld v4 ((0 + 0) + 1) = some (.int .i64 x35) ∧ H_.ld v4 (0 + 2) = some (.int .i64 x36) ∧ H_.ld v4 ((0 + 2) + 1) = some (.int .i64 x37)) (lim := 7) [0, 2, 0, 0, 0, 0, 0, 2, 0, 0, 0, 0, 0] (Trc.pure rfl rfl rfl (.inl fun _ => s_mv (v := .sl v1) rfl) (Trc.eff rfl rfl rfl (fun _ => ⟨ldI_eq g39, ldI_eq g40, ldI_eq g41, ldI_eq g42⟩) (s_callF rfl ok18 (sim18 hp33)) (Trc.pure rfl rfl rfl (.inl fun _ => s_fieldAddr Try.underlying26 rfl ty24 rfl) (Trc.pure rfl rfl rfl (.inr ⟨by decide +kernel, fun _ hp_ => s_loads Try.underlying24 rfl ty24 rfl (lds_cons hp_.1 (lds_cons hp_.2.1 (lds_nil)))⟩) (Trc.pure rfl rfl rfl (.inl fun _ => s_fieldAddr Try.underlying26 rfl ty24 rfl) (Trc.pure rfl rfl rfl (.inr ⟨by decide +kernel, fun _ hp_ => s_loads Try.underlying24 rfl ty24 rfl (lds_cons hp_.2.2.1 (lds_cons hp_.2.2.2 (lds_nil)))⟩) (Trc.pure rfl rfl rfl (.inl fun _ => s_build (cs := [.int .i64 x34, .int .i64 x35, .int .i64 x36, .int .i64 x37]) Try.underlying32 ty32 rfl pl32 rfl) (Trc.eff rfl rfl rfl (fun _ => ⟨ldI_eq hx34, ldI_eq hx35, ldI_eq hx36, ldI_eq hx37⟩) (s_callF rfl ok17 (sim17 happ hp38)) (Trc.pure rfl rfl rfl (.inl fun _ => s_mv (v := .tup [.bool p38.1.1, .int .i64 p38.1.2]) rfl) (Trc.pure rfl rfl rfl (.inl fun _ => s_extract (r := .bool p38.1.1) rfl rfl) (Trc.pure rfl rfl rfl (.inl fun _ => s_extract (r := .int .i64 p38.1.2) rfl rfl) (Trc.pure rfl rfl rfl (.inl fun _ => s_as (v := .bool p38.1.1) rfl) (Trc.pure rfl rfl rfl (.inl fun _ => s_as (v := .int .i64 p38.1.2) rfl) (Trc.nil (fun h_ => absurd h_ (by decide +kernel)))))))))))))))) rfl (by decide +kernel) mixed ?_
        refine f_seq ?_
        refine f_region ?_
        refine f_op rfl rfl (s_mv (v := .sl v5) rfl) ?_
        refine f_op rfl rfl (s_fieldAddr Try.underlying26 rfl ty24 rfl) ?_
        refine o_bind ?_; intro x43 hx43
        refine o_bind ?_; intro x44 hx44
        refine f_op rfl rfl (s_loads Try.underlying24 rfl ty24 rfl (lds_cons (ldI_eq hx43) (lds_cons (ldI_eq hx44) (lds_nil)))) ?_
        refine f_op rfl rfl (s_fieldAddr Try.underlying26 rfl ty24 rfl) ?_
        refine o_bind ?_; intro x45 hx45
        refine o_bind ?_; intro x46 hx46
        refine f_op rfl rfl (s_loads Try.underlying24 rfl ty24 rfl (lds_cons (ldI_eq hx45) (lds_cons (ldI_eq hx46) (lds_nil)))) ?_
        refine f_op rfl rfl (s_build (cs := [.int .i64 x43, .int .i64 x44, .int .i64 x45, .int .i64 x46]) Try.underlying32 ty32 rfl pl32 rfl) ?_
        refine o_bind ?_; intro p47 hp47
        refine f_op rfl rfl (s_callF rfl ok17 (sim17 happ hp47)) ?_
        refine f_op rfl rfl (s_mv (v := .tup [.bool p47.1.1, .int .i64 p47.1.2]) rfl) ?_
        refine f_op rfl rfl (s_extract (r := .bool p47.1.1) rfl rfl) ?_
        refine f_op rfl rfl (s_extract (r := .int .i64 p47.1.2) rfl rfl) ?_
        refine f_op rfl rfl (s_as (v := .bool p47.1.1) rfl) ?_
        refine f_op rfl rfl (s_as (v := .int .i64 p47.1.2) rfl) ?_
        refine f_nil ?_
        refine f_seq ?_
        refine f_seq ?_
        refine f_region ?_
        refine f_op rfl rfl (s_mv (v := .int .i64 p38.1.2) rfl) ?_
        refine f_op rfl rfl (s_neq rfl rfl) ?_
        refine f_nil ?_
        refine f_if (fun h48 => ?_) (fun h48 => ?_)
        · skip
          refine f_know 254 rfl (dec_true h48) ?_
          refine f_condT rfl ?_
          refine f_seq ?_
          refine f_region ?_
          refine f_op rfl rfl (s_as (v := .bool false) rfl) ?_
          refine f_nil ?_
          exact f_ret (.tmp rfl (.nil)) rfl
        · skip
          refine f_know 254 rfl (dec_false h48) ?_
          refine f_condF rfl ?_
          refine f_skip ?_
          refine f_seq ?_
          refine f_seq ?_
          refine f_region ?_
          refine o_bind ?_; intro x49 hx49
          refine o_bind ?_; intro x50 hx50
          refine o_bind ?_; intro x51 hx51
          refine o_bind ?_; intro x52 hx52
          refine f_op rfl rfl (s_loads Try.underlying26 rfl ty26 rfl (lds_cons (ldI_eq hx49) (lds_cons (ldI_eq hx50) (lds_cons (ldI_eq hx51) (lds_cons (ldI_eq hx52) (lds_nil)))))) ?_
          refine o_bind ?_; intro p53 hp53
          refine f_op rfl rfl (s_callO rfl ok20 (sim20 hp53) rfl rfl) ?_
          refine f_op rfl rfl (s_not rfl) ?_
          refine f_nil ?_
          refine f_if (fun h54 => ?_) (fun h54 => ?_)
          · skip
            refine f_know 257 rfl (bool_notT h54) ?_
            refine f_condF rfl ?_
            refine f_skip ?_
            refine f_seq ?_
            refine f_region ?_
            refine f_op rfl rfl (s_mv (v := .int .i64 p47.1.2) rfl) ?_
            refine f_op rfl rfl (s_eql rfl rfl) ?_
            refine f_op rfl rfl (s_mv (v := .bool (decide (p47.1.2 = 0))) rfl) ?_
            refine o_if (fun h55 => ?_) (fun h55 => ?_)
            · skip
              refine o_know 265 rfl (dec_true h55) ?_
              refine f_op rfl rfl (s_mv (v := .bool p38.1.1) rfl) ?_
              refine f_op rfl rfl (s_mv (v := .bool p47.1.1) rfl) ?_
              refine f_op rfl rfl (s_eqB Try.underlying4 rfl rfl) ?_
              refine f_op rfl rfl (s_pickT (v := .bool (p38.1.1 == p47.1.1)) rfl rfl) ?_
              refine f_op rfl rfl (s_mv (v := .bool (p38.1.1 == p47.1.1)) rfl) ?_
              refine o_if (fun h56 => ?_) (fun h56 => ?_)
              · skip
                refine o_know 270 rfl (bool_T h56) ?_
                refine o_bind ?_; intro p57 hp57
                refine o_bind ?_; intro x58 hx58
                refine f_op rfl rfl (s_callA happ rfl hp57) ?_
                refine o_know 271 rfl (asB_eq hx58) ?_
                refine f_op rfl rfl (s_pickT (v := .bool x58) rfl rfl) ?_
                refine f_op rfl rfl (s_as (v := .bool x58) rfl) ?_
                refine f_nil ?_
                exact f_ret (.tmp rfl (.nil)) rfl
              · skip
                refine o_know 270 rfl (bool_F h56) ?_
                refine f_no rfl rfl ?_
                refine f_op rfl rfl (s_pickF (v := .bool false) rfl rfl) ?_
                refine f_op rfl rfl (s_as (v := .bool false) rfl) ?_
                refine f_nil ?_
                exact f_ret (.tmp rfl (.nil)) rfl
            · skip
              refine o_know 265 rfl (dec_false h55) ?_
              refine f_no rfl rfl ?_
              refine f_no rfl rfl ?_
              refine f_no rfl rfl ?_
              refine f_op rfl rfl (s_pickF (v := .bool false) rfl rfl) ?_
              refine f_op rfl rfl (s_mv (v := .bool false) rfl) ?_
              refine f_no rfl rfl ?_
              refine f_op rfl rfl (s_pickF (v := .bool false) rfl rfl) ?_
              refine f_op rfl rfl (s_as (v := .bool false) rfl) ?_
              refine f_nil ?_
              exact f_ret (.tmp rfl (.nil)) rfl
          · skip
            refine f_know 257 rfl (bool_notF h54) ?_
            refine f_condT rfl ?_
            refine f_seq ?_
            refine f_region ?_
            refine f_op rfl rfl (s_mv (v := .int .i64 p47.1.2) rfl) ?_
            refine f_op rfl rfl (s_eql rfl rfl) ?_
            refine f_op rfl rfl (s_mv (v := .bool (decide (p47.1.2 = 2))) rfl) ?_
            refine o_if (fun h59 => ?_) (fun h59 => ?_)
            · skip
              refine o_know 260 rfl (dec_true h59) ?_
              refine o_bind ?_; intro p60 hp60
              refine o_bind ?_; intro x61 hx61
              refine f_op rfl rfl (s_callA happ rfl hp60) ?_
              refine o_know 261 rfl (asB_eq hx61) ?_
              refine f_op rfl rfl (s_pickT (v := .bool x61) rfl rfl) ?_
              refine f_op rfl rfl (s_as (v := .bool x61) rfl) ?_
              refine f_nil ?_
              exact f_ret (.tmp rfl (.nil)) rfl
            · skip
              refine o_know 260 rfl (dec_false h59) ?_
              refine f_no rfl rfl ?_
              refine f_op rfl rfl (s_pickF (v := .bool false) rfl rfl) ?_
              refine f_op rfl rfl (s_as (v := .bool false) rfl) ?_
              refine f_nil ?_
              exact f_ret (.tmp rfl (.nil)) rfl
      · skip
        refine f_know 221 rfl (bool_notF h25) ?_
        refine f_condT rfl ?_
        refine f_seq ?_
        refine f_region ?_
        refine o_bind ?_; intro p62 hp62
        refine o_bind ?_; intro x63 hx63
        refine f_op rfl rfl (s_callA happ rfl hp62) ?_
        refine o_know 222 rfl (asB_eq hx63) ?_
        refine f_op rfl rfl (s_as (v := .bool x63) rfl) ?_
        refine f_nil ?_
        exact f_ret (.tmp rfl (.nil)) rfl

theorem s16_l3 {app : App} (happ : AppSim Try.prog app) : ∀ (k_ : Nat) (v1 : Sl) (v2 : Int) (v3 : Int) (v4 : Nat) (v5 : Sl) (v6 : Sl) (v7 : Sl) (v8 : Sl) (v9 : Sl) (v10 : Int) (v11 : Int) (H : Hp), Fin Try.prog Try.f16 ret16 273 (todoAt (bodyOf Try.f16) [1, 1, 1, 1, 1, 1, 1, 1, 1, 1, 1, 1, 0, 1, 0, 0] []) [(0, .sl v1), (1, .int .i64 v2), (2, .int .i64 v3), (7, .ptr v4 0), (9, .sl v5), (17, .sl v6), (19, .sl v7), (21, .sl v8), (175, .sl v9), (176, .int .i64 v10), (177, .int .i64 v11)] H (r16_l3 app k_ v1 v2 v3 v4 v5 v6 v7 v8 v9 v10 v11 H) := by
  intro k_
  induction k_ with
  | zero => intro _ _ _ _ _ _ _ _ _ _ _ _; exact f_none
  | succ k_ ih =>
    intro v1 v2 v3 v4 v5 v6 v7 v8 v9 v10 v11 H
    rw [r16_l3]
    refine f_seq ?_
    refine f_region ?_
    refine f_op rfl rfl (s_lss rfl rfl) ?_
    refine f_nil ?_
    refine f_seq ?_
    refine f_if (fun h1 => ?_) (fun h1 => ?_)
    · skip
      refine f_know 178 rfl (dec_true h1) ?_
      refine f_condT rfl ?_
      refine f_skip ?_
      refine f_seq ?_
      refine f_block ?_
      refine f_seq ?_
      refine f_region ?_
      refine f_op rfl rfl (s_mv (v := .int .i64 v11) rfl) ?_
      refine o_ck fun g2 => ?_
      refine f_op rfl rfl (s_idx Try.underlying37 ty43 rfl rfl g2) ?_
      refine o_bind ?_; intro x3 hx3
      refine o_bind ?_; intro x4 hx4
      refine f_op rfl rfl (s_loads Try.underlying43 rfl ty43 rfl (lds_cons (ldI_eq hx3) (lds_cons (ldI_eq hx4) (lds_nil)))) ?_
      refine f_op rfl rfl (s_alloc (zs := [.int .i64 0, .int .i64 0]) ty43 rfl rfl) ?_
      refine f_op rfl rfl (s_as (v := .int .i64 v11) rfl) ?_
      refine o_bind ?_; intro H5 hH5
      refine f_op rfl rfl (s_stores ty43 rfl rfl rfl rfl hH5 (Nat.le_of_eq (sts_mono hH5).symm)) ?_
      refine f_nil ?_
      refine f_seq ?_
      refine f_ck fun g6 => ?_
      refine f_bind ?_; intro x7 hx7
      refine f_bind ?_; intro x8 hx8
      refine f_bind ?_; intro x9 hx9
      refine f_bind ?_; intro x10 hx10
      refine f_draw (Φ := fun _ => True) (lim := 1000000) [0, 0, 0, 1, 0, 1, 0, 0, 0, 1, 0, 0, 0, 0] (Trc.pure rfl rfl rfl (.inl fun _ => s_mv (v := .sl v6) rfl) (Trc.pure rfl rfl rfl (.inl fun _ => s_mv (v := .int .i64 v11) rfl) (Trc.pure rfl rfl rfl (.inl fun _ => s_idx Try.underlying37 ty43 rfl rfl g6) (Trc.read rfl rfl rfl (s_loads Try.underlying43 rfl ty43 rfl (lds_cons (ldI_eq hx7) (lds_cons (ldI_eq hx8) (lds_nil)))) (Trc.pure rfl rfl rfl (.inl fun _ => s_idxA Try.underlying43 ty3 rfl rfl (by decide)) (Trc.read rfl rfl rfl (s_load Try.underlying3 rfl rfl (ldI_eq hx9)) (Trc.pure rfl rfl rfl (.inl fun _ => s_mv (v := .int .i64 v2) rfl) (Trc.pure rfl rfl rfl (.inl fun _ => s_add rfl rfl) (Trc.pure rfl rfl rfl (.inl fun _ => s_idxA Try.underlying43 ty3 rfl rfl (by decide)) (Trc.read rfl rfl rfl (s_load Try.underlying3 rfl rfl (ldI_eq hx10)) (Trc.pure rfl rfl rfl (.inl fun _ => s_mv (v := .int .i64 v3) rfl) (Trc.pure rfl rfl rfl (.inl fun _ => s_add rfl rfl) (Trc.pure rfl rfl rfl (.inl fun _ => s_buildA (cs := [.int .i64 (w64 (x9 + v2)), .int .i64 (w64 (x10 + v3))]) Try.underlying43 ty43 ty3 rfl rfl) (Trc.pure rfl rfl rfl (.inl fun _ => s_neArr eg43 Try.underlying43 Try.underlying3 ty3 rfl rfl rfl rfl rfl rfl) (Trc.nil (fun _ => trivial)))))))))))))))) rfl (by decide +kernel) mixed ?_
      refine f_if (fun h11 => ?_) (fun h11 => ?_)
      · skip
        refine f_know 195 rfl (bool_notT h11) ?_
        refine f_condF rfl ?_
        refine f_skip ?_
        refine f_inBlock ?_
        refine f_region ?_
        refine f_op rfl rfl (s_add rfl rfl) ?_
        refine f_op rfl rfl (s_mv (v := .int .i64 (w64 (v11 + 1))) rfl) ?_
        refine f_nil ?_
        refine f_inLoop ?_
        refine f_keep [0, 1, 2, 7, 9, 17, 19, 21, 175, 176, 177] ?_
        exact ih v1 v2 v3 v4 v5 v6 v7 v8 v9 v10 (w64 (v11 + 1)) H5
      · skip
        refine f_know 195 rfl (bool_notF h11) ?_
        refine f_condT rfl ?_
        refine f_seq ?_
        refine f_region ?_
        refine f_op rfl rfl (s_as (v := .bool false) rfl) ?_
        refine f_nil ?_
        exact f_ret (.tmp rfl (.nil)) rfl
    · skip
      refine f_know 178 rfl (dec_false h1) ?_
      refine f_condF rfl ?_
      refine f_exit rfl ?_
      refine f_seq ?_
      refine f_seq ?_
      refine f_region ?_
      refine f_op rfl rfl (s_mv (v := .sl v7) rfl) ?_
      refine f_op rfl rfl (s_lenS rfl Try.underlying83 rfl) ?_
      refine f_op rfl rfl (s_mv (v := .int .i64 0) rfl) ?_
      refine f_nil ?_
      refine f_block ?_
      refine f_loop ?_
      refine f_keep [0, 1, 2, 7, 9, 21, 197, 198, 199] ?_
      exact s16_l4 happ FUEL v1 v2 v3 v4 v5 v8 v7 (v7.len : Int) 0 H

theorem s16_l2 {app : App} (happ : AppSim Try.prog app) : ∀ (k_ : Nat) (v1 : Sl) (v2 : Int) (v3 : Int) (v4 : Nat) (v5 : Sl) (v6 : Sl) (v7 : Sl) (v8 : Sl) (v9 : Sl) (v10 : Sl) (v11 : Sl) (v12 : Int) (v13 : Int) (H : Hp), Fin Try.prog Try.f16 ret16 273 (todoAt (bodyOf Try.f16) [1, 1, 1, 1, 1, 1, 1, 1, 1, 1, 1, 0, 1, 0, 0] []) [(0, .sl v1), (1, .int .i64 v2), (2, .int .i64 v3), (7, .ptr v4 0), (9, .sl v5), (13, .sl v6), (15, .sl v7), (17, .sl v8), (19, .sl v9), (21, .sl v10), (153, .sl v11), (154, .int .i64 v12), (155, .int .i64 v13)] H (r16_l2 app k_ v1 v2 v3 v4 v5 v6 v7 v8 v9 v10 v11 v12 v13 H) := by
  intro k_
  induction k_ with
  | zero => intro _ _ _ _ _ _ _ _ _ _ _ _ _ _; exact f_none
  | succ k_ ih =>
    intro v1 v2 v3 v4 v5 v6 v7 v8 v9 v10 v11 v12 v13 H
    rw [r16_l2]
    refine f_seq ?_
    refine f_region ?_
    refine f_op rfl rfl (s_lss rfl rfl) ?_
    refine f_nil ?_
    refine f_seq ?_
    refine f_if (fun h1 => ?_) (fun h1 => ?_)
    · skip
      refine f_know 156 rfl (dec_true h1) ?_
      refine f_condT rfl ?_
      refine f_skip ?_
      refine f_seq ?_
      refine f_block ?_
      refine f_seq ?_
      refine f_region ?_
      refine f_op rfl rfl (s_mv (v := .int .i64 v13) rfl) ?_
      refine o_ck fun g2 => ?_
      refine f_op rfl rfl (s_idx Try.underlying37 ty43 rfl rfl g2) ?_
      refine o_bind ?_; intro x3 hx3
      refine o_bind ?_; intro x4 hx4
      refine f_op rfl rfl (s_loads Try.underlying43 rfl ty43 rfl (lds_cons (ldI_eq hx3) (lds_cons (ldI_eq hx4) (lds_nil)))) ?_
      refine f_op rfl rfl (s_alloc (zs := [.int .i64 0, .int .i64 0]) ty43 rfl rfl) ?_
      refine f_op rfl rfl (s_as (v := .int .i64 v13) rfl) ?_
      refine o_bind ?_; intro H5 hH5
      refine f_op rfl rfl (s_stores ty43 rfl rfl rfl rfl hH5 (Nat.le_of_eq (sts_mono hH5).symm)) ?_
      refine f_nil ?_
      refine f_seq ?_
      refine f_ck fun g6 => ?_
      refine f_bind ?_; intro x7 hx7
      refine f_bind ?_; intro x8 hx8
      refine f_bind ?_; intro x9 hx9
      refine f_bind ?_; intro x10 hx10
      refine f_draw (Φ := fun _ => True) (lim := 1000000) [0, 0, 0, 1, 0, 1, 0, 0, 0, 1, 0, 0, 0, 0] (Trc.pure rfl rfl rfl (.inl fun _ => s_mv (v := .sl v6) rfl) (Trc.pure rfl rfl rfl (.inl fun _ => s_mv (v := .int .i64 v13) rfl) (Trc.pure rfl rfl rfl (.inl fun _ => s_idx Try.underlying37 ty43 rfl rfl g6) (Trc.read rfl rfl rfl (s_loads Try.underlying43 rfl ty43 rfl (lds_cons (ldI_eq hx7) (lds_cons (ldI_eq hx8) (lds_nil)))) (Trc.pure rfl rfl rfl (.inl fun _ => s_idxA Try.underlying43 ty3 rfl rfl (by decide)) (Trc.read rfl rfl rfl (s_load Try.underlying3 rfl rfl (ldI_eq hx9)) (Trc.pure rfl rfl rfl (.inl fun _ => s_mv (v := .int .i64 v2) rfl) (Trc.pure rfl rfl rfl (.inl fun _ => s_add rfl rfl) (Trc.pure rfl rfl rfl (.inl fun _ => s_idxA Try.underlying43 ty3 rfl rfl (by decide)) (Trc.read rfl rfl rfl (s_load Try.underlying3 rfl rfl (ldI_eq hx10)) (Trc.pure rfl rfl rfl (.inl fun _ => s_mv (v := .int .i64 v3) rfl) (Trc.pure rfl rfl rfl (.inl fun _ => s_add rfl rfl) (Trc.pure rfl rfl rfl (.inl fun _ => s_buildA (cs := [.int .i64 (w64 (x9 + v2)), .int .i64 (w64 (x10 + v3))]) Try.underlying43 ty43 ty3 rfl rfl) (Trc.pure rfl rfl rfl (.inl fun _ => s_neArr eg43 Try.underlying43 Try.underlying3 ty3 rfl rfl rfl rfl rfl rfl) (Trc.nil (fun _ => trivial)))))))))))))))) rfl (by decide +kernel) mixed ?_
      refine f_if (fun h11 => ?_) (fun h11 => ?_)
      · skip
        refine f_know 173 rfl (bool_notT h11) ?_
        refine f_condF rfl ?_
        refine f_skip ?_
        refine f_inBlock ?_
        refine f_region ?_
        refine f_op rfl rfl (s_add rfl rfl) ?_
        refine f_op rfl rfl (s_mv (v := .int .i64 (w64 (v13 + 1))) rfl) ?_
        refine f_nil ?_
        refine f_inLoop ?_
        refine f_keep [0, 1, 2, 7, 9, 13, 15, 17, 19, 21, 153, 154, 155] ?_
        exact ih v1 v2 v3 v4 v5 v6 v7 v8 v9 v10 v11 v12 (w64 (v13 + 1)) H5
      · skip
        refine f_know 173 rfl (bool_notF h11) ?_
        refine f_condT rfl ?_
        refine f_seq ?_
        refine f_region ?_
        refine f_op rfl rfl (s_as (v := .bool false) rfl) ?_
        refine f_nil ?_
        exact f_ret (.tmp rfl (.nil)) rfl
    · skip
      refine f_know 156 rfl (dec_false h1) ?_
      refine f_condF rfl ?_
      refine f_exit rfl ?_
      refine f_seq ?_
      refine f_seq ?_
      refine f_region ?_
      refine f_op rfl rfl (s_mv (v := .sl v7) rfl) ?_
      refine f_op rfl rfl (s_lenS rfl Try.underlying37 rfl) ?_
      refine f_op rfl rfl (s_mv (v := .int .i64 0) rfl) ?_
      refine f_nil ?_
      refine f_block ?_
      refine f_loop ?_
      refine f_keep [0, 1, 2, 7, 9, 17, 19, 21, 175, 176, 177] ?_
      exact s16_l3 happ FUEL v1 v2 v3 v4 v5 v8 v9 v10 v7 (v7.len : Int) 0 H

theorem s16_j1 {app : App} (happ : AppSim Try.prog app) (v1 : Sl) (v2 : Int) (v3 : Int) (v4 : Nat) (v5 : Sl) (v6 : Sl) (v7 : Sl) (v8 : Sl) (v9 : Sl) (v10 : Sl) (v11 : Sl) (v12 : Bool) (H : Hp) : Fin Try.prog Try.f16 ret16 273 (todoAt (bodyOf Try.f16) [1, 1, 1, 1, 1, 1, 1, 1, 1, 1, 0, 1] []) [(0, .sl v1), (1, .int .i64 v2), (2, .int .i64 v3), (7, .ptr v4 0), (9, .sl v5), (11, .sl v6), (13, .sl v7), (15, .sl v8), (17, .sl v9), (19, .sl v10), (21, .sl v11), (152, .bool v12)] H (r16_j1 app v1 v2 v3 v4 v5 v6 v7 v8 v9 v10 v11 v12 H) := by
  unfold r16_j1
  refine f_if (fun h1 => ?_) (fun h1 => ?_)
  · skip
    refine f_know 152 rfl (bool_T h1) ?_
    refine f_condT rfl ?_
    refine f_seq ?_
    refine f_region ?_
    refine f_op rfl rfl (s_as (v := .bool false) rfl) ?_
    refine f_nil ?_
    exact f_ret (.tmp rfl (.nil)) rfl
  · skip
    refine f_know 152 rfl (bool_F h1) ?_
    refine f_condF rfl ?_
    refine f_skip ?_
    refine f_seq ?_
    refine f_seq ?_
    refine f_region ?_
    refine f_op rfl rfl (s_mv (v := .sl v6) rfl) ?_
    refine f_op rfl rfl (s_lenS rfl Try.underlying37 rfl) ?_
    refine f_op rfl rfl (s_mv (v := .int .i64 0) rfl) ?_
    refine f_nil ?_
    refine f_block ?_
    refine f_loop ?_
    refine f_keep [0, 1, 2, 7, 9, 13, 15, 17, 19, 21, 153, 154, 155] ?_
    exact s16_l2 happ FUEL v1 v2 v3 v4 v5 v7 v8 v9 v10 v11 v6 (v6.len : Int) 0 H

theorem s16_j0 {app : App} (happ : AppSim Try.prog app) (v1 : Sl) (v2 : Int) (v3 : Int) (v4 : Nat) (v5 : Sl) (v6 : Int) (v7 : Bool) (H : Hp) : Fin Try.prog Try.f16 ret16 273 (todoAt (bodyOf Try.f16) [1, 1, 0, 1] []) [(0, .sl v1), (1, .int .i64 v2), (2, .int .i64 v3), (7, .ptr v4 0), (9, .sl v5), (10, .int .i64 v6), (63, .bool v7)] H (r16_j0 app v1 v2 v3 v4 v5 v6 v7 H) := by
  unfold r16_j0
  refine f_if (fun h1 => ?_) (fun h1 => ?_)
  · skip
    refine f_know 63 rfl (bool_T h1) ?_
    refine f_condT rfl ?_
    refine f_seq ?_
    refine f_region ?_
    refine f_op rfl rfl (s_mv (v := .int .i64 v6) rfl) ?_
    refine f_op rfl rfl (s_eql rfl rfl) ?_
    refine f_op rfl rfl (s_mv (v := .bool (decide (v6 = 2))) rfl) ?_
    refine o_if (fun h2 => ?_) (fun h2 => ?_)
    · skip
      refine o_know 66 rfl (dec_true h2) ?_
      refine f_no rfl rfl ?_
      refine f_no rfl rfl ?_
      refine f_op rfl rfl (s_pickT (v := .bool true) rfl rfl) ?_
      refine f_op rfl rfl (s_mv (v := .bool true) rfl) ?_
      refine o_bind ?_; intro p3 hp3
      refine o_bind ?_; intro x4 hx4
      refine f_op rfl rfl (s_callA happ rfl hp3) ?_
      refine o_know 71 rfl (asB_eq hx4) ?_
      refine f_op rfl rfl (s_pickT (v := .bool x4) rfl rfl) ?_
      refine f_op rfl rfl (s_as (v := .bool x4) rfl) ?_
      refine f_nil ?_
      exact f_ret (.tmp rfl (.nil)) rfl
    · skip
      refine o_know 66 rfl (dec_false h2) ?_
      refine f_op rfl rfl (s_mv (v := .int .i64 v6) rfl) ?_
      refine f_op rfl rfl (s_eql rfl rfl) ?_
      refine f_op rfl rfl (s_pickF (v := .bool (decide (v6 = 4))) rfl rfl) ?_
      refine f_op rfl rfl (s_mv (v := .bool (decide (v6 = 4))) rfl) ?_
      refine o_if (fun h5 => ?_) (fun h5 => ?_)
      · skip
        refine o_know 70 rfl (dec_true h5) ?_
        refine o_bind ?_; intro p6 hp6
        refine o_bind ?_; intro x7 hx7
        refine f_op rfl rfl (s_callA happ rfl hp6) ?_
        refine o_know 71 rfl (asB_eq hx7) ?_
        refine f_op rfl rfl (s_pickT (v := .bool x7) rfl rfl) ?_
        refine f_op rfl rfl (s_as (v := .bool x7) rfl) ?_
        refine f_nil ?_
        exact f_ret (.tmp rfl (.nil)) rfl
      · skip
        refine o_know 70 rfl (dec_false h5) ?_
        refine f_no rfl rfl ?_
        refine f_op rfl rfl (s_pickF (v := .bool false) rfl rfl) ?_
        refine f_op rfl rfl (s_as (v := .bool false) rfl) ?_
        refine f_nil ?_
        exact f_ret (.tmp rfl (.nil)) rfl
  · skip
    refine f_know 63 rfl (bool_F h1) ?_
    refine f_condF rfl ?_
    refine f_skip ?_
    refine f_seq ?_
    refine f_seq ?_
    refine f_region ?_
    refine f_op rfl rfl (s_mv (v := .sl v5) rfl) ?_
    refine o_bind ?_; intro p8 hp8
    refine f_op rfl rfl (s_callF rfl ok36 (sim36 hp8)) ?_
    refine o_bind ?_; intro p9 hp9
    refine f_op rfl rfl (s_callF rfl ok19 (sim19 hp9)) ?_
    refine f_op rfl rfl (s_not rfl) ?_
    refine f_nil ?_
    refine f_if (fun h10 => ?_) (fun h10 => ?_)
    · skip
      refine f_know 76 rfl (bool_notT h10) ?_
      refine f_condF rfl ?_
      refine f_skip ?_
      refine f_seq ?_
      refine f_region ?_
      refine f_op rfl rfl (s_mv (v := .sl v1) rfl) ?_
      refine o_bind ?_; intro p11 hp11
      refine f_op rfl rfl (s_callF rfl ok18 (sim18 hp11)) ?_
      refine o_bind ?_; intro p12 hp12
      refine f_op rfl rfl (s_callF rfl ok40 (sim40 happ hp12)) ?_
      refine f_op rfl rfl (s_mv (v := .tup [.sl p12.1.1, .int .i64 p12.1.2]) rfl) ?_
      refine f_op rfl rfl (s_extract (r := .sl p12.1.1) rfl rfl) ?_
      refine f_op rfl rfl (s_extract (r := .int .i64 p12.1.2) rfl rfl) ?_
      refine f_op rfl rfl (s_as (v := .sl p12.1.1) rfl) ?_
      refine f_op rfl rfl (s_as (v := .int .i64 p12.1.2) rfl) ?_
      refine f_nil ?_
      refine f_seq ?_
      refine f_region ?_
      refine f_op rfl rfl (s_mv (v := .sl v5) rfl) ?_
      refine o_bind ?_; intro p13 hp13
      refine f_op rfl rfl (s_callF rfl ok49 (sim49 hp13)) ?_
      refine o_bind ?_; intro p14 hp14
      refine f_op rfl rfl (s_callF rfl ok40 (sim40 happ hp14)) ?_
      refine f_op rfl rfl (s_mv (v := .tup [.sl p14.1.1, .int .i64 p14.1.2]) rfl) ?_
      refine f_op rfl rfl (s_extract (r := .sl p14.1.1) rfl rfl) ?_
      refine f_op rfl rfl (s_extract (r := .int .i64 p14.1.2) rfl rfl) ?_
      refine f_op rfl rfl (s_as (v := .sl p14.1.1) rfl) ?_
      refine f_op rfl rfl (s_as (v := .int .i64 p14.1.2) rfl) ?_
      refine f_nil ?_
      refine f_seq ?_
      refine f_region ?_
      refine f_op rfl rfl (s_mv (v := .sl v1) rfl) ?_
      refine o_bind ?_; intro p15 hp15
      refine f_op rfl rfl (s_callF rfl ok18 (sim18 hp15)) ?_
      refine o_bind ?_; intro p16 hp16
      refine f_op rfl rfl (s_callF rfl ok23 (sim23 happ hp16)) ?_
      refine f_op rfl rfl (s_mv (v := .tup [.sl p16.1.1, .int .i64 p16.1.2]) rfl) ?_
      refine f_op rfl rfl (s_extract (r := .sl p16.1.1) rfl rfl) ?_
      refine f_op rfl rfl (s_extract (r := .int .i64 p16.1.2) rfl rfl) ?_
      refine f_op rfl rfl (s_as (v := .sl p16.1.1) rfl) ?_
      refine f_op rfl rfl (s_as (v := .int .i64 p16.1.2) rfl) ?_
      refine f_nil ?_
      refine f_seq ?_
      refine f_region ?_
      refine f_op rfl rfl (s_mv (v := .sl v5) rfl) ?_
      refine o_bind ?_; intro p17 hp17
      refine f_op rfl rfl (s_callF rfl ok49 (sim49 hp17)) ?_
      refine o_bind ?_; intro p18 hp18
      refine f_op rfl rfl (s_callF rfl ok23 (sim23 happ hp18)) ?_
      refine f_op rfl rfl (s_mv (v := .tup [.sl p18.1.1, .int .i64 p18.1.2]) rfl) ?_
      refine f_op rfl rfl (s_extract (r := .sl p18.1.1) rfl rfl) ?_
      refine f_op rfl rfl (s_extract (r := .int .i64 p18.1.2) rfl rfl) ?_
      refine f_op rfl rfl (s_as (v := .sl p18.1.1) rfl) ?_
      refine f_op rfl rfl (s_as (v := .int .i64 p18.1.2) rfl) ?_
      refine f_nil ?_
      refine f_seq ?_
      refine f_region ?_
      refine f_op rfl rfl (s_mv (v := .sl v1) rfl) ?_
      refine o_bind ?_; intro p19 hp19
      refine f_op rfl rfl (s_callF rfl ok18 (sim18 hp19)) ?_
      refine o_bind ?_; intro p20 hp20
      refine f_op rfl rfl (s_callF rfl ok51 (sim51 happ hp20)) ?_
      refine f_op rfl rfl (s_mv (v := .tup [.sl p20.1.1, .int .i64 p20.1.2]) rfl) ?_
      refine f_op rfl rfl (s_extract (r := .sl p20.1.1) rfl rfl) ?_
      refine f_op rfl rfl (s_extract (r := .int .i64 p20.1.2) rfl rfl) ?_
      refine f_op rfl rfl (s_as (v := .sl p20.1.1) rfl) ?_
      refine f_op rfl rfl (s_as (v := .int .i64 p20.1.2) rfl) ?_
      refine f_nil ?_
      refine f_seq ?_
      refine f_region ?_
      refine f_op rfl rfl (s_mv (v := .sl v5) rfl) ?_
      refine o_bind ?_; intro p21 hp21
      refine f_op rfl rfl (s_callF rfl ok49 (sim49 hp21)) ?_
      refine o_bind ?_; intro p22 hp22
      refine f_op rfl rfl (s_callF rfl ok51 (sim51 happ hp22)) ?_
      refine f_op rfl rfl (s_mv (v := .tup [.sl p22.1.1, .int .i64 p22.1.2]) rfl) ?_
      refine f_op rfl rfl (s_extract (r := .sl p22.1.1) rfl rfl) ?_
      refine f_op rfl rfl (s_extract (r := .int .i64 p22.1.2) rfl rfl) ?_
      refine f_op rfl rfl (s_as (v := .sl p22.1.1) rfl) ?_
      refine f_op rfl rfl (s_as (v := .int .i64 p22.1.2) rfl) ?_
      refine f_nil ?_
      refine f_seq ?_
      refine f_seq ?_
      refine f_region ?_
      refine f_op rfl rfl (s_mv (v := .int .i64 p12.1.2) rfl) ?_
      refine f_op rfl rfl (s_neq rfl rfl) ?_
      refine f_op rfl rfl (s_mv (v := .bool (decide (p12.1.2 ≠ 0))) rfl) ?_
      refine o_if (fun h23 => ?_) (fun h23 => ?_)
      · skip
        refine o_know 115 rfl (dec_true h23) ?_
        refine f_no rfl rfl ?_
        refine f_no rfl rfl ?_
        refine f_op rfl rfl (s_pickT (v := .bool true) rfl rfl) ?_
        refine f_op rfl rfl (s_mv (v := .bool true) rfl) ?_
        refine f_no rfl rfl ?_
        refine f_no rfl rfl ?_
        refine f_no rfl rfl ?_
        refine f_op rfl rfl (s_pickT (v := .bool true) rfl rfl) ?_
        refine f_op rfl rfl (s_mv (v := .bool true) rfl) ?_
        refine f_no rfl rfl ?_
        refine f_no rfl rfl ?_
        refine f_op rfl rfl (s_pickT (v := .bool true) rfl rfl) ?_
        refine f_op rfl rfl (s_mv (v := .bool true) rfl) ?_
        refine f_no rfl rfl ?_
        refine f_no rfl rfl ?_
        refine f_op rfl rfl (s_pickT (v := .bool true) rfl rfl) ?_
        refine f_op rfl rfl (s_mv (v := .bool true) rfl) ?_
        refine f_no rfl rfl ?_
        refine f_no rfl rfl ?_
        refine f_no rfl rfl ?_
        refine f_no rfl rfl ?_
        refine f_no rfl rfl ?_
        refine f_op rfl rfl (s_pickT (v := .bool true) rfl rfl) ?_
        refine f_op rfl rfl (s_mv (v := .bool true) rfl) ?_
        refine f_no rfl rfl ?_
        refine f_no rfl rfl ?_
        refine f_no rfl rfl ?_
        refine f_no rfl rfl ?_
        refine f_no rfl rfl ?_
        refine f_op rfl rfl (s_pickT (v := .bool true) rfl rfl) ?_
        refine f_op rfl rfl (s_mv (v := .bool true) rfl) ?_
        refine f_no rfl rfl ?_
        refine f_no rfl rfl ?_
        refine f_no rfl rfl ?_
        refine f_no rfl rfl ?_
        refine f_no rfl rfl ?_
        refine f_op rfl rfl (s_pickT (v := .bool true) rfl rfl) ?_
        refine f_nil ?_
        refine f_keep [0, 1, 2, 7, 9, 11, 13, 15, 17, 19, 21, 152] ?_
        exact s16_j1 happ v1 v2 v3 v4 v5 p12.1.1 p14.1.1 p16.1.1 p18.1.1 p20.1.1 p22.1.1 true p22.2
      · skip
        refine o_know 115 rfl (dec_false h23) ?_
        refine f_op rfl rfl (s_mv (v := .int .i64 p14.1.2) rfl) ?_
        refine f_op rfl rfl (s_neq rfl rfl) ?_
        refine f_op rfl rfl (s_pickF (v := .bool (decide (p14.1.2 ≠ 0))) rfl rfl) ?_
        refine f_op rfl rfl (s_mv (v := .bool (decide (p14.1.2 ≠ 0))) rfl) ?_
        refine o_if (fun h24 => ?_) (fun h24 => ?_)
        · skip
          refine o_know 119 rfl (dec_true h24) ?_
          refine f_no rfl rfl ?_
          refine f_no rfl rfl ?_
          refine f_no rfl rfl ?_
          refine f_op rfl rfl (s_pickT (v := .bool true) rfl rfl) ?_
          refine f_op rfl rfl (s_mv (v := .bool true) rfl) ?_
          refine f_no rfl rfl ?_
          refine f_no rfl rfl ?_
          refine f_op rfl rfl (s_pickT (v := .bool true) rfl rfl) ?_
          refine f_op rfl rfl (s_mv (v := .bool true) rfl) ?_
          refine f_no rfl rfl ?_
          refine f_no rfl rfl ?_
          refine f_op rfl rfl (s_pickT (v := .bool true) rfl rfl) ?_
          refine f_op rfl rfl (s_mv (v := .bool true) rfl) ?_
          refine f_no rfl rfl ?_
          refine f_no rfl rfl ?_
          refine f_no rfl rfl ?_
          refine f_no rfl rfl ?_
          refine f_no rfl rfl ?_
          refine f_op rfl rfl (s_pickT (v := .bool true) rfl rfl) ?_
          refine f_op rfl rfl (s_mv (v := .bool true) rfl) ?_
          refine f_no rfl rfl ?_
          refine f_no rfl rfl ?_
          refine f_no rfl rfl ?_
          refine f_no rfl rfl ?_
          refine f_no rfl rfl ?_
          refine f_op rfl rfl (s_pickT (v := .bool true) rfl rfl) ?_
          refine f_op rfl rfl (s_mv (v := .bool true) rfl) ?_
          refine f_no rfl rfl ?_
          refine f_no rfl rfl ?_
          refine f_no rfl rfl ?_
          refine f_no rfl rfl ?_
          refine f_no rfl rfl ?_
          refine f_op rfl rfl (s_pickT (v := .bool true) rfl rfl) ?_
          refine f_nil ?_
          refine f_keep [0, 1, 2, 7, 9, 11, 13, 15, 17, 19, 21, 152] ?_
          exact s16_j1 happ v1 v2 v3 v4 v5 p12.1.1 p14.1.1 p16.1.1 p18.1.1 p20.1.1 p22.1.1 true p22.2
        · skip
          refine o_know 119 rfl (dec_false h24) ?_
          refine f_op rfl rfl (s_mv (v := .int .i64 p16.1.2) rfl) ?_
          refine f_op rfl rfl (s_mv (v := .int .i64 p18.1.2) rfl) ?_
          refine f_op rfl rfl (s_neq rfl rfl) ?_
          refine f_op rfl rfl (s_pickF (v := .bool (decide (p16.1.2 ≠ p18.1.2))) rfl rfl) ?_
          refine f_op rfl rfl (s_mv (v := .bool (decide (p16.1.2 ≠ p18.1.2))) rfl) ?_
          refine o_if (fun h25 => ?_) (fun h25 => ?_)
          · skip
            refine o_know 124 rfl (dec_true h25) ?_
            refine f_no rfl rfl ?_
            refine f_no rfl rfl ?_
            refine f_op rfl rfl (s_pickT (v := .bool true) rfl rfl) ?_
            refine f_op rfl rfl (s_mv (v := .bool true) rfl) ?_
            refine f_no rfl rfl ?_
            refine f_no rfl rfl ?_
            refine f_op rfl rfl (s_pickT (v := .bool true) rfl rfl) ?_
            refine f_op rfl rfl (s_mv (v := .bool true) rfl) ?_
            refine f_no rfl rfl ?_
            refine f_no rfl rfl ?_
            refine f_no rfl rfl ?_
            refine f_no rfl rfl ?_
            refine f_no rfl rfl ?_
            refine f_op rfl rfl (s_pickT (v := .bool true) rfl rfl) ?_
            refine f_op rfl rfl (s_mv (v := .bool true) rfl) ?_
            refine f_no rfl rfl ?_
            refine f_no rfl rfl ?_
            refine f_no rfl rfl ?_
            refine f_no rfl rfl ?_
            refine f_no rfl rfl ?_
            refine f_op rfl rfl (s_pickT (v := .bool true) rfl rfl) ?_
            refine f_op rfl rfl (s_mv (v := .bool true) rfl) ?_
            refine f_no rfl rfl ?_
            refine f_no rfl rfl ?_
            refine f_no rfl rfl ?_
            refine f_no rfl rfl ?_
            refine f_no rfl rfl ?_
            refine f_op rfl rfl (s_pickT (v := .bool true) rfl rfl) ?_
            refine f_nil ?_
            refine f_keep [0, 1, 2, 7, 9, 11, 13, 15, 17, 19, 21, 152] ?_
            exact s16_j1 happ v1 v2 v3 v4 v5 p12.1.1 p14.1.1 p16.1.1 p18.1.1 p20.1.1 p22.1.1 true p22.2
          · skip
            refine o_know 124 rfl (dec_false h25) ?_
            refine f_op rfl rfl (s_mv (v := .int .i64 p20.1.2) rfl) ?_
            refine f_op rfl rfl (s_neq rfl rfl) ?_
            refine f_op rfl rfl (s_pickF (v := .bool (decide (p20.1.2 ≠ 0))) rfl rfl) ?_
            refine f_op rfl rfl (s_mv (v := .bool (decide (p20.1.2 ≠ 0))) rfl) ?_
            refine o_if (fun h26 => ?_) (fun h26 => ?_)
            · skip
              refine o_know 128 rfl (dec_true h26) ?_
              refine f_no rfl rfl ?_
              refine f_no rfl rfl ?_
              refine f_op rfl rfl (s_pickT (v := .bool true) rfl rfl) ?_
              refine f_op rfl rfl (s_mv (v := .bool true) rfl) ?_
              refine f_no rfl rfl ?_
              refine f_no rfl rfl ?_
              refine f_no rfl rfl ?_
              refine f_no rfl rfl ?_
              refine f_no rfl rfl ?_
              refine f_op rfl rfl (s_pickT (v := .bool true) rfl rfl) ?_
              refine f_op rfl rfl (s_mv (v := .bool true) rfl) ?_
              refine f_no rfl rfl ?_
              refine f_no rfl rfl ?_
              refine f_no rfl rfl ?_
              refine f_no rfl rfl ?_
              refine f_no rfl rfl ?_
              refine f_op rfl rfl (s_pickT (v := .bool true) rfl rfl) ?_
              refine f_op rfl rfl (s_mv (v := .bool true) rfl) ?_
              refine f_no rfl rfl ?_
              refine f_no rfl rfl ?_
              refine f_no rfl rfl ?_
              refine f_no rfl rfl ?_
              refine f_no rfl rfl ?_
              refine f_op rfl rfl (s_pickT (v := .bool true) rfl rfl) ?_
              refine f_nil ?_
              refine f_keep [0, 1, 2, 7, 9, 11, 13, 15, 17, 19, 21, 152] ?_
              exact s16_j1 happ v1 v2 v3 v4 v5 p12.1.1 p14.1.1 p16.1.1 p18.1.1 p20.1.1 p22.1.1 true p22.2
            · skip
              refine o_know 128 rfl (dec_false h26) ?_
              refine f_op rfl rfl (s_mv (v := .int .i64 p22.1.2) rfl) ?_
              refine f_op rfl rfl (s_neq rfl rfl) ?_
              refine f_op rfl rfl (s_pickF (v := .bool (decide (p22.1.2 ≠ 0))) rfl rfl) ?_
              refine f_op rfl rfl (s_mv (v := .bool (decide (p22.1.2 ≠ 0))) rfl) ?_
              refine o_if (fun h27 => ?_) (fun h27 => ?_)
              · skip
                refine o_know 132 rfl (dec_true h27) ?_
                refine f_no rfl rfl ?_
                refine f_no rfl rfl ?_
                refine f_no rfl rfl ?_
                refine f_no rfl rfl ?_
                refine f_no rfl rfl ?_
                refine f_op rfl rfl (s_pickT (v := .bool true) rfl rfl) ?_
                refine f_op rfl rfl (s_mv (v := .bool true) rfl) ?_
                refine f_no rfl rfl ?_
                refine f_no rfl rfl ?_
                refine f_no rfl rfl ?_
                refine f_no rfl rfl ?_
                refine f_no rfl rfl ?_
                refine f_op rfl rfl (s_pickT (v := .bool true) rfl rfl) ?_
                refine f_op rfl rfl (s_mv (v := .bool true) rfl) ?_
                refine f_no rfl rfl ?_
                refine f_no rfl rfl ?_
                refine f_no rfl rfl ?_
                refine f_no rfl rfl ?_
                refine f_no rfl rfl ?_
                refine f_op rfl rfl (s_pickT (v := .bool true) rfl rfl) ?_
                refine f_nil ?_
                refine f_keep [0, 1, 2, 7, 9, 11, 13, 15, 17, 19, 21, 152] ?_
                exact s16_j1 happ v1 v2 v3 v4 v5 p12.1.1 p14.1.1 p16.1.1 p18.1.1 p20.1.1 p22.1.1 true p22.2
              · skip
                refine o_know 132 rfl (dec_false h27) ?_
                refine f_op rfl rfl (s_mv (v := .sl p12.1.1) rfl) ?_
                refine f_op rfl rfl (s_lenS rfl Try.underlying37 rfl) ?_
                refine f_op rfl rfl (s_mv (v := .sl p14.1.1) rfl) ?_
                refine f_op rfl rfl (s_lenS rfl Try.underlying37 rfl) ?_
                refine f_op rfl rfl (s_neq rfl rfl) ?_
                refine f_op rfl rfl (s_pickF (v := .bool (decide ((p12.1.1.len : Int) ≠ (p14.1.1.len : Int)))) rfl rfl) ?_
                refine f_op rfl rfl (s_mv (v := .bool (decide ((p12.1.1.len : Int) ≠ (p14.1.1.len : Int)))) rfl) ?_
                refine o_if (fun h28 => ?_) (fun h28 => ?_)
                · skip
                  refine o_know 139 rfl (dec_true h28) ?_
                  refine f_no rfl rfl ?_
                  refine f_no rfl rfl ?_
                  refine f_no rfl rfl ?_
                  refine f_no rfl rfl ?_
                  refine f_no rfl rfl ?_
                  refine f_op rfl rfl (s_pickT (v := .bool true) rfl rfl) ?_
                  refine f_op rfl rfl (s_mv (v := .bool true) rfl) ?_
                  refine f_no rfl rfl ?_
                  refine f_no rfl rfl ?_
                  refine f_no rfl rfl ?_
                  refine f_no rfl rfl ?_
                  refine f_no rfl rfl ?_
                  refine f_op rfl rfl (s_pickT (v := .bool true) rfl rfl) ?_
                  refine f_nil ?_
                  refine f_keep [0, 1, 2, 7, 9, 11, 13, 15, 17, 19, 21, 152] ?_
                  exact s16_j1 happ v1 v2 v3 v4 v5 p12.1.1 p14.1.1 p16.1.1 p18.1.1 p20.1.1 p22.1.1 true p22.2
                · skip
                  refine o_know 139 rfl (dec_false h28) ?_
                  refine f_op rfl rfl (s_mv (v := .sl p16.1.1) rfl) ?_
                  refine f_op rfl rfl (s_lenS rfl Try.underlying37 rfl) ?_
                  refine f_op rfl rfl (s_mv (v := .sl p18.1.1) rfl) ?_
                  refine f_op rfl rfl (s_lenS rfl Try.underlying37 rfl) ?_
                  refine f_op rfl rfl (s_neq rfl rfl) ?_
                  refine f_op rfl rfl (s_pickF (v := .bool (decide ((p16.1.1.len : Int) ≠ (p18.1.1.len : Int)))) rfl rfl) ?_
                  refine f_op rfl rfl (s_mv (v := .bool (decide ((p16.1.1.len : Int) ≠ (p18.1.1.len : Int)))) rfl) ?_
                  refine o_if (fun h29 => ?_) (fun h29 => ?_)
                  · skip
                    refine o_know 146 rfl (dec_true h29) ?_
                    refine f_no rfl rfl ?_
                    refine f_no rfl rfl ?_
                    refine f_no rfl rfl ?_
                    refine f_no rfl rfl ?_
                    refine f_no rfl rfl ?_
                    refine f_op rfl rfl (s_pickT (v := .bool true) rfl rfl) ?_
                    refine f_nil ?_
                    refine f_keep [0, 1, 2, 7, 9, 11, 13, 15, 17, 19, 21, 152] ?_
                    exact s16_j1 happ v1 v2 v3 v4 v5 p12.1.1 p14.1.1 p16.1.1 p18.1.1 p20.1.1 p22.1.1 true p22.2
                  · skip
                    refine o_know 146 rfl (dec_false h29) ?_
                    refine f_op rfl rfl (s_mv (v := .sl p20.1.1) rfl) ?_
                    refine f_op rfl rfl (s_lenS rfl Try.underlying83 rfl) ?_
                    refine f_op rfl rfl (s_mv (v := .sl p22.1.1) rfl) ?_
                    refine f_op rfl rfl (s_lenS rfl Try.underlying83 rfl) ?_
                    refine f_op rfl rfl (s_neq rfl rfl) ?_
                    refine f_op rfl rfl (s_pickF (v := .bool (decide ((p20.1.1.len : Int) ≠ (p22.1.1.len : Int)))) rfl rfl) ?_
                    refine f_nil ?_
                    refine f_keep [0, 1, 2, 7, 9, 11, 13, 15, 17, 19, 21, 152] ?_
                    exact s16_j1 happ v1 v2 v3 v4 v5 p12.1.1 p14.1.1 p16.1.1 p18.1.1 p20.1.1 p22.1.1 (decide ((p20.1.1.len : Int) ≠ (p22.1.1.len : Int))) p22.2
    · skip
      refine f_know 76 rfl (bool_notF h10) ?_
      refine f_condT rfl ?_
      refine f_seq ?_
      refine f_region ?_
      refine f_op rfl rfl (s_as (v := .bool false) rfl) ?_
      refine f_nil ?_
      exact f_ret (.tmp rfl (.nil)) rfl

theorem sim16 {app : App} (happ : AppSim Try.prog app) {a0 : Sl} {a1 : Int} {a2 : Int} {a3_0 : Int} {a3_1 : Int} {a3_2 : Int} {a3_3 : Int} {H : Hp} {p : Bool × Hp} (h : r16 app a0 a1 a2 a3_0 a3_1 a3_2 a3_3 H = some p) : CallSim Try.prog 16 [.sl a0, .int .i64 a1, .int .i64 a2, .agg [.int .i64 a3_0, .int .i64 a3_1, .int .i64 a3_2, .int .i64 a3_3]] H (.bool p.1) p.2 := by
  refine callSim (fn := Try.f16) (ret := ret16) Try.func16 rfl Try.ntmps16 rfl ?_ h
  unfold r16
  refine f_seq ?_
  refine f_region ?_
  refine f_op rfl rfl (s_box (v := .agg [.int .i64 a3_0, .int .i64 a3_1, .int .i64 a3_2, .int .i64 a3_3]) rfl rfl) ?_
  refine f_op rfl rfl (s_as (v := .bool false) rfl) ?_
  refine o_hp ?_; intro H1 hH1
  refine f_nil ?_
  refine f_seq ?_
  refine f_region ?_
  refine f_op rfl rfl (s_mv (v := .sl a0) rfl) ?_
  refine o_bind ?_; intro p2 hp2
  refine f_op rfl rfl (s_callF rfl ok18 (sim18 hp2)) ?_
  refine f_op rfl rfl (s_mv (v := .int .i64 a1) rfl) ?_
  refine f_op rfl rfl (s_mv (v := .int .i64 a2) rfl) ?_
  refine o_bind ?_; intro p3 hp3
  refine f_op rfl rfl (s_callF rfl ok33 (sim33 happ hp3)) ?_
  refine f_op rfl rfl (s_mv (v := .tup [.sl p3.1.1, .int .i64 p3.1.2]) rfl) ?_
  refine f_op rfl rfl (s_extract (r := .sl p3.1.1) rfl rfl) ?_
  refine f_op rfl rfl (s_extract (r := .int .i64 p3.1.2) rfl rfl) ?_
  refine f_op rfl rfl (s_as (v := .sl p3.1.1) rfl) ?_
  refine f_op rfl rfl (s_as (v := .int .i64 p3.1.2) rfl) ?_
  refine f_nil ?_
  refine f_seq ?_
  refine f_seq ?_
  refine f_region ?_
  refine f_op rfl rfl (s_mv (v := .int .i64 p3.1.2) rfl) ?_
  refine f_op rfl rfl (s_neq rfl rfl) ?_
  refine f_op rfl rfl (s_mv (v := .bool (decide (p3.1.2 ≠ 0))) rfl) ?_
  refine o_if (fun h4 => ?_) (fun h4 => ?_)
  · skip
    refine o_know 43 rfl (dec_true h4) ?_
    refine f_no rfl rfl ?_
    refine f_no rfl rfl ?_
    refine f_no rfl rfl ?_
    refine f_op rfl rfl (s_pickT (v := .bool true) rfl rfl) ?_
    refine f_op rfl rfl (s_mv (v := .bool true) rfl) ?_
    refine f_no rfl rfl ?_
    refine f_no rfl rfl ?_
    refine f_op rfl rfl (s_pickT (v := .bool true) rfl rfl) ?_
    refine f_op rfl rfl (s_mv (v := .bool true) rfl) ?_
    refine f_no rfl rfl ?_
    refine f_no rfl rfl ?_
    refine f_op rfl rfl (s_pickT (v := .bool true) rfl rfl) ?_
    refine f_op rfl rfl (s_mv (v := .bool true) rfl) ?_
    refine f_no rfl rfl ?_
    refine f_no rfl rfl ?_
    refine f_op rfl rfl (s_pickT (v := .bool true) rfl rfl) ?_
    refine f_op rfl rfl (s_mv (v := .bool true) rfl) ?_
    refine f_no rfl rfl ?_
    refine f_no rfl rfl ?_
    refine f_op rfl rfl (s_pickT (v := .bool true) rfl rfl) ?_
    refine f_nil ?_
    refine f_keep [0, 1, 2, 7, 9, 10, 63] ?_
    exact s16_j0 happ a0 a1 a2 H.n p3.1.1 p3.1.2 true p3.2
  · skip
    refine o_know 43 rfl (dec_false h4) ?_
    refine f_op rfl rfl (s_mv (v := .sl a0) rfl) ?_
    refine o_bind ?_; intro p5 hp5
    refine f_op rfl rfl (s_callF rfl ok19 (sim19 hp5)) ?_
    refine f_op rfl rfl (s_not rfl) ?_
    refine f_op rfl rfl (s_pickF (v := .bool (!p5.1)) rfl rfl) ?_
    refine f_op rfl rfl (s_mv (v := .bool (!p5.1)) rfl) ?_
    refine o_if (fun h6 => ?_) (fun h6 => ?_)
    · skip
      refine o_know 48 rfl (bool_notT h6) ?_
      refine f_op rfl rfl (s_mv (v := .int .i64 a1) rfl) ?_
      refine f_op rfl rfl (s_lss rfl rfl) ?_
      refine f_op rfl rfl (s_pickF (v := .bool (decide (a1 < (-5)))) rfl rfl) ?_
      refine f_op rfl rfl (s_mv (v := .bool (decide (a1 < (-5)))) rfl) ?_
      refine o_if (fun h7 => ?_) (fun h7 => ?_)
      · skip
        refine o_know 52 rfl (dec_true h7) ?_
        refine f_no rfl rfl ?_
        refine f_no rfl rfl ?_
        refine f_op rfl rfl (s_pickT (v := .bool true) rfl rfl) ?_
        refine f_op rfl rfl (s_mv (v := .bool true) rfl) ?_
        refine f_no rfl rfl ?_
        refine f_no rfl rfl ?_
        refine f_op rfl rfl (s_pickT (v := .bool true) rfl rfl) ?_
        refine f_op rfl rfl (s_mv (v := .bool true) rfl) ?_
        refine f_no rfl rfl ?_
        refine f_no rfl rfl ?_
        refine f_op rfl rfl (s_pickT (v := .bool true) rfl rfl) ?_
        refine f_nil ?_
        refine f_keep [0, 1, 2, 7, 9, 10, 63] ?_
        exact s16_j0 happ a0 a1 a2 H.n p3.1.1 p3.1.2 true p5.2
      · skip
        refine o_know 52 rfl (dec_false h7) ?_
        refine f_op rfl rfl (s_mv (v := .int .i64 a1) rfl) ?_
        refine f_op rfl rfl (s_gtr rfl rfl) ?_
        refine f_op rfl rfl (s_pickF (v := .bool (decide (5 < a1))) rfl rfl) ?_
        refine f_op rfl rfl (s_mv (v := .bool (decide (5 < a1))) rfl) ?_
        refine o_if (fun h8 => ?_) (fun h8 => ?_)
        · skip
          refine o_know 56 rfl (dec_true h8) ?_
          refine f_no rfl rfl ?_
          refine f_no rfl rfl ?_
          refine f_op rfl rfl (s_pickT (v := .bool true) rfl rfl) ?_
          refine f_op rfl rfl (s_mv (v := .bool true) rfl) ?_
          refine f_no rfl rfl ?_
          refine f_no rfl rfl ?_
          refine f_op rfl rfl (s_pickT (v := .bool true) rfl rfl) ?_
          refine f_nil ?_
          refine f_keep [0, 1, 2, 7, 9, 10, 63] ?_
          exact s16_j0 happ a0 a1 a2 H.n p3.1.1 p3.1.2 true p5.2
        · skip
          refine o_know 56 rfl (dec_false h8) ?_
          refine f_op rfl rfl (s_mv (v := .int .i64 a2) rfl) ?_
          refine f_op rfl rfl (s_lss rfl rfl) ?_
          refine f_op rfl rfl (s_pickF (v := .bool (decide (a2 < (-5)))) rfl rfl) ?_
          refine f_op rfl rfl (s_mv (v := .bool (decide (a2 < (-5)))) rfl) ?_
          refine o_if (fun h9 => ?_) (fun h9 => ?_)
          · skip
            refine o_know 60 rfl (dec_true h9) ?_
            refine f_no rfl rfl ?_
            refine f_no rfl rfl ?_
            refine f_op rfl rfl (s_pickT (v := .bool true) rfl rfl) ?_
            refine f_nil ?_
            refine f_keep [0, 1, 2, 7, 9, 10, 63] ?_
            exact s16_j0 happ a0 a1 a2 H.n p3.1.1 p3.1.2 true p5.2
          · skip
            refine o_know 60 rfl (dec_false h9) ?_
            refine f_op rfl rfl (s_mv (v := .int .i64 a2) rfl) ?_
            refine f_op rfl rfl (s_gtr rfl rfl) ?_
            refine f_op rfl rfl (s_pickF (v := .bool (decide (5 < a2))) rfl rfl) ?_
            refine f_nil ?_
            refine f_keep [0, 1, 2, 7, 9, 10, 63] ?_
            exact s16_j0 happ a0 a1 a2 H.n p3.1.1 p3.1.2 (decide (5 < a2)) p5.2
    · skip
      refine o_know 48 rfl (bool_notF h6) ?_
      refine f_no rfl rfl ?_
      refine f_no rfl rfl ?_
      refine f_op rfl rfl (s_pickT (v := .bool true) rfl rfl) ?_
      refine f_op rfl rfl (s_mv (v := .bool true) rfl) ?_
      refine f_no rfl rfl ?_
      refine f_no rfl rfl ?_
      refine f_op rfl rfl (s_pickT (v := .bool true) rfl rfl) ?_
      refine f_op rfl rfl (s_mv (v := .bool true) rfl) ?_
      refine f_no rfl rfl ?_
      refine f_no rfl rfl ?_
      refine f_op rfl rfl (s_pickT (v := .bool true) rfl rfl) ?_
      refine f_op rfl rfl (s_mv (v := .bool true) rfl) ?_
      refine f_no rfl rfl ?_
      refine f_no rfl rfl ?_
      refine f_op rfl rfl (s_pickT (v := .bool true) rfl rfl) ?_
      refine f_nil ?_
      refine f_keep [0, 1, 2, 7, 9, 10, 63] ?_
      exact s16_j0 happ a0 a1 a2 H.n p3.1.1 p3.1.2 true p5.2

end Go.Lt.P2
