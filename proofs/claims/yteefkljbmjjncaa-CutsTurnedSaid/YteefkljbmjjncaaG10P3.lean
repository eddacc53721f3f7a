/- PRINTED BY A PROGRAM OF OURS: what each function that 'CutsTurned' reaches computes on the abstract heap, and that the translated code does just that. Nothing is asked of the input. -/
import Derived.Test.YteefkljbmjjncaaG10P2
set_option linter.unusedVariables false
set_option linter.unusedSimpArgs false
set_option maxRecDepth 100000
set_option maxHeartbeats 4000000
namespace Go.Lt.P2
open Go Go.Lt Go.Proofs
/- 35 slices.Equal[[]congou/congouref02.Side,congou/congouref02.Side] -/
theorem ok35 : FnOk Try.prog 35 := ⟨⟨Try.f35, Try.func35, by kernel_rfl, rfl⟩⟩
theorem s35_l0 : ∀ (k_ : Nat) (v1 : Sl) (v2 : Sl) (v3 : Int) (v4 : Int) (H : Hp), Fin Try.prog Try.f35 ret35 26 (todoAt (bodyOf Try.f35) [1, 1, 0, 1, 0, 0] []) [(0, .sl v1), (1, .sl v2), (12, .int .i64 v3), (13, .int .i64 v4)] H (r35_l0 k_ v1 v2 v3 v4 H) := by
  intro k_
  induction k_ with
  | zero => intro _ _ _ _ _; exact f_none
  | succ k_ ih =>
    intro v1 v2 v3 v4 H
    rw [r35_l0]
    refine f_seq ?_
    refine f_region ?_
    refine f_op rfl rfl (s_lss rfl rfl) ?_
    refine f_nil ?_
    refine f_seq ?_
    refine f_if (fun h1 => ?_) (fun h1 => ?_)
    · skip
      refine f_know 14 rfl (dec_true h1) ?_
      refine f_condT rfl ?_
      refine f_skip ?_
      refine f_seq ?_
      refine f_block ?_
      refine f_seq ?_
      refine f_region ?_
      refine f_op rfl rfl (s_mv (v := .int .i64 v4) rfl) ?_
      refine f_op rfl rfl (s_as (v := .int .i64 v4) rfl) ?_
      refine f_nil ?_
      refine f_seq ?_
      refine f_ck fun g2 => ?_
      refine f_bind ?_; intro x3 hx3
      refine f_bind ?_; intro x4 hx4
      refine f_bind ?_; intro x5 hx5
      refine f_ck fun g6 => ?_
      refine f_bind ?_; intro x7 hx7
      refine f_bind ?_; intro x8 hx8
      refine f_bind ?_; intro x9 hx9
      refine f_draw (Φ := fun _ => True) (lim := 1000000) [0, 0, 0, 1, 0, 0, 0, 1, 0] (Trc.pure rfl rfl rfl (.inl fun _ => s_mv (v := .sl v1) rfl) (Trc.pure rfl rfl rfl (.inl fun _ => s_mv (v := .int .i64 v4) rfl) (Trc.pure rfl rfl rfl (.inl fun _ => s_idx Try.underlying22 ty46 rfl rfl g2) (Trc.read rfl rfl rfl (s_loads Try.underlying46 rfl ty46 rfl (lds_cons (ldI_eq hx3) (lds_cons (ldI_eq hx4) (lds_cons (ldI_eq hx5) (lds_nil))))) (Trc.pure rfl rfl rfl (.inl fun _ => s_mv (v := .sl v2) rfl) (Trc.pure rfl rfl rfl (.inl fun _ => s_mv (v := .int .i64 v4) rfl) (Trc.pure rfl rfl rfl (.inl fun _ => s_idx Try.underlying22 ty46 rfl rfl g6) (Trc.read rfl rfl rfl (s_loads Try.underlying46 rfl ty46 rfl (lds_cons (ldI_eq hx7) (lds_cons (ldI_eq hx8) (lds_cons (ldI_eq hx9) (lds_nil))))) (Trc.pure rfl rfl rfl (.inl fun _ => s_neAgg eg46 rfl rfl (eq3 Try.underlying46 Try.underlying3 Try.underlying3 Try.underlying3 (by decide) (by decide) (by decide) rfl rfl rfl sih46 x3 x4 x5 x7 x8 x9)) (Trc.nil (fun _ => trivial))))))))))) rfl (by decide +kernel) mixed ?_
      refine f_if (fun h10 => ?_) (fun h10 => ?_)
      · skip
        refine f_know 24 rfl (bool_notT h10) ?_
        refine f_condF rfl ?_
        refine f_skip ?_
        refine f_inBlock ?_
        refine f_region ?_
        refine f_op rfl rfl (s_add rfl rfl) ?_
        refine f_op rfl rfl (s_mv (v := .int .i64 (w64 (v4 + 1))) rfl) ?_
        refine f_nil ?_
        refine f_inLoop ?_
        refine f_keep [0, 1, 12, 13] ?_
        exact ih v1 v2 v3 (w64 (v4 + 1)) H
      · skip
        refine f_know 24 rfl (bool_notF h10) ?_
        refine f_condT rfl ?_
        refine f_seq ?_
        refine f_region ?_
        refine f_op rfl rfl (s_as (v := .bool false) rfl) ?_
        refine f_nil ?_
        exact f_ret (.tmp rfl (.nil)) rfl
    · skip
      refine f_know 14 rfl (dec_false h1) ?_
      refine f_condF rfl ?_
      refine f_exit rfl ?_
      refine f_seq ?_
      refine f_region ?_
      refine f_op rfl rfl (s_as (v := .bool true) rfl) ?_
      refine f_nil ?_
      exact f_ret (.tmp rfl (.nil)) rfl

theorem sim35 {a0 : Sl} {a1 : Sl} {H : Hp} {p : Bool × Hp} (h : r35 a0 a1 H = some p) : CallSim Try.prog 35 [.sl a0, .sl a1] H (.bool p.1) p.2 := by
  refine callSim (fn := Try.f35) (ret := ret35) Try.func35 rfl Try.ntmps35 rfl ?_ h
  unfold r35
  refine f_seq ?_
  refine f_region ?_
  refine f_op rfl rfl (s_as (v := .bool false) rfl) ?_
  refine f_nil ?_
  refine f_seq ?_
  refine f_seq ?_
  refine f_region ?_
  refine f_op rfl rfl (s_mv (v := .sl a0) rfl) ?_
  refine f_op rfl rfl (s_lenS rfl Try.underlying22 rfl) ?_
  refine f_op rfl rfl (s_mv (v := .sl a1) rfl) ?_
  refine f_op rfl rfl (s_lenS rfl Try.underlying22 rfl) ?_
  refine f_op rfl rfl (s_neq rfl rfl) ?_
  refine f_nil ?_
  refine f_if (fun h1 => ?_) (fun h1 => ?_)
  · skip
    refine f_know 10 rfl (dec_true h1) ?_
    refine f_condT rfl ?_
    refine f_seq ?_
    refine f_region ?_
    refine f_op rfl rfl (s_as (v := .bool false) rfl) ?_
    refine f_nil ?_
    exact f_ret (.tmp rfl (.nil)) rfl
  · skip
    refine f_know 10 rfl (dec_false h1) ?_
    refine f_condF rfl ?_
    refine f_skip ?_
    refine f_seq ?_
    refine f_seq ?_
    refine f_region ?_
    refine f_op rfl rfl (s_mv (v := .sl a0) rfl) ?_
    refine f_op rfl rfl (s_lenS rfl Try.underlying22 rfl) ?_
    refine f_op rfl rfl (s_mv (v := .int .i64 0) rfl) ?_
    refine f_nil ?_
    refine f_block ?_
    refine f_loop ?_
    refine f_keep [0, 1, 12, 13] ?_
    exact s35_l0 FUEL a0 a1 (a0.len : Int) 0 H

/- 36 congou/congoulaw02.own -/
theorem ok36 : FnOk Try.prog 36 := ⟨⟨Try.f36, Try.func36, by kernel_rfl, rfl⟩⟩
theorem s36_l0 : ∀ (k_ : Nat) (v1 : Sl) (v2 : Sl) (v3 : Int) (v4 : Int) (H : Hp), Fin Try.prog Try.f36 ret36 24 (todoAt (bodyOf Try.f36) [1, 1, 0, 1, 0, 0] []) [(3, .sl v1), (6, .sl v2), (7, .int .i64 v3), (8, .int .i64 v4)] H (r36_l0 k_ v1 v2 v3 v4 H) := by
  intro k_
  induction k_ with
  | zero => intro _ _ _ _ _; exact f_none
  | succ k_ ih =>
    intro v1 v2 v3 v4 H
    rw [r36_l0]
    refine f_seq ?_
    refine f_region ?_
    refine f_op rfl rfl (s_lss rfl rfl) ?_
    refine f_nil ?_
    refine f_seq ?_
    refine f_if (fun h1 => ?_) (fun h1 => ?_)
    · skip
      refine f_know 9 rfl (dec_true h1) ?_
      refine f_condT rfl ?_
      refine f_skip ?_
      refine f_seq ?_
      refine f_block ?_
      refine f_seq ?_
      refine f_region ?_
      refine o_ck fun g2 => ?_
      refine f_op rfl rfl (s_idx Try.underlying30 ty47 rfl rfl g2) ?_
      refine o_bind ?_; intro x3 hx3
      refine o_bind ?_; intro x4 hx4
      refine o_bind ?_; intro x5 hx5
      refine f_op rfl rfl (s_loads Try.underlying47 rfl ty47 rfl (lds_cons (ldI_eq hx3) (lds_cons (ldI_eq hx4) (lds_cons (ldI_eq hx5) (lds_nil))))) ?_
      refine f_op rfl rfl (s_alloc (zs := [.int .i64 0, .int .i64 0, .int .i64 0]) ty47 rfl rfl) ?_
      refine o_bind ?_; intro H6 hH6
      refine f_op rfl rfl (s_stores ty47 rfl rfl rfl rfl hH6 (Nat.le_of_eq (sts_mono hH6).symm)) ?_
      refine f_nil ?_
      refine f_region ?_
      refine f_op rfl rfl (s_mv (v := .sl v1) rfl) ?_
      refine f_op rfl rfl (s_fieldAddr Try.underlying47 rfl ty3 rfl) ?_
      refine o_bind ?_; intro x7 hx7
      refine f_op rfl rfl (s_load Try.underlying3 rfl rfl (ldI_eq hx7)) ?_
      refine f_op rfl rfl (s_fieldAddr Try.underlying47 rfl ty3 rfl) ?_
      refine o_bind ?_; intro x8 hx8
      refine f_op rfl rfl (s_load Try.underlying3 rfl rfl (ldI_eq hx8)) ?_
      refine f_op rfl rfl (s_fieldAddr Try.underlying47 rfl ty3 rfl) ?_
      refine o_bind ?_; intro x9 hx9
      refine f_op rfl rfl (s_load Try.underlying3 rfl rfl (ldI_eq hx9)) ?_
      refine f_op rfl rfl (s_build (cs := [.int .i64 x7, .int .i64 x8, .int .i64 x9]) Try.underlying46 ty46 rfl pl46 rfl) ?_
      refine f_op rfl rfl (s_buildSlice (cs := [.int .i64 x7, .int .i64 x8, .int .i64 x9]) Try.underlying22 ty46 (by decide) (by decide) rfl (by decide) rfl) ?_
      refine o_bind ?_; intro x10 hx10
      refine f_op rfl rfl (s_ap rfl rfl Try.underlying22 Try.underlying22 ty46 rfl rfl rfl rfl rfl rfl rfl hx10) ?_
      refine f_op rfl rfl (s_as (v := .sl x10.1) rfl) ?_
      refine f_nil ?_
      refine f_inBlock ?_
      refine f_region ?_
      refine f_op rfl rfl (s_add rfl rfl) ?_
      refine f_op rfl rfl (s_mv (v := .int .i64 (w64 (v4 + 1))) rfl) ?_
      refine f_nil ?_
      refine f_inLoop ?_
      refine f_keep [3, 6, 7, 8] ?_
      exact ih x10.1 v2 v3 (w64 (v4 + 1)) x10.2
    · skip
      refine f_know 9 rfl (dec_false h1) ?_
      refine f_condF rfl ?_
      refine f_exit rfl ?_
      refine f_seq ?_
      refine f_region ?_
      refine f_op rfl rfl (s_mv (v := .sl v1) rfl) ?_
      refine f_op rfl rfl (s_as (v := .sl v1) rfl) ?_
      refine f_nil ?_
      exact f_ret (.tmp rfl (.nil)) rfl

theorem sim36 {a0 : Sl} {H : Hp} {p : Sl × Hp} (h : r36 a0 H = some p) : CallSim Try.prog 36 [.sl a0] H (.sl p.1) p.2 := by
  refine callSim (fn := Try.f36) (ret := ret36) Try.func36 rfl Try.ntmps36 rfl ?_ h
  unfold r36
  refine f_seq ?_
  refine f_region ?_
  refine f_op rfl rfl (s_as (v := .sl ⟨true, 0, 0, 0, 0, 0⟩) rfl) ?_
  refine f_nil ?_
  refine f_seq ?_
  refine f_region ?_
  refine f_op rfl rfl (s_as (v := .sl ⟨true, 0, 0, 0, 0, 0⟩) rfl) ?_
  refine f_nil ?_
  refine f_seq ?_
  refine f_seq ?_
  refine f_region ?_
  refine f_op rfl rfl (s_mv (v := .sl a0) rfl) ?_
  refine f_op rfl rfl (s_lenS rfl Try.underlying30 rfl) ?_
  refine f_op rfl rfl (s_mv (v := .int .i64 0) rfl) ?_
  refine f_nil ?_
  refine f_block ?_
  refine f_loop ?_
  refine f_keep [3, 6, 7, 8] ?_
  exact s36_l0 FUEL ⟨true, 0, 0, 0, 0, 0⟩ a0 (a0.len : Int) 0 H

/- 43 slices.BinarySearchFunc[[][2]int,[2]int,[2]int] -/
theorem ok43 : FnOk Try.prog 43 := ⟨⟨Try.f43, Try.func43, by kernel_rfl, rfl⟩⟩
theorem s43_l0 {app : App} (happ : AppSim Try.prog app) : ∀ (k_ : Nat) (v1 : Sl) (v2 : AV) (v3 : Nat) (v4 : Int) (v5 : Int) (v6 : Int) (H : Hp), Fin Try.prog Try.f43 ret43 49 (todoAt (bodyOf Try.f43) [1, 1, 1, 0, 0, 0] []) [(0, .sl v1), (2, v2), (4, .ptr v3 0), (8, .int .i64 v4), (9, .int .i64 v5), (10, .int .i64 v6)] H (r43_l0 app k_ v1 v2 v3 v4 v5 v6 H) := by
  intro k_
  induction k_ with
  | zero => intro _ _ _ _ _ _ _; exact f_none
  | succ k_ ih =>
    intro v1 v2 v3 v4 v5 v6 H
    rw [r43_l0]
    refine f_seq ?_
    refine f_seq ?_
    refine f_region ?_
    refine f_op rfl rfl (s_mv (v := .int .i64 v5) rfl) ?_
    refine f_op rfl rfl (s_mv (v := .int .i64 v6) rfl) ?_
    refine f_op rfl rfl (s_lss rfl rfl) ?_
    refine f_nil ?_
    refine f_if (fun h1 => ?_) (fun h1 => ?_)
    · skip
      refine f_know 17 rfl (dec_true h1) ?_
      refine f_condT rfl ?_
      refine f_skip ?_
      refine f_block ?_
      refine f_seq ?_
      refine f_region ?_
      refine f_op rfl rfl (s_mv (v := .int .i64 v5) rfl) ?_
      refine f_op rfl rfl (s_mv (v := .int .i64 v6) rfl) ?_
      refine f_op rfl rfl (s_add rfl rfl) ?_
      refine f_op rfl rfl (s_convInt Try.underlying3 Try.underlying67 rfl) ?_
      refine f_op rfl rfl (s_shr rfl rfl (by decide)) ?_
      refine f_op rfl rfl (s_convInt Try.underlying67 Try.underlying3 rfl) ?_
      refine f_op rfl rfl (s_as (v := .int .i64 (w64 (shrOf .u64 (IntKind.wrap .u64 (w64 (v5 + v6))) 1))) rfl) ?_
      refine f_nil ?_
      refine f_seq ?_
      refine f_ck fun g2 => ?_
      refine f_bind ?_; intro x3 hx3
      refine f_bind ?_; intro x4 hx4
      refine f_bind ?_; intro x5 hx5
      refine f_bind ?_; intro x6 hx6
      refine f_bind ?_; intro p7 hp7
      refine f_bind ?_; intro x8 hx8
      refine f_draw (Φ := fun _ => True) (lim := 1000000) [0, 0, 0, 0, 1, 1, 2, 0] (Trc.pure rfl rfl rfl (.inl fun _ => s_mv (v := v2) rfl) (Trc.pure rfl rfl rfl (.inl fun _ => s_mv (v := .sl v1) rfl) (Trc.pure rfl rfl rfl (.inl fun _ => s_mv (v := .int .i64 (w64 (shrOf .u64 (IntKind.wrap .u64 (w64 (v5 + v6))) 1))) rfl) (Trc.pure rfl rfl rfl (.inl fun _ => s_idx Try.underlying37 ty43 rfl rfl g2) (Trc.read rfl rfl rfl (s_loads Try.underlying43 rfl ty43 rfl (lds_cons (ldI_eq hx3) (lds_cons (ldI_eq hx4) (lds_nil)))) (Trc.read rfl rfl rfl (s_loads Try.underlying43 rfl ty43 rfl (lds_cons (ldI_eq hx5) (lds_cons (ldI_eq hx6) (lds_nil)))) (Trc.eff rfl rfl rfl (fun _ => trivial) (s_callv happ rfl rfl hp7) (Trc.know 30 rfl (asI_eq hx8) (Trc.pure rfl rfl rfl (.inl fun _ => s_lss rfl rfl) (Trc.nil (fun _ => trivial))))))))))) rfl (by decide +kernel) mixed ?_
      refine f_if (fun h9 => ?_) (fun h9 => ?_)
      · skip
        refine f_know 31 rfl (dec_true h9) ?_
        refine f_condT rfl ?_
        refine f_region ?_
        refine f_op rfl rfl (s_mv (v := .int .i64 (w64 (shrOf .u64 (IntKind.wrap .u64 (w64 (v5 + v6))) 1))) rfl) ?_
        refine f_op rfl rfl (s_add rfl rfl) ?_
        refine f_op rfl rfl (s_as (v := .int .i64 (w64 ((w64 (shrOf .u64 (IntKind.wrap .u64 (w64 (v5 + v6))) 1)) + 1))) rfl) ?_
        refine f_nil ?_
        refine f_inBlock ?_
        refine f_inLoop ?_
        refine f_keep [0, 2, 4, 8, 9, 10] ?_
        exact ih v1 v2 v3 v4 (w64 ((w64 (shrOf .u64 (IntKind.wrap .u64 (w64 (v5 + v6))) 1)) + 1)) v6 p7.2
      · skip
        refine f_know 31 rfl (dec_false h9) ?_
        refine f_condF rfl ?_
        refine f_region ?_
        refine f_op rfl rfl (s_mv (v := .int .i64 (w64 (shrOf .u64 (IntKind.wrap .u64 (w64 (v5 + v6))) 1))) rfl) ?_
        refine f_op rfl rfl (s_as (v := .int .i64 (w64 (shrOf .u64 (IntKind.wrap .u64 (w64 (v5 + v6))) 1))) rfl) ?_
        refine f_nil ?_
        refine f_inBlock ?_
        refine f_inLoop ?_
        refine f_keep [0, 2, 4, 8, 9, 10] ?_
        exact ih v1 v2 v3 v4 v5 (w64 (shrOf .u64 (IntKind.wrap .u64 (w64 (v5 + v6))) 1)) p7.2
    · skip
      refine f_know 17 rfl (dec_false h1) ?_
      refine f_condF rfl ?_
      refine f_exit rfl ?_
      refine f_seq ?_
      refine f_if (fun h10 => ?_) (fun h10 => ?_)
      · skip
        refine f_ck fun g11 => ?_
        refine f_bind ?_; intro x12 hx12
        refine f_bind ?_; intro x13 hx13
        refine f_bind ?_; intro x14 hx14
        refine f_bind ?_; intro x15 hx15
        refine f_bind ?_; intro p16 hp16
        refine f_bind ?_; intro x17 hx17
        refine f_draw (Φ := fun _ => True) (lim := 1000000) [0, 0, 0, 0, 0, 0, 0, 0, 0, 1, 1, 2, 0, 0, 0, 0] (Trc.pure rfl rfl rfl (.inl fun _ => s_mv (v := .int .i64 v5) rfl) (Trc.pure rfl rfl rfl (.inl fun _ => s_mv (v := .int .i64 v5) rfl) (Trc.pure rfl rfl rfl (.inl fun _ => s_mv (v := .int .i64 v4) rfl) (Trc.pure rfl rfl rfl (.inl fun _ => s_lss rfl rfl) (Trc.pure rfl rfl rfl (.inl fun _ => s_mv (v := .bool (decide (v5 < v4))) rfl) (Trc.know 39 rfl (dec_true h10) (Trc.pure rfl rfl rfl (.inl fun _ => s_mv (v := v2) rfl) (Trc.pure rfl rfl rfl (.inl fun _ => s_mv (v := .sl v1) rfl) (Trc.pure rfl rfl rfl (.inl fun _ => s_mv (v := .int .i64 v5) rfl) (Trc.pure rfl rfl rfl (.inl fun _ => s_idx Try.underlying37 ty43 rfl rfl g11) (Trc.read rfl rfl rfl (s_loads Try.underlying43 rfl ty43 rfl (lds_cons (ldI_eq hx12) (lds_cons (ldI_eq hx13) (lds_nil)))) (Trc.read rfl rfl rfl (s_loads Try.underlying43 rfl ty43 rfl (lds_cons (ldI_eq hx14) (lds_cons (ldI_eq hx15) (lds_nil)))) (Trc.eff rfl rfl rfl (fun _ => trivial) (s_callv happ rfl rfl hp16) (Trc.know 46 rfl (asI_eq hx17) (Trc.pure rfl rfl rfl (.inl fun _ => s_eql rfl rfl) (Trc.pure rfl rfl rfl (.inl fun _ => s_pickT (v := .bool (decide (x17 = 0))) rfl rfl) (Trc.pure rfl rfl rfl (.inl fun _ => s_as (v := .int .i64 v5) rfl) (Trc.pure rfl rfl rfl (.inl fun _ => s_as (v := .bool (decide (x17 = 0))) rfl) (Trc.nil (fun _ => trivial)))))))))))))))))))) rfl (by decide +kernel) mixed ?_
        exact f_ret (.tmp rfl (.tmp rfl (.nil))) rfl
      · skip
        refine f_draw (Φ := fun _ => True) (lim := 1000000) [0, 0, 0, 0, 0, 0, 0, 0, 0, 0, 0, 0, 0, 0, 0, 0] (Trc.pure rfl rfl rfl (.inl fun _ => s_mv (v := .int .i64 v5) rfl) (Trc.pure rfl rfl rfl (.inl fun _ => s_mv (v := .int .i64 v5) rfl) (Trc.pure rfl rfl rfl (.inl fun _ => s_mv (v := .int .i64 v4) rfl) (Trc.pure rfl rfl rfl (.inl fun _ => s_lss rfl rfl) (Trc.pure rfl rfl rfl (.inl fun _ => s_mv (v := .bool (decide (v5 < v4))) rfl) (Trc.know 39 rfl (dec_false h10) (Trc.no rfl rfl rfl (Trc.no rfl rfl rfl (Trc.no rfl rfl rfl (Trc.no rfl rfl rfl (Trc.no rfl rfl rfl (Trc.no rfl rfl rfl (Trc.no rfl rfl rfl (Trc.no rfl rfl rfl (Trc.pure rfl rfl rfl (.inl fun _ => s_pickF (v := .bool false) rfl rfl) (Trc.pure rfl rfl rfl (.inl fun _ => s_as (v := .int .i64 v5) rfl) (Trc.pure rfl rfl rfl (.inl fun _ => s_as (v := .bool false) rfl) (Trc.nil (fun _ => trivial))))))))))))))))))) rfl (by decide +kernel) mixed ?_
        exact f_ret (.tmp rfl (.tmp rfl (.nil))) rfl

theorem sim43 {app : App} (happ : AppSim Try.prog app) {a0 : Sl} {a1_0 : Int} {a1_1 : Int} {a2 : AV} {H : Hp} {p : (Int × Bool) × Hp} (h : r43 app a0 a1_0 a1_1 a2 H = some p) : CallSim Try.prog 43 [.sl a0, .agg [.int .i64 a1_0, .int .i64 a1_1], a2] H (.tup [.int .i64 p.1.1, .bool p.1.2]) p.2 := by
  refine callSim (fn := Try.f43) (ret := ret43) Try.func43 rfl Try.ntmps43 rfl ?_ h
  unfold r43
  refine f_seq ?_
  refine f_region ?_
  refine f_op rfl rfl (s_box (v := .agg [.int .i64 a1_0, .int .i64 a1_1]) rfl rfl) ?_
  refine f_op rfl rfl (s_as (v := .int .i64 0) rfl) ?_
  refine f_op rfl rfl (s_as (v := .bool false) rfl) ?_
  refine o_hp ?_; intro H1 hH1
  refine f_nil ?_
  refine f_seq ?_
  refine f_region ?_
  refine f_op rfl rfl (s_mv (v := .sl a0) rfl) ?_
  refine f_op rfl rfl (s_lenS rfl Try.underlying37 rfl) ?_
  refine f_op rfl rfl (s_as (v := .int .i64 (a0.len : Int)) rfl) ?_
  refine f_nil ?_
  refine f_seq ?_
  refine f_region ?_
  refine f_op rfl rfl (s_mv (v := .int .i64 (a0.len : Int)) rfl) ?_
  refine f_op rfl rfl (s_as (v := .int .i64 0) rfl) ?_
  refine f_op rfl rfl (s_as (v := .int .i64 (a0.len : Int)) rfl) ?_
  refine f_nil ?_
  refine f_seq ?_
  refine f_block ?_
  refine f_loop ?_
  refine f_keep [0, 2, 4, 8, 9, 10] ?_
  exact s43_l0 happ FUEL a0 a2 H.n (a0.len : Int) 0 (a0.len : Int) H1

/- 45 slices.Compare[[]int,int] -/
theorem ok45 : FnOk Try.prog 45 := ⟨⟨Try.f45, Try.func45, by kernel_rfl, rfl⟩⟩
theorem s45_l0 : ∀ (k_ : Nat) (v1 : Sl) (v2 : Sl) (v3 : Sl) (v4 : Int) (v5 : Int) (H : Hp), Fin Try.prog Try.f45 ret45 36 (todoAt (bodyOf Try.f45) [1, 0, 1, 0, 0] []) [(0, .sl v1), (1, .sl v2), (9, .sl v3), (10, .int .i64 v4), (11, .int .i64 v5)] H (r45_l0 k_ v1 v2 v3 v4 v5 H) := by
  intro k_
  induction k_ with
  | zero => intro _ _ _ _ _ _; exact f_none
  | succ k_ ih =>
    intro v1 v2 v3 v4 v5 H
    rw [r45_l0]
    refine f_seq ?_
    refine f_region ?_
    refine f_op rfl rfl (s_lss rfl rfl) ?_
    refine f_nil ?_
    refine f_seq ?_
    refine f_if (fun h1 => ?_) (fun h1 => ?_)
    · skip
      refine f_know 12 rfl (dec_true h1) ?_
      refine f_condT rfl ?_
      refine f_skip ?_
      refine f_seq ?_
      refine f_block ?_
      refine f_seq ?_
      refine f_region ?_
      refine f_op rfl rfl (s_mv (v := .int .i64 v5) rfl) ?_
      refine o_ck fun g2 => ?_
      refine f_op rfl rfl (s_idx Try.underlying76 ty3 rfl rfl g2) ?_
      refine o_bind ?_; intro x3 hx3
      refine f_op rfl rfl (s_load Try.underlying3 rfl rfl (ldI_eq hx3)) ?_
      refine f_op rfl rfl (s_as (v := .int .i64 v5) rfl) ?_
      refine f_op rfl rfl (s_as (v := .int .i64 x3) rfl) ?_
      refine f_nil ?_
      refine f_seq ?_
      refine f_seq ?_
      refine f_region ?_
      refine f_op rfl rfl (s_mv (v := .int .i64 v5) rfl) ?_
      refine f_op rfl rfl (s_mv (v := .sl v2) rfl) ?_
      refine f_op rfl rfl (s_lenS rfl Try.underlying76 rfl) ?_
      refine f_op rfl rfl (s_geq rfl rfl) ?_
      refine f_nil ?_
      refine f_if (fun h4 => ?_) (fun h4 => ?_)
      · skip
        refine f_know 19 rfl (dec_true h4) ?_
        refine f_condT rfl ?_
        refine f_seq ?_
        refine f_region ?_
        refine f_op rfl rfl (s_as (v := .int .i64 1) rfl) ?_
        refine f_nil ?_
        exact f_ret (.tmp rfl (.nil)) rfl
      · skip
        refine f_know 19 rfl (dec_false h4) ?_
        refine f_condF rfl ?_
        refine f_skip ?_
        refine f_seq ?_
        refine f_region ?_
        refine f_op rfl rfl (s_mv (v := .sl v2) rfl) ?_
        refine f_op rfl rfl (s_mv (v := .int .i64 v5) rfl) ?_
        refine o_ck fun g5 => ?_
        refine f_op rfl rfl (s_idx Try.underlying76 ty3 rfl rfl g5) ?_
        refine o_bind ?_; intro x6 hx6
        refine f_op rfl rfl (s_load Try.underlying3 rfl rfl (ldI_eq hx6)) ?_
        refine f_op rfl rfl (s_as (v := .int .i64 x6) rfl) ?_
        refine f_nil ?_
        refine f_seq ?_
        refine f_region ?_
        refine f_op rfl rfl (s_mv (v := .int .i64 x3) rfl) ?_
        refine f_op rfl rfl (s_mv (v := .int .i64 x6) rfl) ?_
        refine o_bind ?_; intro p7 hp7
        refine f_op rfl rfl (s_callO rfl ok84 (sim84 hp7) rfl rfl) ?_
        refine f_op rfl rfl (s_as (v := .int .i64 p7.1) rfl) ?_
        refine f_nil ?_
        refine f_seq ?_
        refine f_region ?_
        refine f_op rfl rfl (s_mv (v := .int .i64 p7.1) rfl) ?_
        refine f_op rfl rfl (s_neq rfl rfl) ?_
        refine f_nil ?_
        refine f_if (fun h8 => ?_) (fun h8 => ?_)
        · skip
          refine f_know 28 rfl (dec_true h8) ?_
          refine f_condT rfl ?_
          refine f_seq ?_
          refine f_region ?_
          refine f_op rfl rfl (s_mv (v := .int .i64 p7.1) rfl) ?_
          refine f_op rfl rfl (s_as (v := .int .i64 p7.1) rfl) ?_
          refine f_nil ?_
          exact f_ret (.tmp rfl (.nil)) rfl
        · skip
          refine f_know 28 rfl (dec_false h8) ?_
          refine f_condF rfl ?_
          refine f_skip ?_
          refine f_inBlock ?_
          refine f_region ?_
          refine f_op rfl rfl (s_add rfl rfl) ?_
          refine f_op rfl rfl (s_mv (v := .int .i64 (w64 (v5 + 1))) rfl) ?_
          refine f_nil ?_
          refine f_inLoop ?_
          refine f_keep [0, 1, 9, 10, 11] ?_
          exact ih v1 v2 v3 v4 (w64 (v5 + 1)) H
    · skip
      refine f_know 12 rfl (dec_false h1) ?_
      refine f_condF rfl ?_
      refine f_exit rfl ?_
      refine f_seq ?_
      refine f_seq ?_
      refine f_region ?_
      refine f_op rfl rfl (s_mv (v := .sl v1) rfl) ?_
      refine f_op rfl rfl (s_lenS rfl Try.underlying76 rfl) ?_
      refine f_op rfl rfl (s_mv (v := .sl v2) rfl) ?_
      refine f_op rfl rfl (s_lenS rfl Try.underlying76 rfl) ?_
      refine f_op rfl rfl (s_lss rfl rfl) ?_
      refine f_nil ?_
      refine f_if (fun h9 => ?_) (fun h9 => ?_)
      · skip
        refine f_know 35 rfl (dec_true h9) ?_
        refine f_condT rfl ?_
        refine f_seq ?_
        refine f_region ?_
        refine f_op rfl rfl (s_as (v := .int .i64 (-1)) rfl) ?_
        refine f_nil ?_
        exact f_ret (.tmp rfl (.nil)) rfl
      · skip
        refine f_know 35 rfl (dec_false h9) ?_
        refine f_condF rfl ?_
        refine f_skip ?_
        refine f_seq ?_
        refine f_region ?_
        refine f_op rfl rfl (s_as (v := .int .i64 0) rfl) ?_
        refine f_nil ?_
        exact f_ret (.tmp rfl (.nil)) rfl

theorem sim45 {a0 : Sl} {a1 : Sl} {H : Hp} {p : Int × Hp} (h : r45 a0 a1 H = some p) : CallSim Try.prog 45 [.sl a0, .sl a1] H (.int .i64 p.1) p.2 := by
  refine callSim (fn := Try.f45) (ret := ret45) Try.func45 rfl Try.ntmps45 rfl ?_ h
  unfold r45
  refine f_seq ?_
  refine f_region ?_
  refine f_op rfl rfl (s_as (v := .int .i64 0) rfl) ?_
  refine f_nil ?_
  refine f_seq ?_
  refine f_seq ?_
  refine f_region ?_
  refine f_op rfl rfl (s_mv (v := .sl a0) rfl) ?_
  refine f_op rfl rfl (s_lenS rfl Try.underlying76 rfl) ?_
  refine f_op rfl rfl (s_mv (v := .int .i64 0) rfl) ?_
  refine f_nil ?_
  refine f_block ?_
  refine f_loop ?_
  refine f_keep [0, 1, 9, 10, 11] ?_
  exact s45_l0 FUEL a0 a1 a0 (a0.len : Int) 0 H

/- 50 congou/congoulaw02.CutsTurned$1 -/
theorem ok50 : FnOk Try.prog 50 := ⟨⟨Try.f50, Try.func50, by kernel_rfl, rfl⟩⟩
theorem sim50 {a0_0 : Int} {a0_1 : Int} {a1_0 : Int} {a1_1 : Int} {H : Hp} {p : Int × Hp} (h : r50 a0_0 a0_1 a1_0 a1_1 H = some p) : CallSim Try.prog 50 [.agg [.int .i64 a0_0, .int .i64 a0_1], .agg [.int .i64 a1_0, .int .i64 a1_1]] H (.int .i64 p.1) p.2 := by
  refine callSim (fn := Try.f50) (ret := ret50) Try.func50 rfl Try.ntmps50 rfl ?_ h
  unfold r50
  refine f_seq ?_
  refine f_region ?_
  refine f_op rfl rfl (s_box (v := .agg [.int .i64 a0_0, .int .i64 a0_1]) rfl rfl) ?_
  refine f_op rfl rfl (s_box (v := .agg [.int .i64 a1_0, .int .i64 a1_1]) rfl rfl) ?_
  refine f_op rfl rfl (s_as (v := .int .i64 0) rfl) ?_
  refine o_hp ?_; intro H1 hH1
  refine f_nil ?_
  refine f_seq ?_
  refine f_bind ?_; intro p2 hp2
  refine f_draw (Φ := fun _ => True) (lim := 1000000) [0, 0, 2, 0] (Trc.pure rfl rfl rfl (.inl fun _ => s_sliceA Try.underlying43 ty3 rfl rfl rfl (by decide)) (Trc.pure rfl rfl rfl (.inl fun _ => s_sliceA Try.underlying43 ty3 rfl rfl rfl (by decide)) (Trc.eff rfl rfl rfl (fun _ => trivial) (s_callF rfl ok45 (sim45 hp2)) (Trc.pure rfl rfl rfl (.inl fun _ => s_as (v := .int .i64 p2.1) rfl) (Trc.nil (fun _ => trivial)))))) rfl (by decide +kernel) mixed ?_
  exact f_ret (.tmp rfl (.nil)) rfl

/- 10 congou/congoulaw02.CutsTurned -/
theorem ok10 : FnOk Try.prog 10 := ⟨⟨Try.f10, Try.func10, by kernel_rfl, rfl⟩⟩
theorem s10_l3 {app : App} (happ : AppSim Try.prog app) : ∀ (k_ : Nat) (v1 : Sl) (v2 : Nat) (v3 : Sl) (v4 : Sl) (v5 : Int) (H : Hp), Fin Try.prog Try.f10 ret10 158 (todoAt (bodyOf Try.f10) [1, 1, 1, 1, 1, 1, 1, 1, 1, 0, 1, 0, 0] []) [(0, .sl v1), (3, .ptr v2 0), (5, .sl v3), (16, .sl v4), (90, .int .i64 v5)] H (r10_l3 app k_ v1 v2 v3 v4 v5 H) := by
  intro k_
  induction k_ with
  | zero => intro _ _ _ _ _ _; exact f_none
  | succ k_ ih =>
    intro v1 v2 v3 v4 v5 H
    rw [r10_l3]
    refine f_seq ?_
    refine f_region ?_
    refine f_op rfl rfl (s_lss rfl rfl) ?_
    refine f_nil ?_
    refine f_seq ?_
    refine f_if (fun h1 => ?_) (fun h1 => ?_)
    · skip
      refine f_know 91 rfl (dec_true h1) ?_
      refine f_condT rfl ?_
      refine f_skip ?_
      refine f_seq ?_
      refine f_block ?_
      refine f_seq ?_
      refine f_region ?_
      refine f_op rfl rfl (s_mv (v := .sl v4) rfl) ?_
      refine o_bind ?_; intro p2 hp2
      refine f_op rfl rfl (s_callF rfl ok34 (sim34 happ hp2)) ?_
      refine f_op rfl rfl (s_mv (v := .tup [.sl p2.1.1, .int .i64 p2.1.2]) rfl) ?_
      refine f_op rfl rfl (s_extract (r := .sl p2.1.1) rfl rfl) ?_
      refine f_op rfl rfl (s_extract (r := .int .i64 p2.1.2) rfl rfl) ?_
      refine f_op rfl rfl (s_as (v := .sl p2.1.1) rfl) ?_
      refine f_op rfl rfl (s_as (v := .int .i64 p2.1.2) rfl) ?_
      refine f_nil ?_
      refine f_seq ?_
      refine f_region ?_
      refine f_op rfl rfl (s_mv (v := .int .i64 p2.1.2) rfl) ?_
      refine f_op rfl rfl (s_neq rfl rfl) ?_
      refine f_nil ?_
      refine f_if (fun h3 => ?_) (fun h3 => ?_)
      · skip
        refine f_know 98 rfl (dec_true h3) ?_
        refine f_condT rfl ?_
        refine f_seq ?_
        refine f_region ?_
        refine f_op rfl rfl (s_as (v := .bool false) rfl) ?_
        refine f_nil ?_
        exact f_ret (.tmp rfl (.nil)) rfl
      · skip
        refine f_know 98 rfl (dec_false h3) ?_
        refine f_condF rfl ?_
        refine f_skip ?_
        refine f_inBlock ?_
        refine f_region ?_
        refine f_op rfl rfl (s_add rfl rfl) ?_
        refine f_op rfl rfl (s_mv (v := .int .i64 (w64 (v5 + 1))) rfl) ?_
        refine f_nil ?_
        refine f_inLoop ?_
        refine f_keep [0, 3, 5, 16, 90] ?_
        exact ih v1 v2 v3 p2.1.1 (w64 (v5 + 1)) p2.2
    · skip
      refine f_know 91 rfl (dec_false h1) ?_
      refine f_condF rfl ?_
      refine f_exit rfl ?_
      refine f_seq ?_
      refine f_seq ?_
      refine f_region ?_
      refine f_op rfl rfl (s_mv (v := .sl v4) rfl) ?_
      refine o_bind ?_; intro p4 hp4
      refine f_op rfl rfl (s_callF rfl ok36 (sim36 hp4)) ?_
      refine f_op rfl rfl (s_mv (v := .sl v1) rfl) ?_
      refine o_bind ?_; intro p5 hp5
      refine f_op rfl rfl (s_callF rfl ok35 (sim35 hp5)) ?_
      refine f_op rfl rfl (s_not rfl) ?_
      refine f_nil ?_
      refine f_if (fun h6 => ?_) (fun h6 => ?_)
      · skip
        refine f_know 104 rfl (bool_notT h6) ?_
        refine f_condF rfl ?_
        refine f_skip ?_
        refine f_seq ?_
        refine f_bind ?_; intro p7 hp7
        refine f_bind ?_; intro x8 hx8
        refine f_bind ?_; intro x9 hx9
        refine f_bind ?_; intro x10 hx10
        refine f_bind ?_; intro x11 hx11
        refine f_bind ?_; intro p12 hp12
        refine f_ck fun g13 => ?_
        refine f_ck fun g14 => ?_
        refine f_ck fun g15 => ?_
        refine f_ck fun g16 => ?_
        refine f_draw (Φ := fun H_ => H_.ld v2 (0 + 0) = some (.int .i64 x8) ∧ H_.ld v2 ((0 + 0) + 1) = some (.int .i64 x9) ∧ H_.ld v2 (0 + 2) = some (.int .i64 x10) ∧ H_.ld v2 ((0 + 2) + 1) = some (.int .i64 x11)) (lim := 7) [0, 2, 0, 0, 0, 0, 0, 2, 0, 0, 0, 0, 0] (Trc.pure rfl rfl rfl (.inl fun _ => s_mv (v := .sl v1) rfl) (Trc.eff rfl rfl rfl (fun _ => ⟨ldI_eq g13, ldI_eq g14, ldI_eq g15, ldI_eq g16⟩) (s_callF rfl ok18 (sim18 hp7)) (Trc.pure rfl rfl rfl (.inl fun _ => s_fieldAddr Try.underlying26 rfl ty24 rfl) (Trc.pure rfl rfl rfl (.inr ⟨by decide +kernel, fun _ hp_ => s_loads Try.underlying24 rfl ty24 rfl (lds_cons hp_.1 (lds_cons hp_.2.1 (lds_nil)))⟩) (Trc.pure rfl rfl rfl (.inl fun _ => s_fieldAddr Try.underlying26 rfl ty24 rfl) (Trc.pure rfl rfl rfl (.inr ⟨by decide +kernel, fun _ hp_ => s_loads Try.underlying24 rfl ty24 rfl (lds_cons hp_.2.2.1 (lds_cons hp_.2.2.2 (lds_nil)))⟩) (Trc.pure rfl rfl rfl (.inl fun _ => s_build (cs := [.int .i64 x8, .int .i64 x9, .int .i64 x10, .int .i64 x11]) Try.underlying32 ty32 rfl pl32 rfl) (Trc.eff rfl rfl rfl (fun _ => ⟨ldI_eq hx8, ldI_eq hx9, ldI_eq hx10, ldI_eq hx11⟩) (s_callF rfl ok17 (sim17 happ hp12)) (Trc.pure rfl rfl rfl (.inl fun _ => s_mv (v := .tup [.bool p12.1.1, .int .i64 p12.1.2]) rfl) (Trc.pure rfl rfl rfl (.inl fun _ => s_extract (r := .bool p12.1.1) rfl rfl) (Trc.pure rfl rfl rfl (.inl fun _ => s_extract (r := .int .i64 p12.1.2) rfl rfl) (Trc.pure rfl rfl rfl (.inl fun _ => s_as (v := .bool p12.1.1) rfl) (Trc.pure rfl rfl rfl (.inl fun _ => s_as (v := .int .i64 p12.1.2) rfl) (Trc.nil (fun h_ => absurd h_ (by decide +kernel)))))))))))))))) rfl (by decide +kernel) mixed ?_
        refine f_seq ?_
        refine f_region ?_
        refine f_op rfl rfl (s_mv (v := .sl v3) rfl) ?_
        refine f_op rfl rfl (s_fieldAddr Try.underlying26 rfl ty24 rfl) ?_
        refine f_op rfl rfl (s_fieldAddr Try.underlying24 rfl ty3 rfl) ?_
        refine o_bind ?_; intro x17 hx17
        refine f_op rfl rfl (s_load Try.underlying3 rfl rfl (ldI_eq hx17)) ?_
        refine f_op rfl rfl (s_neg rfl) ?_
        refine f_op rfl rfl (s_fieldAddr Try.underlying26 rfl ty24 rfl) ?_
        refine f_op rfl rfl (s_fieldAddr Try.underlying24 rfl ty3 rfl) ?_
        refine o_bind ?_; intro x18 hx18
        refine f_op rfl rfl (s_load Try.underlying3 rfl rfl (ldI_eq hx18)) ?_
        refine f_op rfl rfl (s_build (cs := [.int .i64 (w64 (0 - x17)), .int .i64 x18]) Try.underlying24 ty24 rfl pl24 rfl) ?_
        refine f_op rfl rfl (s_fieldAddr Try.underlying26 rfl ty24 rfl) ?_
        refine o_bind ?_; intro x19 hx19
        refine o_bind ?_; intro x20 hx20
        refine f_op rfl rfl (s_loads Try.underlying24 rfl ty24 rfl (lds_cons (ldI_eq hx19) (lds_cons (ldI_eq hx20) (lds_nil)))) ?_
        refine f_op rfl rfl (s_build (cs := [.int .i64 (w64 (0 - x17)), .int .i64 x18, .int .i64 x19, .int .i64 x20]) Try.underlying32 ty32 rfl pl32 rfl) ?_
        refine o_bind ?_; intro p21 hp21
        refine f_op rfl rfl (s_callF rfl ok17 (sim17 happ hp21)) ?_
        refine f_op rfl rfl (s_mv (v := .tup [.bool p21.1.1, .int .i64 p21.1.2]) rfl) ?_
        refine f_op rfl rfl (s_extract (r := .bool p21.1.1) rfl rfl) ?_
        refine f_op rfl rfl (s_extract (r := .int .i64 p21.1.2) rfl rfl) ?_
        refine f_op rfl rfl (s_as (v := .bool p21.1.1) rfl) ?_
        refine f_op rfl rfl (s_as (v := .int .i64 p21.1.2) rfl) ?_
        refine f_nil ?_
        refine f_seq ?_
        refine f_seq ?_
        refine f_region ?_
        refine o_bind ?_; intro x22 hx22
        refine o_bind ?_; intro x23 hx23
        refine o_bind ?_; intro x24 hx24
        refine o_bind ?_; intro x25 hx25
        refine f_op rfl rfl (s_loads Try.underlying26 rfl ty26 rfl (lds_cons (ldI_eq hx22) (lds_cons (ldI_eq hx23) (lds_cons (ldI_eq hx24) (lds_cons (ldI_eq hx25) (lds_nil)))))) ?_
        refine o_bind ?_; intro p26 hp26
        refine f_op rfl rfl (s_callO rfl ok20 (sim20 hp26) rfl rfl) ?_
        refine f_op rfl rfl (s_not rfl) ?_
        refine f_nil ?_
        refine f_if (fun h27 => ?_) (fun h27 => ?_)
        · skip
          refine f_know 134 rfl (bool_notT h27) ?_
          refine f_condF rfl ?_
          refine f_skip ?_
          refine f_seq ?_
          refine f_region ?_
          refine f_op rfl rfl (s_mv (v := .int .i64 p12.1.2) rfl) ?_
          refine f_op rfl rfl (s_eql rfl rfl) ?_
          refine f_op rfl rfl (s_mv (v := .bool (decide (p12.1.2 = 0))) rfl) ?_
          refine o_if (fun h28 => ?_) (fun h28 => ?_)
          · skip
            refine o_know 146 rfl (dec_true h28) ?_
            refine f_op rfl rfl (s_mv (v := .int .i64 p21.1.2) rfl) ?_
            refine f_op rfl rfl (s_eql rfl rfl) ?_
            refine f_op rfl rfl (s_pickT (v := .bool (decide (p21.1.2 = 0))) rfl rfl) ?_
            refine f_op rfl rfl (s_mv (v := .bool (decide (p21.1.2 = 0))) rfl) ?_
            refine o_if (fun h29 => ?_) (fun h29 => ?_)
            · skip
              refine o_know 150 rfl (dec_true h29) ?_
              refine f_op rfl rfl (s_mv (v := .bool p12.1.1) rfl) ?_
              refine f_op rfl rfl (s_mv (v := .bool p21.1.1) rfl) ?_
              refine f_op rfl rfl (s_eqB Try.underlying4 rfl rfl) ?_
              refine f_op rfl rfl (s_pickT (v := .bool (p12.1.1 == p21.1.1)) rfl rfl) ?_
              refine f_op rfl rfl (s_mv (v := .bool (p12.1.1 == p21.1.1)) rfl) ?_
              refine o_if (fun h30 => ?_) (fun h30 => ?_)
              · skip
                refine o_know 155 rfl (bool_T h30) ?_
                refine o_bind ?_; intro p31 hp31
                refine o_bind ?_; intro x32 hx32
                refine f_op rfl rfl (s_callA happ rfl hp31) ?_
                refine o_know 156 rfl (asB_eq hx32) ?_
                refine f_op rfl rfl (s_pickT (v := .bool x32) rfl rfl) ?_
                refine f_op rfl rfl (s_as (v := .bool x32) rfl) ?_
                refine f_nil ?_
                exact f_ret (.tmp rfl (.nil)) rfl
              · skip
                refine o_know 155 rfl (bool_F h30) ?_
                refine f_no rfl rfl ?_
                refine f_op rfl rfl (s_pickF (v := .bool false) rfl rfl) ?_
                refine f_op rfl rfl (s_as (v := .bool false) rfl) ?_
                refine f_nil ?_
                exact f_ret (.tmp rfl (.nil)) rfl
            · skip
              refine o_know 150 rfl (dec_false h29) ?_
              refine f_no rfl rfl ?_
              refine f_no rfl rfl ?_
              refine f_no rfl rfl ?_
              refine f_op rfl rfl (s_pickF (v := .bool false) rfl rfl) ?_
              refine f_op rfl rfl (s_mv (v := .bool false) rfl) ?_
              refine f_no rfl rfl ?_
              refine f_op rfl rfl (s_pickF (v := .bool false) rfl rfl) ?_
              refine f_op rfl rfl (s_as (v := .bool false) rfl) ?_
              refine f_nil ?_
              exact f_ret (.tmp rfl (.nil)) rfl
          · skip
            refine o_know 146 rfl (dec_false h28) ?_
            refine f_no rfl rfl ?_
            refine f_no rfl rfl ?_
            refine f_op rfl rfl (s_pickF (v := .bool false) rfl rfl) ?_
            refine f_op rfl rfl (s_mv (v := .bool false) rfl) ?_
            refine f_no rfl rfl ?_
            refine f_no rfl rfl ?_
            refine f_no rfl rfl ?_
            refine f_op rfl rfl (s_pickF (v := .bool false) rfl rfl) ?_
            refine f_op rfl rfl (s_mv (v := .bool false) rfl) ?_
            refine f_no rfl rfl ?_
            refine f_op rfl rfl (s_pickF (v := .bool false) rfl rfl) ?_
            refine f_op rfl rfl (s_as (v := .bool false) rfl) ?_
            refine f_nil ?_
            exact f_ret (.tmp rfl (.nil)) rfl
        · skip
          refine f_know 134 rfl (bool_notF h27) ?_
          refine f_condT rfl ?_
          refine f_seq ?_
          refine f_region ?_
          refine f_op rfl rfl (s_mv (v := .int .i64 p12.1.2) rfl) ?_
          refine f_op rfl rfl (s_eql rfl rfl) ?_
          refine f_op rfl rfl (s_mv (v := .bool (decide (p12.1.2 = 2))) rfl) ?_
          refine o_if (fun h33 => ?_) (fun h33 => ?_)
          · skip
            refine o_know 137 rfl (dec_true h33) ?_
            refine f_op rfl rfl (s_mv (v := .int .i64 p21.1.2) rfl) ?_
            refine f_op rfl rfl (s_eql rfl rfl) ?_
            refine f_op rfl rfl (s_pickT (v := .bool (decide (p21.1.2 = 2))) rfl rfl) ?_
            refine f_op rfl rfl (s_mv (v := .bool (decide (p21.1.2 = 2))) rfl) ?_
            refine o_if (fun h34 => ?_) (fun h34 => ?_)
            · skip
              refine o_know 141 rfl (dec_true h34) ?_
              refine o_bind ?_; intro p35 hp35
              refine o_bind ?_; intro x36 hx36
              refine f_op rfl rfl (s_callA happ rfl hp35) ?_
              refine o_know 142 rfl (asB_eq hx36) ?_
              refine f_op rfl rfl (s_pickT (v := .bool x36) rfl rfl) ?_
              refine f_op rfl rfl (s_as (v := .bool x36) rfl) ?_
              refine f_nil ?_
              exact f_ret (.tmp rfl (.nil)) rfl
            · skip
              refine o_know 141 rfl (dec_false h34) ?_
              refine f_no rfl rfl ?_
              refine f_op rfl rfl (s_pickF (v := .bool false) rfl rfl) ?_
              refine f_op rfl rfl (s_as (v := .bool false) rfl) ?_
              refine f_nil ?_
              exact f_ret (.tmp rfl (.nil)) rfl
          · skip
            refine o_know 137 rfl (dec_false h33) ?_
            refine f_no rfl rfl ?_
            refine f_no rfl rfl ?_
            refine f_op rfl rfl (s_pickF (v := .bool false) rfl rfl) ?_
            refine f_op rfl rfl (s_mv (v := .bool false) rfl) ?_
            refine f_no rfl rfl ?_
            refine f_op rfl rfl (s_pickF (v := .bool false) rfl rfl) ?_
            refine f_op rfl rfl (s_as (v := .bool false) rfl) ?_
            refine f_nil ?_
            exact f_ret (.tmp rfl (.nil)) rfl
      · skip
        refine f_know 104 rfl (bool_notF h6) ?_
        refine f_condT rfl ?_
        refine f_seq ?_
        refine f_region ?_
        refine f_op rfl rfl (s_as (v := .bool false) rfl) ?_
        refine f_nil ?_
        exact f_ret (.tmp rfl (.nil)) rfl

theorem s10_l2 {app : App} (happ : AppSim Try.prog app) : ∀ (k_ : Nat) (v1 : Sl) (v2 : Nat) (v3 : Sl) (v4 : Sl) (v5 : Sl) (v6 : Int) (v7 : Int) (H : Hp), Fin Try.prog Try.f10 ret10 158 (todoAt (bodyOf Try.f10) [1, 1, 1, 1, 1, 1, 1, 0, 1, 0, 0] []) [(0, .sl v1), (3, .ptr v2 0), (5, .sl v3), (9, .sl v4), (67, .sl v5), (68, .int .i64 v6), (69, .int .i64 v7)] H (r10_l2 app k_ v1 v2 v3 v4 v5 v6 v7 H) := by
  intro k_
  induction k_ with
  | zero => intro _ _ _ _ _ _ _ _; exact f_none
  | succ k_ ih =>
    intro v1 v2 v3 v4 v5 v6 v7 H
    rw [r10_l2]
    refine f_seq ?_
    refine f_region ?_
    refine f_op rfl rfl (s_lss rfl rfl) ?_
    refine f_nil ?_
    refine f_seq ?_
    refine f_if (fun h1 => ?_) (fun h1 => ?_)
    · skip
      refine f_know 70 rfl (dec_true h1) ?_
      refine f_condT rfl ?_
      refine f_skip ?_
      refine f_seq ?_
      refine f_block ?_
      refine f_seq ?_
      refine f_region ?_
      refine o_ck fun g2 => ?_
      refine f_op rfl rfl (s_idx Try.underlying37 ty43 rfl rfl g2) ?_
      refine o_bind ?_; intro x3 hx3
      refine o_bind ?_; intro x4 hx4
      refine f_op rfl rfl (s_loads Try.underlying43 rfl ty43 rfl (lds_cons (ldI_eq hx3) (lds_cons (ldI_eq hx4) (lds_nil)))) ?_
      refine f_op rfl rfl (s_alloc (zs := [.int .i64 0, .int .i64 0]) ty43 rfl rfl) ?_
      refine o_bind ?_; intro H5 hH5
      refine f_op rfl rfl (s_stores ty43 rfl rfl rfl rfl hH5 (Nat.le_of_eq (sts_mono hH5).symm)) ?_
      refine f_nil ?_
      refine f_seq ?_
      refine f_region ?_
      refine f_op rfl rfl (s_idxA Try.underlying43 ty3 rfl rfl (by decide)) ?_
      refine o_bind ?_; intro x6 hx6
      refine f_op rfl rfl (s_load Try.underlying3 rfl rfl (ldI_eq hx6)) ?_
      refine f_op rfl rfl (s_neg rfl) ?_
      refine f_op rfl rfl (s_idxA Try.underlying43 ty3 rfl rfl (by decide)) ?_
      refine o_bind ?_; intro x7 hx7
      refine f_op rfl rfl (s_load Try.underlying3 rfl rfl (ldI_eq hx7)) ?_
      refine f_op rfl rfl (s_buildA (cs := [.int .i64 (w64 (0 - x6)), .int .i64 x7]) Try.underlying43 ty43 ty3 rfl rfl) ?_
      refine f_op rfl rfl (s_alloc (zs := [.int .i64 0, .int .i64 0]) ty43 rfl rfl) ?_
      refine o_bind ?_; intro H8 hH8
      refine f_op rfl rfl (s_stores ty43 rfl rfl rfl rfl hH8 (Nat.le_of_eq (sts_mono hH8).symm)) ?_
      refine f_nil ?_
      refine f_seq ?_
      refine f_region ?_
      refine f_op rfl rfl (s_mv (v := .sl v4) rfl) ?_
      refine o_bind ?_; intro x9 hx9
      refine o_bind ?_; intro x10 hx10
      refine f_op rfl rfl (s_loads Try.underlying43 rfl ty43 rfl (lds_cons (ldI_eq hx9) (lds_cons (ldI_eq hx10) (lds_nil)))) ?_
      refine o_bind ?_; intro p11 hp11
      refine f_op rfl rfl (s_callF rfl ok43 (sim43 happ hp11)) ?_
      refine f_op rfl rfl (s_mv (v := .tup [.int .i64 p11.1.1, .bool p11.1.2]) rfl) ?_
      refine f_op rfl rfl (s_extract (r := .int .i64 p11.1.1) rfl rfl) ?_
      refine f_op rfl rfl (s_extract (r := .bool p11.1.2) rfl rfl) ?_
      refine f_op rfl rfl (s_as (v := .int .i64 p11.1.1) rfl) ?_
      refine f_op rfl rfl (s_as (v := .bool p11.1.2) rfl) ?_
      refine f_nil ?_
      refine f_seq ?_
      refine f_region ?_
      refine f_op rfl rfl (s_mv (v := .bool p11.1.2) rfl) ?_
      refine f_op rfl rfl (s_not rfl) ?_
      refine f_nil ?_
      refine f_if (fun h12 => ?_) (fun h12 => ?_)
      · skip
        refine f_know 86 rfl (bool_notT h12) ?_
        refine f_condF rfl ?_
        refine f_skip ?_
        refine f_inBlock ?_
        refine f_region ?_
        refine f_op rfl rfl (s_add rfl rfl) ?_
        refine f_op rfl rfl (s_mv (v := .int .i64 (w64 (v7 + 1))) rfl) ?_
        refine f_nil ?_
        refine f_inLoop ?_
        refine f_keep [0, 3, 5, 9, 67, 68, 69] ?_
        exact ih v1 v2 v3 v4 v5 v6 (w64 (v7 + 1)) p11.2
      · skip
        refine f_know 86 rfl (bool_notF h12) ?_
        refine f_condT rfl ?_
        refine f_seq ?_
        refine f_region ?_
        refine f_op rfl rfl (s_as (v := .bool false) rfl) ?_
        refine f_nil ?_
        exact f_ret (.tmp rfl (.nil)) rfl
    · skip
      refine f_know 70 rfl (dec_false h1) ?_
      refine f_condF rfl ?_
      refine f_exit rfl ?_
      refine f_seq ?_
      refine f_region ?_
      refine f_op rfl rfl (s_mv (v := .sl v3) rfl) ?_
      refine o_bind ?_; intro p13 hp13
      refine f_op rfl rfl (s_callF rfl ok49 (sim49 hp13)) ?_
      refine f_op rfl rfl (s_as (v := .sl p13.1) rfl) ?_
      refine f_nil ?_
      refine f_seq ?_
      refine f_seq ?_
      refine f_region ?_
      refine f_op rfl rfl (s_mv (v := .int .i64 0) rfl) ?_
      refine f_nil ?_
      refine f_block ?_
      refine f_loop ?_
      refine f_keep [0, 3, 5, 16, 90] ?_
      exact s10_l3 happ FUEL v1 v2 v3 p13.1 0 p13.2

theorem s10_j1 {app : App} (happ : AppSim Try.prog app) (v1 : Sl) (v2 : Nat) (v3 : Sl) (v4 : Sl) (v5 : Sl) (v6 : Bool) (H : Hp) : Fin Try.prog Try.f10 ret10 158 (todoAt (bodyOf Try.f10) [1, 1, 1, 1, 1, 1, 0, 1] []) [(0, .sl v1), (3, .ptr v2 0), (5, .sl v3), (7, .sl v4), (9, .sl v5), (66, .bool v6)] H (r10_j1 app v1 v2 v3 v4 v5 v6 H) := by
  unfold r10_j1
  refine f_if (fun h1 => ?_) (fun h1 => ?_)
  · skip
    refine f_know 66 rfl (bool_T h1) ?_
    refine f_condT rfl ?_
    refine f_seq ?_
    refine f_region ?_
    refine f_op rfl rfl (s_as (v := .bool false) rfl) ?_
    refine f_nil ?_
    exact f_ret (.tmp rfl (.nil)) rfl
  · skip
    refine f_know 66 rfl (bool_F h1) ?_
    refine f_condF rfl ?_
    refine f_skip ?_
    refine f_seq ?_
    refine f_seq ?_
    refine f_region ?_
    refine f_op rfl rfl (s_mv (v := .sl v4) rfl) ?_
    refine f_op rfl rfl (s_lenS rfl Try.underlying37 rfl) ?_
    refine f_op rfl rfl (s_mv (v := .int .i64 0) rfl) ?_
    refine f_nil ?_
    refine f_block ?_
    refine f_loop ?_
    refine f_keep [0, 3, 5, 9, 67, 68, 69] ?_
    exact s10_l2 happ FUEL v1 v2 v3 v5 v4 (v4.len : Int) 0 H

theorem s10_j0 {app : App} (happ : AppSim Try.prog app) (v1 : Sl) (v2 : Nat) (v3 : Sl) (v4 : Int) (v5 : Bool) (H : Hp) : Fin Try.prog Try.f10 ret10 158 (todoAt (bodyOf Try.f10) [1, 1, 0, 1] []) [(0, .sl v1), (3, .ptr v2 0), (5, .sl v3), (6, .int .i64 v4), (32, .bool v5)] H (r10_j0 app v1 v2 v3 v4 v5 H) := by
  unfold r10_j0
  refine f_if (fun h1 => ?_) (fun h1 => ?_)
  · skip
    refine f_know 32 rfl (bool_T h1) ?_
    refine f_condT rfl ?_
    refine f_seq ?_
    refine f_region ?_
    refine f_op rfl rfl (s_mv (v := .int .i64 v4) rfl) ?_
    refine f_op rfl rfl (s_eql rfl rfl) ?_
    refine f_op rfl rfl (s_mv (v := .bool (decide (v4 = 2))) rfl) ?_
    refine o_if (fun h2 => ?_) (fun h2 => ?_)
    · skip
      refine o_know 35 rfl (dec_true h2) ?_
      refine o_bind ?_; intro p3 hp3
      refine o_bind ?_; intro x4 hx4
      refine f_op rfl rfl (s_callA happ rfl hp3) ?_
      refine o_know 36 rfl (asB_eq hx4) ?_
      refine f_op rfl rfl (s_pickT (v := .bool x4) rfl rfl) ?_
      refine f_op rfl rfl (s_as (v := .bool x4) rfl) ?_
      refine f_nil ?_
      exact f_ret (.tmp rfl (.nil)) rfl
    · skip
      refine o_know 35 rfl (dec_false h2) ?_
      refine f_no rfl rfl ?_
      refine f_op rfl rfl (s_pickF (v := .bool false) rfl rfl) ?_
      refine f_op rfl rfl (s_as (v := .bool false) rfl) ?_
      refine f_nil ?_
      exact f_ret (.tmp rfl (.nil)) rfl
  · skip
    refine f_know 32 rfl (bool_F h1) ?_
    refine f_condF rfl ?_
    refine f_skip ?_
    refine f_seq ?_
    refine f_seq ?_
    refine f_region ?_
    refine f_op rfl rfl (s_mv (v := .sl v3) rfl) ?_
    refine o_bind ?_; intro p5 hp5
    refine f_op rfl rfl (s_callF rfl ok36 (sim36 hp5)) ?_
    refine o_bind ?_; intro p6 hp6
    refine f_op rfl rfl (s_callF rfl ok19 (sim19 hp6)) ?_
    refine f_op rfl rfl (s_not rfl) ?_
    refine f_nil ?_
    refine f_if (fun h7 => ?_) (fun h7 => ?_)
    · skip
      refine f_know 41 rfl (bool_notT h7) ?_
      refine f_condF rfl ?_
      refine f_skip ?_
      refine f_seq ?_
      refine f_region ?_
      refine f_op rfl rfl (s_mv (v := .sl v1) rfl) ?_
      refine o_bind ?_; intro p8 hp8
      refine f_op rfl rfl (s_callF rfl ok18 (sim18 hp8)) ?_
      refine o_bind ?_; intro p9 hp9
      refine f_op rfl rfl (s_callF rfl ok40 (sim40 happ hp9)) ?_
      refine f_op rfl rfl (s_mv (v := .tup [.sl p9.1.1, .int .i64 p9.1.2]) rfl) ?_
      refine f_op rfl rfl (s_extract (r := .sl p9.1.1) rfl rfl) ?_
      refine f_op rfl rfl (s_extract (r := .int .i64 p9.1.2) rfl rfl) ?_
      refine f_op rfl rfl (s_as (v := .sl p9.1.1) rfl) ?_
      refine f_op rfl rfl (s_as (v := .int .i64 p9.1.2) rfl) ?_
      refine f_nil ?_
      refine f_seq ?_
      refine f_region ?_
      refine f_op rfl rfl (s_mv (v := .sl v3) rfl) ?_
      refine o_bind ?_; intro p10 hp10
      refine f_op rfl rfl (s_callF rfl ok49 (sim49 hp10)) ?_
      refine o_bind ?_; intro p11 hp11
      refine f_op rfl rfl (s_callF rfl ok40 (sim40 happ hp11)) ?_
      refine f_op rfl rfl (s_mv (v := .tup [.sl p11.1.1, .int .i64 p11.1.2]) rfl) ?_
      refine f_op rfl rfl (s_extract (r := .sl p11.1.1) rfl rfl) ?_
      refine f_op rfl rfl (s_extract (r := .int .i64 p11.1.2) rfl rfl) ?_
      refine f_op rfl rfl (s_as (v := .sl p11.1.1) rfl) ?_
      refine f_op rfl rfl (s_as (v := .int .i64 p11.1.2) rfl) ?_
      refine f_nil ?_
      refine f_seq ?_
      refine f_seq ?_
      refine f_region ?_
      refine f_op rfl rfl (s_mv (v := .int .i64 p9.1.2) rfl) ?_
      refine f_op rfl rfl (s_neq rfl rfl) ?_
      refine f_op rfl rfl (s_mv (v := .bool (decide (p9.1.2 ≠ 0))) rfl) ?_
      refine o_if (fun h12 => ?_) (fun h12 => ?_)
      · skip
        refine o_know 56 rfl (dec_true h12) ?_
        refine f_no rfl rfl ?_
        refine f_no rfl rfl ?_
        refine f_op rfl rfl (s_pickT (v := .bool true) rfl rfl) ?_
        refine f_op rfl rfl (s_mv (v := .bool true) rfl) ?_
        refine f_no rfl rfl ?_
        refine f_no rfl rfl ?_
        refine f_no rfl rfl ?_
        refine f_no rfl rfl ?_
        refine f_no rfl rfl ?_
        refine f_op rfl rfl (s_pickT (v := .bool true) rfl rfl) ?_
        refine f_nil ?_
        refine f_keep [0, 3, 5, 7, 9, 66] ?_
        exact s10_j1 happ v1 v2 v3 p9.1.1 p11.1.1 true p11.2
      · skip
        refine o_know 56 rfl (dec_false h12) ?_
        refine f_op rfl rfl (s_mv (v := .int .i64 p11.1.2) rfl) ?_
        refine f_op rfl rfl (s_neq rfl rfl) ?_
        refine f_op rfl rfl (s_pickF (v := .bool (decide (p11.1.2 ≠ 0))) rfl rfl) ?_
        refine f_op rfl rfl (s_mv (v := .bool (decide (p11.1.2 ≠ 0))) rfl) ?_
        refine o_if (fun h13 => ?_) (fun h13 => ?_)
        · skip
          refine o_know 60 rfl (dec_true h13) ?_
          refine f_no rfl rfl ?_
          refine f_no rfl rfl ?_
          refine f_no rfl rfl ?_
          refine f_no rfl rfl ?_
          refine f_no rfl rfl ?_
          refine f_op rfl rfl (s_pickT (v := .bool true) rfl rfl) ?_
          refine f_nil ?_
          refine f_keep [0, 3, 5, 7, 9, 66] ?_
          exact s10_j1 happ v1 v2 v3 p9.1.1 p11.1.1 true p11.2
        · skip
          refine o_know 60 rfl (dec_false h13) ?_
          refine f_op rfl rfl (s_mv (v := .sl p9.1.1) rfl) ?_
          refine f_op rfl rfl (s_lenS rfl Try.underlying37 rfl) ?_
          refine f_op rfl rfl (s_mv (v := .sl p11.1.1) rfl) ?_
          refine f_op rfl rfl (s_lenS rfl Try.underlying37 rfl) ?_
          refine f_op rfl rfl (s_neq rfl rfl) ?_
          refine f_op rfl rfl (s_pickF (v := .bool (decide ((p9.1.1.len : Int) ≠ (p11.1.1.len : Int)))) rfl rfl) ?_
          refine f_nil ?_
          refine f_keep [0, 3, 5, 7, 9, 66] ?_
          exact s10_j1 happ v1 v2 v3 p9.1.1 p11.1.1 (decide ((p9.1.1.len : Int) ≠ (p11.1.1.len : Int))) p11.2
    · skip
      refine f_know 41 rfl (bool_notF h7) ?_
      refine f_condT rfl ?_
      refine f_seq ?_
      refine f_region ?_
      refine f_op rfl rfl (s_as (v := .bool false) rfl) ?_
      refine f_nil ?_
      exact f_ret (.tmp rfl (.nil)) rfl

theorem sim10 {app : App} (happ : AppSim Try.prog app) {a0 : Sl} {a1_0 : Int} {a1_1 : Int} {a1_2 : Int} {a1_3 : Int} {H : Hp} {p : Bool × Hp} (h : r10 app a0 a1_0 a1_1 a1_2 a1_3 H = some p) : CallSim Try.prog 10 [.sl a0, .agg [.int .i64 a1_0, .int .i64 a1_1, .int .i64 a1_2, .int .i64 a1_3]] H (.bool p.1) p.2 := by
  refine callSim (fn := Try.f10) (ret := ret10) Try.func10 rfl Try.ntmps10 rfl ?_ h
  unfold r10
  refine f_seq ?_
  refine f_region ?_
  refine f_op rfl rfl (s_box (v := .agg [.int .i64 a1_0, .int .i64 a1_1, .int .i64 a1_2, .int .i64 a1_3]) rfl rfl) ?_
  refine f_op rfl rfl (s_as (v := .bool false) rfl) ?_
  refine o_hp ?_; intro H1 hH1
  refine f_nil ?_
  refine f_seq ?_
  refine f_region ?_
  refine f_op rfl rfl (s_mv (v := .sl a0) rfl) ?_
  refine o_bind ?_; intro p2 hp2
  refine f_op rfl rfl (s_callF rfl ok18 (sim18 hp2)) ?_
  refine o_bind ?_; intro p3 hp3
  refine f_op rfl rfl (s_callF rfl ok34 (sim34 happ hp3)) ?_
  refine f_op rfl rfl (s_mv (v := .tup [.sl p3.1.1, .int .i64 p3.1.2]) rfl) ?_
  refine f_op rfl rfl (s_extract (r := .sl p3.1.1) rfl rfl) ?_
  refine f_op rfl rfl (s_extract (r := .int .i64 p3.1.2) rfl rfl) ?_
  refine f_op rfl rfl (s_as (v := .sl p3.1.1) rfl) ?_
  refine f_op rfl rfl (s_as (v := .int .i64 p3.1.2) rfl) ?_
  refine f_nil ?_
  refine f_seq ?_
  refine f_seq ?_
  refine f_region ?_
  refine f_op rfl rfl (s_mv (v := .int .i64 p3.1.2) rfl) ?_
  refine f_op rfl rfl (s_neq rfl rfl) ?_
  refine f_op rfl rfl (s_mv (v := .bool (decide (p3.1.2 ≠ 0))) rfl) ?_
  refine o_if (fun h4 => ?_) (fun h4 => ?_)
  · skip
    refine o_know 28 rfl (dec_true h4) ?_
    refine f_no rfl rfl ?_
    refine f_no rfl rfl ?_
    refine f_no rfl rfl ?_
    refine f_op rfl rfl (s_pickT (v := .bool true) rfl rfl) ?_
    refine f_nil ?_
    refine f_keep [0, 3, 5, 6, 32] ?_
    exact s10_j0 happ a0 H.n p3.1.1 p3.1.2 true p3.2
  · skip
    refine o_know 28 rfl (dec_false h4) ?_
    refine f_op rfl rfl (s_mv (v := .sl a0) rfl) ?_
    refine o_bind ?_; intro p5 hp5
    refine f_op rfl rfl (s_callF rfl ok19 (sim19 hp5)) ?_
    refine f_op rfl rfl (s_not rfl) ?_
    refine f_op rfl rfl (s_pickF (v := .bool (!p5.1)) rfl rfl) ?_
    refine f_nil ?_
    refine f_keep [0, 3, 5, 6, 32] ?_
    exact s10_j0 happ a0 H.n p3.1.1 p3.1.2 (!p5.1) p5.2

/- 97 congou/cuts.cross -/
theorem ok97 : FnOk Try.prog 97 := ⟨⟨Try.f97, Try.func97, by kernel_rfl, rfl⟩⟩
theorem sim97 {a0 : Int} {a1 : Int} {a2 : Int} {a3 : Int} {H : Hp} {p : Int × Hp} (h : r97 a0 a1 a2 a3 H = some p) : CallSim Try.prog 97 [.int .i64 a0, .int .i64 a1, .int .i64 a2, .int .i64 a3] H (.int .i64 p.1) p.2 := by
  refine callSim (fn := Try.f97) (ret := ret97) Try.func97 rfl Try.ntmps97 rfl ?_ h
  unfold r97
  refine f_seq ?_
  refine f_region ?_
  refine f_op rfl rfl (s_as (v := .int .i64 0) rfl) ?_
  refine f_nil ?_
  refine f_seq ?_
  refine f_region ?_
  refine f_op rfl rfl (s_mv (v := .int .i64 a0) rfl) ?_
  refine f_op rfl rfl (s_mv (v := .int .i64 a3) rfl) ?_
  refine f_op rfl rfl (s_mul rfl rfl) ?_
  refine f_op rfl rfl (s_mv (v := .int .i64 a1) rfl) ?_
  refine f_op rfl rfl (s_mv (v := .int .i64 a2) rfl) ?_
  refine f_op rfl rfl (s_mul rfl rfl) ?_
  refine f_op rfl rfl (s_sub rfl rfl) ?_
  refine f_op rfl rfl (s_as (v := .int .i64 (w64 ((w64 (a0 * a3)) - (w64 (a1 * a2))))) rfl) ?_
  refine f_nil ?_
  exact f_ret (.tmp rfl (.nil)) rfl

/- 96 (congou/cuts.Side).meet -/
theorem ok96 : FnOk Try.prog 96 := ⟨⟨Try.f96, Try.func96, by kernel_rfl, rfl⟩⟩
theorem sim96 {a0_0 : Int} {a0_1 : Int} {a0_2 : Int} {a1_0 : Int} {a1_1 : Int} {a1_2 : Int} {H : Hp} {p : (Int × Int × Int × Int × Bool) × Hp} (h : r96 a0_0 a0_1 a0_2 a1_0 a1_1 a1_2 H = some p) : CallSim Try.prog 96 [.agg [.int .i64 a0_0, .int .i64 a0_1, .int .i64 a0_2], .agg [.int .i64 a1_0, .int .i64 a1_1, .int .i64 a1_2]] H (.tup [.agg [.int .i64 p.1.1, .int .i64 p.1.2.1, .int .i64 p.1.2.2.1, .int .i64 p.1.2.2.2.1], .bool p.1.2.2.2.2]) p.2 := by
  refine callSim (fn := Try.f96) (ret := ret96) Try.func96 rfl Try.ntmps96 rfl ?_ h
  unfold r96
  refine f_seq ?_
  refine f_region ?_
  refine f_op rfl rfl (s_box (v := .agg [.int .i64 a0_0, .int .i64 a0_1, .int .i64 a0_2]) rfl rfl) ?_
  refine f_op rfl rfl (s_box (v := .agg [.int .i64 a1_0, .int .i64 a1_1, .int .i64 a1_2]) rfl rfl) ?_
  refine f_op rfl rfl (s_alloc (zs := [.int .i64 0, .int .i64 0, .int .i64 0, .int .i64 0]) ty32 rfl rfl) ?_
  refine f_op rfl rfl (s_as (v := .bool false) rfl) ?_
  refine o_hp ?_; intro H1 hH1
  refine f_nil ?_
  refine f_seq ?_
  refine f_region ?_
  refine f_op rfl rfl (s_fieldAddr Try.underlying47 rfl ty3 rfl) ?_
  refine o_bind ?_; intro x2 hx2
  refine f_op rfl rfl (s_load Try.underlying3 rfl rfl (ldI_eq hx2)) ?_
  refine f_op rfl rfl (s_fieldAddr Try.underlying47 rfl ty3 rfl) ?_
  refine o_bind ?_; intro x3 hx3
  refine f_op rfl rfl (s_load Try.underlying3 rfl rfl (ldI_eq hx3)) ?_
  refine f_op rfl rfl (s_fieldAddr Try.underlying47 rfl ty3 rfl) ?_
  refine o_bind ?_; intro x4 hx4
  refine f_op rfl rfl (s_load Try.underlying3 rfl rfl (ldI_eq hx4)) ?_
  refine f_op rfl rfl (s_fieldAddr Try.underlying47 rfl ty3 rfl) ?_
  refine o_bind ?_; intro x5 hx5
  refine f_op rfl rfl (s_load Try.underlying3 rfl rfl (ldI_eq hx5)) ?_
  refine o_bind ?_; intro p6 hp6
  refine f_op rfl rfl (s_callO rfl ok97 (sim97 hp6) rfl rfl) ?_
  refine f_op rfl rfl (s_as (v := .int .i64 p6.1) rfl) ?_
  refine f_nil ?_
  refine f_seq ?_
  refine f_seq ?_
  refine f_region ?_
  refine f_op rfl rfl (s_mv (v := .int .i64 p6.1) rfl) ?_
  refine f_op rfl rfl (s_eql rfl rfl) ?_
  refine f_nil ?_
  refine f_if (fun h7 => ?_) (fun h7 => ?_)
  · skip
    refine f_know 17 rfl (dec_true h7) ?_
    refine f_condT rfl ?_
    refine f_seq ?_
    refine f_region ?_
    refine f_op rfl rfl (s_build (cs := [.int .i64 0, .int .i64 0, .int .i64 0, .int .i64 0]) Try.underlying32 ty32 rfl pl32 rfl) ?_
    refine o_bind ?_; intro H8 hH8
    refine f_op rfl rfl (s_stores ty32 rfl rfl rfl rfl hH8 (Nat.le_of_eq (sts_mono hH8).symm)) ?_
    refine f_op rfl rfl (s_as (v := .bool false) rfl) ?_
    refine f_nil ?_
    refine f_bind ?_; intro x9 hx9
    refine f_bind ?_; intro x10 hx10
    refine f_bind ?_; intro x11 hx11
    refine f_bind ?_; intro x12 hx12
    exact f_ret (.cells Try.underlying32 rfl sz32 rfl (lds_cons (ldI_eq hx9) (lds_cons (ldI_eq hx10) (lds_cons (ldI_eq hx11) (lds_cons (ldI_eq hx12) (lds_nil))))) (.tmp rfl (.nil))) rfl
  · skip
    refine f_know 17 rfl (dec_false h7) ?_
    refine f_condF rfl ?_
    refine f_skip ?_
    refine f_seq ?_
    refine f_bind ?_; intro x13 hx13
    refine f_bind ?_; intro x14 hx14
    refine f_bind ?_; intro x15 hx15
    refine f_bind ?_; intro x16 hx16
    refine f_bind ?_; intro p17 hp17
    refine f_bind ?_; intro x18 hx18
    refine f_bind ?_; intro x19 hx19
    refine f_bind ?_; intro x20 hx20
    refine f_bind ?_; intro x21 hx21
    refine f_bind ?_; intro p22 hp22
    refine f_bind ?_; intro H23 hH23
    refine f_draw (Φ := fun _ => True) (lim := 1000000) [0, 1, 0, 1, 0, 0, 1, 0, 1, 0, 0, 0, 0, 0, 1, 0, 1, 0, 0, 1, 0, 1, 0, 0, 0, 0, 0, 2, 0] (Trc.pure rfl rfl rfl (.inl fun _ => s_fieldAddr Try.underlying47 rfl ty3 rfl) (Trc.read rfl rfl rfl (s_load Try.underlying3 rfl rfl (ldI_eq hx13)) (Trc.pure rfl rfl rfl (.inl fun _ => s_fieldAddr Try.underlying47 rfl ty3 rfl) (Trc.read rfl rfl rfl (s_load Try.underlying3 rfl rfl (ldI_eq hx14)) (Trc.pure rfl rfl rfl (.inl fun _ => s_mul rfl rfl) (Trc.pure rfl rfl rfl (.inl fun _ => s_fieldAddr Try.underlying47 rfl ty3 rfl) (Trc.read rfl rfl rfl (s_load Try.underlying3 rfl rfl (ldI_eq hx15)) (Trc.pure rfl rfl rfl (.inl fun _ => s_fieldAddr Try.underlying47 rfl ty3 rfl) (Trc.read rfl rfl rfl (s_load Try.underlying3 rfl rfl (ldI_eq hx16)) (Trc.pure rfl rfl rfl (.inl fun _ => s_mul rfl rfl) (Trc.pure rfl rfl rfl (.inl fun _ => s_sub rfl rfl) (Trc.pure rfl rfl rfl (.inl fun _ => s_mv (v := .int .i64 p6.1) rfl) (Trc.pure rfl rfl rfl (.inl fun _ => s_callO rfl ok100 (sim100 hp17) rfl rfl) (Trc.pure rfl rfl rfl (.inl fun _ => s_fieldAddr Try.underlying47 rfl ty3 rfl) (Trc.read rfl rfl rfl (s_load Try.underlying3 rfl rfl (ldI_eq hx18)) (Trc.pure rfl rfl rfl (.inl fun _ => s_fieldAddr Try.underlying47 rfl ty3 rfl) (Trc.read rfl rfl rfl (s_load Try.underlying3 rfl rfl (ldI_eq hx19)) (Trc.pure rfl rfl rfl (.inl fun _ => s_mul rfl rfl) (Trc.pure rfl rfl rfl (.inl fun _ => s_fieldAddr Try.underlying47 rfl ty3 rfl) (Trc.read rfl rfl rfl (s_load Try.underlying3 rfl rfl (ldI_eq hx20)) (Trc.pure rfl rfl rfl (.inl fun _ => s_fieldAddr Try.underlying47 rfl ty3 rfl) (Trc.read rfl rfl rfl (s_load Try.underlying3 rfl rfl (ldI_eq hx21)) (Trc.pure rfl rfl rfl (.inl fun _ => s_mul rfl rfl) (Trc.pure rfl rfl rfl (.inl fun _ => s_sub rfl rfl) (Trc.pure rfl rfl rfl (.inl fun _ => s_mv (v := .int .i64 p6.1) rfl) (Trc.pure rfl rfl rfl (.inl fun _ => s_callO rfl ok100 (sim100 hp22) rfl rfl) (Trc.pure rfl rfl rfl (.inl fun _ => s_build (cs := [.int .i64 p17.1.1, .int .i64 p17.1.2, .int .i64 p22.1.1, .int .i64 p22.1.2]) Try.underlying32 ty32 rfl pl32 rfl) (Trc.eff rfl rfl rfl (fun _ => trivial) (s_stores ty32 rfl rfl rfl rfl hH23 (Nat.le_of_eq (sts_mono hH23).symm)) (Trc.pure rfl rfl rfl (.inl fun _ => s_as (v := .bool true) rfl) (Trc.nil (fun _ => trivial))))))))))))))))))))))))))))))) rfl (by decide +kernel) mixed ?_
    refine f_bind ?_; intro x24 hx24
    refine f_bind ?_; intro x25 hx25
    refine f_bind ?_; intro x26 hx26
    refine f_bind ?_; intro x27 hx27
    exact f_ret (.cells Try.underlying32 rfl sz32 rfl (lds_cons (ldI_eq hx24) (lds_cons (ldI_eq hx25) (lds_cons (ldI_eq hx26) (lds_cons (ldI_eq hx27) (lds_nil))))) (.tmp rfl (.nil))) rfl

end Go.Lt.P2
