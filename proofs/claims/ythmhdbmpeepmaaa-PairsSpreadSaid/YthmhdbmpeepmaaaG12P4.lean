/- PRINTED BY A PROGRAM OF OURS: what each function that 'PairsSpread' reaches computes on the abstract heap, and that the translated code does just that. Nothing is asked of the input. -/
import Derived.Test.YthmhdbmpeepmaaaG12P3
set_option linter.unusedVariables false
set_option linter.unusedSimpArgs false
set_option maxRecDepth 100000
set_option maxHeartbeats 4000000
namespace Go.Lt.P8
open Go Go.Lt Go.Proofs
/- 107 congou/pairs.rows$1 -/
theorem ok107 : FnOk Try.prog 107 := ⟨⟨Try.f107, Try.func107, by kernel_rfl, rfl⟩⟩
theorem s107_j1 {app : App} (happ : AppSim Try.prog app) (kt0 : Int → Nat → Nat → Nat → Nat → Int → Int → Hp → Option (Bool × Hp)) (hkt0 : ∀ (v1 : Int) (v2 : Nat) (v3 : Nat) (v4 : Nat) (v5 : Nat) (v6 : Int) (v7 : Int) (H : Hp), Fin Try.prog Try.f107 ret107 70 (todoAt (bodyOf Try.f107) [1, 1, 1, 0, 1, 0, 0] []) [(0, .int .i64 v1), (1, .ptr v2 0), (3, .ptr v3 0), (4, .ptr v4 0), (5, .ptr v5 0), (8, .int .i64 v6), (9, .int .i64 v7)] H (kt0 v1 v2 v3 v4 v5 v6 v7 H)) (v1 : Int) (v2 : Nat) (v3 : Nat) (v4 : Nat) (v5 : Nat) (v6 : Int) (v7 : Int) (v8 : Int) (v9 : Bool) (H : Hp) : Fin Try.prog Try.f107 ret107 70 (todoAt (bodyOf Try.f107) [1, 1, 1, 0, 1, 0, 0, 1, 0, 0, 1, 0, 1] []) [(0, .int .i64 v1), (1, .ptr v2 0), (3, .ptr v3 0), (4, .ptr v4 0), (5, .ptr v5 0), (8, .int .i64 v6), (9, .int .i64 v7), (10, .int .i64 v8), (47, .bool v9)] H (r107_j1 app kt0 v1 v2 v3 v4 v5 v6 v7 v8 v9 H) := by
  unfold r107_j1
  refine f_if (fun h1 => ?_) (fun h1 => ?_)
  · skip
    refine f_know 47 rfl (bool_T h1) ?_
    refine f_condT rfl ?_
    refine f_exit rfl ?_
    refine f_region ?_
    refine f_op rfl rfl (s_mv (v := .int .i64 v7) rfl) ?_
    refine f_op rfl rfl (s_add rfl rfl) ?_
    refine f_op rfl rfl (s_as (v := .int .i64 (w64 (v7 + 1))) rfl) ?_
    refine f_nil ?_
    refine f_inLoop ?_
    refine f_keep [0, 1, 3, 4, 5, 8, 9] ?_
    exact hkt0 v1 v2 v3 v4 v5 v6 (w64 (v7 + 1)) H
  · skip
    refine f_know 47 rfl (bool_F h1) ?_
    refine f_condF rfl ?_
    refine f_skip ?_
    refine f_seq ?_
    refine f_bind ?_; intro x2 hx2
    refine f_bind ?_; intro x3 hx3
    refine f_ck fun g4 => ?_
    refine f_bind ?_; intro H5 hH5
    refine f_ck fun g6 => ?_
    refine f_bind ?_; intro H7 hH7
    refine f_ck fun g8 => ?_
    refine f_ck fun g9 => ?_
    refine f_draw (Φ := fun H_ => H_.ld v2 0 = some (.sl x3)) (lim := 1000000) [1, 0, 0, 0, 0, 0, 0, 2, 0, 2] (Trc.read rfl rfl rfl (s_load Try.underlying22 rfl rfl (ldSl_eq hx2)) (Trc.pure rfl rfl rfl (.inl fun _ => s_mv (v := .int .i64 v6) rfl) (Trc.pure rfl rfl rfl (.inr ⟨by decide +kernel, fun _ hp_ => s_load Try.underlying22 rfl rfl hp_⟩) (Trc.pure rfl rfl rfl (.inl fun _ => s_mv (v := .int .i64 v8) rfl) (Trc.pure rfl rfl rfl (.inl fun _ => s_mv (v := .int .i64 v7) rfl) (Trc.pure rfl rfl rfl (.inl fun _ => s_mv (v := .int .i64 v7) rfl) (Trc.pure rfl rfl rfl (.inl fun _ => s_idx Try.underlying22 ty3 rfl rfl g4) (Trc.eff rfl rfl rfl (fun _ => ldSl_eq hx3) (s_store (s := 1) ty3 rfl rfl rfl hH5) (Trc.pure rfl rfl rfl (.inl fun _ => s_idx Try.underlying22 ty3 rfl rfl g6) (Trc.eff rfl rfl rfl (fun _ => ldSl_eq g8) (s_store (s := 1) ty3 rfl rfl rfl hH7) (Trc.nil (fun _ => ldSl_eq g9)))))))))))) rfl (by decide +kernel) mixed ?_
    refine f_seq ?_
    refine f_bind ?_; intro x10 hx10
    refine f_ck fun g11 => ?_
    refine f_bind ?_; intro p12 hp12
    refine f_bind ?_; intro x13 hx13
    refine f_draw (Φ := fun _ => True) (lim := 1000000) [1, 0, 0, 0, 0, 2, 0] (Trc.read rfl rfl rfl (s_load Try.underlying37 rfl rfl (ldV_eq hx10)) (Trc.pure rfl rfl rfl (.inl fun _ => s_mv (v := .int .i64 v1) rfl) (Trc.pure rfl rfl rfl (.inl fun _ => s_mv (v := .int .i64 v7) rfl) (Trc.pure rfl rfl rfl (.inl fun _ => s_shl rfl rfl g11) (Trc.pure rfl rfl rfl (.inl fun _ => s_or rfl rfl) (Trc.eff rfl rfl rfl (fun _ => trivial) (s_callv happ rfl rfl hp12) (Trc.know 61 rfl (asB_eq hx13) (Trc.pure rfl rfl rfl (.inl fun _ => s_as (v := .bool x13) rfl) (Trc.nil (fun _ => trivial)))))))))) rfl (by decide +kernel) mixed ?_
    refine f_seq ?_
    refine f_bind ?_; intro x14 hx14
    refine f_bind ?_; intro x15 hx15
    refine f_ck fun g16 => ?_
    refine f_bind ?_; intro H17 hH17
    refine f_ck fun g18 => ?_
    refine f_bind ?_; intro H19 hH19
    refine f_ck fun g20 => ?_
    refine f_ck fun g21 => ?_
    refine f_draw (Φ := fun H_ => H_.ld v2 0 = some (.sl x15)) (lim := 1000000) [1, 0, 0, 0, 0, 2, 0, 2] (Trc.read rfl rfl rfl (s_load Try.underlying22 rfl rfl (ldSl_eq hx14)) (Trc.pure rfl rfl rfl (.inl fun _ => s_mv (v := .int .i64 v6) rfl) (Trc.pure rfl rfl rfl (.inr ⟨by decide +kernel, fun _ hp_ => s_load Try.underlying22 rfl rfl hp_⟩) (Trc.pure rfl rfl rfl (.inl fun _ => s_mv (v := .int .i64 v8) rfl) (Trc.pure rfl rfl rfl (.inl fun _ => s_idx Try.underlying22 ty3 rfl rfl g16) (Trc.eff rfl rfl rfl (fun _ => ldSl_eq hx15) (s_store (s := 1) ty3 rfl rfl rfl hH17) (Trc.pure rfl rfl rfl (.inl fun _ => s_idx Try.underlying22 ty3 rfl rfl g18) (Trc.eff rfl rfl rfl (fun _ => ldSl_eq g20) (s_store (s := 1) ty3 rfl rfl rfl hH19) (Trc.nil (fun _ => ldSl_eq g21)))))))))) rfl (by decide +kernel) mixed ?_
    refine f_seq ?_
    refine f_region ?_
    refine f_op rfl rfl (s_mv (v := .bool x13) rfl) ?_
    refine f_op rfl rfl (s_not rfl) ?_
    refine f_nil ?_
    refine f_if (fun h22 => ?_) (fun h22 => ?_)
    · skip
      refine f_know 69 rfl (bool_notT h22) ?_
      refine f_condF rfl ?_
      refine f_skip ?_
      refine f_inBlock ?_
      refine f_region ?_
      refine f_op rfl rfl (s_mv (v := .int .i64 v7) rfl) ?_
      refine f_op rfl rfl (s_add rfl rfl) ?_
      refine f_op rfl rfl (s_as (v := .int .i64 (w64 (v7 + 1))) rfl) ?_
      refine f_nil ?_
      refine f_inLoop ?_
      refine f_keep [0, 1, 3, 4, 5, 8, 9] ?_
      exact hkt0 v1 v2 v3 v4 v5 v6 (w64 (v7 + 1)) H19
    · skip
      refine f_know 69 rfl (bool_notF h22) ?_
      refine f_condT rfl ?_
      refine f_seq ?_
      refine f_region ?_
      refine f_op rfl rfl (s_as (v := .bool false) rfl) ?_
      refine f_nil ?_
      exact f_ret (.tmp rfl (.nil)) rfl

theorem s107_l0 {app : App} (happ : AppSim Try.prog app) : ∀ (k_ : Nat) (v1 : Int) (v2 : Nat) (v3 : Nat) (v4 : Nat) (v5 : Nat) (v6 : Int) (v7 : Int) (H : Hp), Fin Try.prog Try.f107 ret107 70 (todoAt (bodyOf Try.f107) [1, 1, 1, 0, 1, 0, 0] []) [(0, .int .i64 v1), (1, .ptr v2 0), (3, .ptr v3 0), (4, .ptr v4 0), (5, .ptr v5 0), (8, .int .i64 v6), (9, .int .i64 v7)] H (r107_l0 app k_ v1 v2 v3 v4 v5 v6 v7 H) := by
  intro k_
  induction k_ with
  | zero => intro _ _ _ _ _ _ _ _; exact f_none
  | succ k_ ih =>
    intro v1 v2 v3 v4 v5 v6 v7 H
    rw [r107_l0]
    refine f_seq ?_
    refine f_seq ?_
    refine f_region ?_
    refine f_op rfl rfl (s_mv (v := .int .i64 v7) rfl) ?_
    refine o_bind ?_; intro x1 hx1
    refine f_op rfl rfl (s_load Try.underlying3 rfl rfl (ldI_eq hx1)) ?_
    refine f_op rfl rfl (s_leq rfl rfl) ?_
    refine f_nil ?_
    refine f_if (fun h2 => ?_) (fun h2 => ?_)
    · skip
      refine f_know 21 rfl (dec_true h2) ?_
      refine f_condT rfl ?_
      refine f_skip ?_
      refine f_seq ?_
      refine f_block ?_
      refine f_seq ?_
      refine f_region ?_
      refine f_op rfl rfl (s_mv (v := .int .i64 v6) rfl) ?_
      refine f_op rfl rfl (s_mv (v := .int .i64 v7) rfl) ?_
      refine f_op rfl rfl (s_add rfl rfl) ?_
      refine o_bind ?_; intro x3 hx3
      refine f_op rfl rfl (s_load Try.underlying3 rfl rfl (ldI_eq hx3)) ?_
      refine f_op rfl rfl (s_add rfl rfl) ?_
      refine f_op rfl rfl (s_sub rfl rfl) ?_
      refine f_op rfl rfl (s_as (v := .int .i64 (w64 ((w64 ((w64 (v6 + v7)) + x3)) - 1))) rfl) ?_
      refine f_nil ?_
      refine f_seq ?_
      refine f_seq ?_
      refine f_region ?_
      refine f_op rfl rfl (s_mv (v := .int .i64 v1) rfl) ?_
      refine f_op rfl rfl (s_mv (v := .int .i64 v7) rfl) ?_
      refine o_ck fun g4 => ?_
      refine f_op rfl rfl (s_shr rfl rfl g4) ?_
      refine f_op rfl rfl (s_and rfl rfl) ?_
      refine f_op rfl rfl (s_eql rfl rfl) ?_
      refine f_op rfl rfl (s_mv (v := .bool (decide ((bitsOf .and .i64 (shrOf .i64 v1 v7) 1) = 1))) rfl) ?_
      refine o_if (fun h5 => ?_) (fun h5 => ?_)
      · skip
        refine o_know 35 rfl (dec_true h5) ?_
        refine f_no rfl rfl ?_
        refine f_no rfl rfl ?_
        refine f_no rfl rfl ?_
        refine f_no rfl rfl ?_
        refine f_op rfl rfl (s_pickT (v := .bool true) rfl rfl) ?_
        refine f_op rfl rfl (s_mv (v := .bool true) rfl) ?_
        refine f_no rfl rfl ?_
        refine f_no rfl rfl ?_
        refine f_no rfl rfl ?_
        refine f_no rfl rfl ?_
        refine f_no rfl rfl ?_
        refine f_op rfl rfl (s_pickT (v := .bool true) rfl rfl) ?_
        refine f_nil ?_
        refine f_keep [0, 1, 3, 4, 5, 8, 9, 10, 47] ?_
        exact s107_j1 happ _ (fun v1_ v2_ v3_ v4_ v5_ v6_ v7_ H_ => ih v1_ v2_ v3_ v4_ v5_ v6_ v7_ H_) v1 v2 v3 v4 v5 v6 v7 (w64 ((w64 ((w64 (v6 + v7)) + x3)) - 1)) true H
      · skip
        refine o_know 35 rfl (dec_false h5) ?_
        refine f_op rfl rfl (s_mv (v := .int .i64 (w64 ((w64 ((w64 (v6 + v7)) + x3)) - 1))) rfl) ?_
        refine o_bind ?_; intro x6 hx6
        refine f_op rfl rfl (s_load Try.underlying22 rfl rfl (ldSl_eq hx6)) ?_
        refine f_op rfl rfl (s_lenS rfl Try.underlying22 rfl) ?_
        refine f_op rfl rfl (s_geq rfl rfl) ?_
        refine f_op rfl rfl (s_pickF (v := .bool (decide ((x6.len : Int) ≤ (w64 ((w64 ((w64 (v6 + v7)) + x3)) - 1))))) rfl rfl) ?_
        refine f_op rfl rfl (s_mv (v := .bool (decide ((x6.len : Int) ≤ (w64 ((w64 ((w64 (v6 + v7)) + x3)) - 1))))) rfl) ?_
        refine o_if (fun h7 => ?_) (fun h7 => ?_)
        · skip
          refine o_know 41 rfl (dec_true h7) ?_
          refine f_no rfl rfl ?_
          refine f_no rfl rfl ?_
          refine f_no rfl rfl ?_
          refine f_no rfl rfl ?_
          refine f_no rfl rfl ?_
          refine f_op rfl rfl (s_pickT (v := .bool true) rfl rfl) ?_
          refine f_nil ?_
          refine f_keep [0, 1, 3, 4, 5, 8, 9, 10, 47] ?_
          exact s107_j1 happ _ (fun v1_ v2_ v3_ v4_ v5_ v6_ v7_ H_ => ih v1_ v2_ v3_ v4_ v5_ v6_ v7_ H_) v1 v2 v3 v4 v5 v6 v7 (w64 ((w64 ((w64 (v6 + v7)) + x3)) - 1)) true H
        · skip
          refine o_know 41 rfl (dec_false h7) ?_
          refine o_bind ?_; intro x8 hx8
          refine f_op rfl rfl (s_load Try.underlying22 rfl rfl (ldSl_eq hx8)) ?_
          refine f_op rfl rfl (s_mv (v := .int .i64 (w64 ((w64 ((w64 (v6 + v7)) + x3)) - 1))) rfl) ?_
          refine o_ck fun g9 => ?_
          refine f_op rfl rfl (s_idx Try.underlying22 ty3 rfl rfl g9) ?_
          refine o_bind ?_; intro x10 hx10
          refine f_op rfl rfl (s_load Try.underlying3 rfl rfl (ldI_eq hx10)) ?_
          refine f_op rfl rfl (s_neq rfl rfl) ?_
          refine f_op rfl rfl (s_pickF (v := .bool (decide (x10 ≠ 0))) rfl rfl) ?_
          refine f_nil ?_
          refine f_keep [0, 1, 3, 4, 5, 8, 9, 10, 47] ?_
          exact s107_j1 happ _ (fun v1_ v2_ v3_ v4_ v5_ v6_ v7_ H_ => ih v1_ v2_ v3_ v4_ v5_ v6_ v7_ H_) v1 v2 v3 v4 v5 v6 v7 (w64 ((w64 ((w64 (v6 + v7)) + x3)) - 1)) (decide (x10 ≠ 0)) H
    · skip
      refine f_know 21 rfl (dec_false h2) ?_
      refine f_condF rfl ?_
      refine f_exit rfl ?_
      refine f_seq ?_
      refine f_region ?_
      refine f_op rfl rfl (s_as (v := .bool true) rfl) ?_
      refine f_nil ?_
      exact f_ret (.tmp rfl (.nil)) rfl

theorem sim107 {app : App} (happ : AppSim Try.prog app) {a0 : Int} {c0 : Nat} {c1 : Nat} {c2 : Nat} {c3 : Nat} {c4 : Nat} {H : Hp} {p : Bool × Hp} (h : r107 app a0 c0 c1 c2 c3 c4 H = some p) : CallSim Try.prog 107 [.int .i64 a0, .ptr c0 0, .ptr c1 0, .ptr c2 0, .ptr c3 0, .ptr c4 0] H (.bool p.1) p.2 := by
  refine callSim (fn := Try.f107) (ret := ret107) Try.func107 rfl Try.ntmps107 rfl ?_ h
  unfold r107
  refine f_seq ?_
  refine f_region ?_
  refine f_op rfl rfl (s_as (v := .bool false) rfl) ?_
  refine f_nil ?_
  refine f_seq ?_
  refine f_region ?_
  refine o_bind ?_; intro x1 hx1
  refine f_op rfl rfl (s_load Try.underlying22 rfl rfl (ldSl_eq hx1)) ?_
  refine o_bind ?_; intro p2 hp2
  refine f_op rfl rfl (s_callF rfl ok108 (sim108 hp2)) ?_
  refine f_op rfl rfl (s_as (v := .int .i64 p2.1) rfl) ?_
  refine f_nil ?_
  refine f_seq ?_
  refine f_seq ?_
  refine f_region ?_
  refine f_op rfl rfl (s_mv (v := .int .i64 p2.1) rfl) ?_
  refine f_op rfl rfl (s_lss rfl rfl) ?_
  refine f_nil ?_
  refine f_if (fun h3 => ?_) (fun h3 => ?_)
  · skip
    refine f_know 15 rfl (dec_true h3) ?_
    refine f_condT rfl ?_
    refine f_seq ?_
    refine f_region ?_
    refine o_bind ?_; intro x4 hx4
    refine f_op rfl rfl (s_load Try.underlying44 rfl rfl (ldV_eq hx4)) ?_
    refine o_bind ?_; intro x5 hx5
    refine f_op rfl rfl (s_load Try.underlying22 rfl rfl (ldSl_eq hx5)) ?_
    refine o_bind ?_; intro p6 hp6
    refine o_bind ?_; intro x7 hx7
    refine f_op rfl rfl (s_callv happ rfl rfl hp6) ?_
    refine o_know 18 rfl (asB_eq hx7) ?_
    refine f_op rfl rfl (s_as (v := .bool x7) rfl) ?_
    refine f_nil ?_
    exact f_ret (.tmp rfl (.nil)) rfl
  · skip
    refine f_know 15 rfl (dec_false h3) ?_
    refine f_condF rfl ?_
    refine f_skip ?_
    refine f_seq ?_
    refine f_seq ?_
    refine f_region ?_
    refine f_op rfl rfl (s_as (v := .int .i64 1) rfl) ?_
    refine f_nil ?_
    refine f_block ?_
    refine f_loop ?_
    refine f_keep [0, 1, 3, 4, 5, 8, 9] ?_
    exact s107_l0 happ FUEL a0 c0 c2 c3 c4 p2.1 1 p2.2

/- 112 (congou/pairs.together).fits$1 -/
theorem ok112 : FnOk Try.prog 112 := ⟨⟨Try.f112, Try.func112, by kernel_rfl, rfl⟩⟩
theorem sim112 {a0_0 : Int} {a0_1 : Int} {c0 : Nat} {H : Hp} {p : Bool × Hp} (h : r112 a0_0 a0_1 c0 H = some p) : CallSim Try.prog 112 [.agg [.int .i64 a0_0, .int .i64 a0_1], .ptr c0 0] H (.bool p.1) p.2 := by
  refine callSim (fn := Try.f112) (ret := ret112) Try.func112 rfl Try.ntmps112 rfl ?_ h
  unfold r112
  refine f_seq ?_
  refine f_region ?_
  refine f_op rfl rfl (s_box (v := .agg [.int .i64 a0_0, .int .i64 a0_1]) rfl rfl) ?_
  refine f_op rfl rfl (s_as (v := .bool false) rfl) ?_
  refine o_hp ?_; intro H1 hH1
  refine f_nil ?_
  refine f_seq ?_
  refine f_region ?_
  refine o_bind ?_; intro x2 hx2
  refine f_op rfl rfl (s_load Try.underlying100 rfl rfl (ldM_eq hx2)) ?_
  refine o_bind ?_; intro x3 hx3
  refine o_bind ?_; intro x4 hx4
  refine f_op rfl rfl (s_loads Try.underlying43 rfl ty43 rfl (lds_cons (ldI_eq hx3) (lds_cons (ldI_eq hx4) (lds_nil)))) ?_
  refine o_bind ?_; intro x5 hx5
  refine o_bind ?_; intro x6 hx6
  refine f_op rfl rfl (s_lookup (kt := (.arr 2 .i64)) (ok := false) Try.underlying100 ⟨3, _, _, Try.underlying43, Try.underlying3, ty3⟩ ty4 rfl rfl (mgetT_eq hx5).1 (mgetT_eq hx5).2) ?_
  refine o_know 6 rfl (asB_eq hx6) ?_
  refine f_op rfl rfl (s_as (v := .bool x6) rfl) ?_
  refine f_nil ?_
  exact f_ret (.tmp rfl (.nil)) rfl

end Go.Lt.P8
