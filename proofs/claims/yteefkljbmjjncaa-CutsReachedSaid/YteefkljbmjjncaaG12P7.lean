/- PRINTED BY A PROGRAM OF OURS: what each function that 'CutsReached' reaches computes on the abstract heap, and that the translated code does just that. Nothing is asked of the input. -/
import Derived.Test.YteefkljbmjjncaaG12P6
set_option linter.unusedVariables false
set_option linter.unusedSimpArgs false
set_option maxRecDepth 100000
set_option maxHeartbeats 4000000
namespace Go.Lt.P2
open Go Go.Lt Go.Proofs
/- 12 congou/congoulaw02.CutsReached -/
theorem ok12 : FnOk Try.prog 12 := ⟨⟨Try.f12, Try.func12, by kernel_rfl, rfl⟩⟩
theorem s12_j6 {app : App} (happ : AppSim Try.prog app) (kt3 : Sl → Int → Int → Nat → Sl → Bool → Sl → Int → Int → Hp → Option (Bool × Hp)) (hkt3 : ∀ (v1 : Sl) (v2 : Int) (v3 : Int) (v4 : Nat) (v5 : Sl) (v6 : Bool) (v7 : Sl) (v8 : Int) (v9 : Int) (H : Hp), Fin Try.prog Try.f12 ret12 237 (todoAt (bodyOf Try.f12) [1, 1, 1, 1, 1, 1, 1, 1, 0, 1, 0, 0] []) [(0, .sl v1), (1, .int .i64 v2), (2, .int .i64 v3), (7, .ptr v4 0), (9, .sl v5), (11, .bool v6), (84, .sl v7), (85, .int .i64 v8), (86, .int .i64 v9)] H (kt3 v1 v2 v3 v4 v5 v6 v7 v8 v9 H)) (v1 : Sl) (v2 : Int) (v3 : Int) (v4 : Nat) (v5 : Sl) (v6 : Bool) (v7 : Nat) (v8 : Sl) (v9 : Int) (v10 : Int) (v11 : Bool) (H : Hp) : Fin Try.prog Try.f12 ret12 237 (todoAt (bodyOf Try.f12) [1, 1, 1, 1, 1, 1, 1, 1, 0, 1, 0, 0, 1, 1, 0, 0, 1, 1, 1, 1, 1, 0, 1] []) [(0, .sl v1), (1, .int .i64 v2), (2, .int .i64 v3), (7, .ptr v4 0), (9, .sl v5), (11, .bool v6), (18, .ptr v7 0), (84, .sl v8), (85, .int .i64 v9), (86, .int .i64 v10), (225, .bool v11)] H (r12_j6 app kt3 v1 v2 v3 v4 v5 v6 v7 v8 v9 v10 v11 H) := by
  unfold r12_j6
  refine f_if (fun h1 => ?_) (fun h1 => ?_)
  · skip
    refine f_know 225 rfl (bool_T h1) ?_
    refine f_condT rfl ?_
    refine f_seq ?_
    refine f_region ?_
    refine f_op rfl rfl (s_as (v := .bool false) rfl) ?_
    refine f_nil ?_
    exact f_ret (.tmp rfl (.nil)) rfl
  · skip
    refine f_know 225 rfl (bool_F h1) ?_
    refine f_condF rfl ?_
    refine f_skip ?_
    refine f_region ?_
    refine f_op rfl rfl (s_mv (v := .bool v6) rfl) ?_
    refine f_op rfl rfl (s_mv (v := .bool v6) rfl) ?_
    refine o_if (fun h2 => ?_) (fun h2 => ?_)
    · skip
      refine o_know 227 rfl (bool_T h2) ?_
      refine f_no rfl rfl ?_
      refine f_no rfl rfl ?_
      refine f_no rfl rfl ?_
      refine f_op rfl rfl (s_pickT (v := .bool true) rfl rfl) ?_
      refine f_op rfl rfl (s_as (v := .bool true) rfl) ?_
      refine f_nil ?_
      refine f_inBlock ?_
      refine f_region ?_
      refine f_op rfl rfl (s_add rfl rfl) ?_
      refine f_op rfl rfl (s_mv (v := .int .i64 (w64 (v10 + 1))) rfl) ?_
      refine f_nil ?_
      refine f_inLoop ?_
      refine f_keep [0, 1, 2, 7, 9, 11, 84, 85, 86] ?_
      exact hkt3 v1 v2 v3 v4 v5 true v8 v9 (w64 (v10 + 1)) H
    · skip
      refine o_know 227 rfl (bool_F h2) ?_
      refine o_bind ?_; intro x3 hx3
      refine o_bind ?_; intro x4 hx4
      refine f_op rfl rfl (s_loads Try.underlying24 rfl ty24 rfl (lds_cons (ldI_eq hx3) (lds_cons (ldI_eq hx4) (lds_nil)))) ?_
      refine o_bind ?_; intro x5 hx5
      refine o_bind ?_; intro x6 hx6
      refine f_op rfl rfl (s_loads Try.underlying24 rfl ty24 rfl (lds_cons (ldI_eq hx5) (lds_cons (ldI_eq hx6) (lds_nil)))) ?_
      refine f_op rfl rfl (s_eqAgg eg24 rfl rfl (eq2 Try.underlying24 Try.underlying3 Try.underlying3 (by decide) (by decide) rfl rfl sih24 x3 x4 x5 x6)) ?_
      refine f_op rfl rfl (s_pickF (v := .bool ((x3 == x5) && (x4 == x6))) rfl rfl) ?_
      refine f_op rfl rfl (s_as (v := .bool ((x3 == x5) && (x4 == x6))) rfl) ?_
      refine f_nil ?_
      refine f_inBlock ?_
      refine f_region ?_
      refine f_op rfl rfl (s_add rfl rfl) ?_
      refine f_op rfl rfl (s_mv (v := .int .i64 (w64 (v10 + 1))) rfl) ?_
      refine f_nil ?_
      refine f_inLoop ?_
      refine f_keep [0, 1, 2, 7, 9, 11, 84, 85, 86] ?_
      exact hkt3 v1 v2 v3 v4 v5 ((x3 == x5) && (x4 == x6)) v8 v9 (w64 (v10 + 1)) H

theorem s12_l5 {app : App} (happ : AppSim Try.prog app) (kt3 : Sl → Int → Int → Nat → Sl → Bool → Sl → Int → Int → Hp → Option (Bool × Hp)) (hkt3 : ∀ (v1 : Sl) (v2 : Int) (v3 : Int) (v4 : Nat) (v5 : Sl) (v6 : Bool) (v7 : Sl) (v8 : Int) (v9 : Int) (H : Hp), Fin Try.prog Try.f12 ret12 237 (todoAt (bodyOf Try.f12) [1, 1, 1, 1, 1, 1, 1, 1, 0, 1, 0, 0] []) [(0, .sl v1), (1, .int .i64 v2), (2, .int .i64 v3), (7, .ptr v4 0), (9, .sl v5), (11, .bool v6), (84, .sl v7), (85, .int .i64 v8), (86, .int .i64 v9)] H (kt3 v1 v2 v3 v4 v5 v6 v7 v8 v9 H)) : ∀ (k_ : Nat) (v1 : Sl) (v2 : Int) (v3 : Int) (v4 : Nat) (v5 : Sl) (v6 : Bool) (v7 : Int) (v8 : Nat) (v9 : Nat) (v10 : Sl) (v11 : Int) (v12 : Int) (v13 : Sl) (v14 : Int) (v15 : Int) (H : Hp), Fin Try.prog Try.f12 ret12 237 (todoAt (bodyOf Try.f12) [1, 1, 1, 1, 1, 1, 1, 1, 0, 1, 0, 0, 1, 1, 0, 0, 1, 1, 1, 0, 1, 0, 0] []) [(0, .sl v1), (1, .int .i64 v2), (2, .int .i64 v3), (7, .ptr v4 0), (9, .sl v5), (11, .bool v6), (12, .int .i64 v7), (14, .ptr v8 0), (15, .ptr v9 0), (84, .sl v10), (85, .int .i64 v11), (86, .int .i64 v12), (133, .sl v13), (134, .int .i64 v14), (135, .int .i64 v15)] H (r12_l5 app kt3 k_ v1 v2 v3 v4 v5 v6 v7 v8 v9 v10 v11 v12 v13 v14 v15 H) := by
  intro k_
  induction k_ with
  | zero => intro _ _ _ _ _ _ _ _ _ _ _ _ _ _ _ _; exact f_none
  | succ k_ ih =>
    intro v1 v2 v3 v4 v5 v6 v7 v8 v9 v10 v11 v12 v13 v14 v15 H
    rw [r12_l5]
    refine f_seq ?_
    refine f_region ?_
    refine f_op rfl rfl (s_lss rfl rfl) ?_
    refine f_nil ?_
    refine f_seq ?_
    refine f_if (fun h1 => ?_) (fun h1 => ?_)
    · skip
      refine f_know 136 rfl (dec_true h1) ?_
      refine f_condT rfl ?_
      refine f_skip ?_
      refine f_seq ?_
      refine f_block ?_
      refine f_seq ?_
      refine f_region ?_
      refine o_ck fun g2 => ?_
      refine f_op rfl rfl (s_idx Try.underlying22 ty46 rfl rfl g2) ?_
      refine o_bind ?_; intro x3 hx3
      refine o_bind ?_; intro x4 hx4
      refine o_bind ?_; intro x5 hx5
      refine f_op rfl rfl (s_loads Try.underlying46 rfl ty46 rfl (lds_cons (ldI_eq hx3) (lds_cons (ldI_eq hx4) (lds_cons (ldI_eq hx5) (lds_nil))))) ?_
      refine f_op rfl rfl (s_alloc (zs := [.int .i64 0, .int .i64 0, .int .i64 0]) ty46 rfl rfl) ?_
      refine o_bind ?_; intro H6 hH6
      refine f_op rfl rfl (s_stores ty46 rfl rfl rfl rfl hH6 (Nat.le_of_eq (sts_mono hH6).symm)) ?_
      refine f_nil ?_
      refine f_seq ?_
      refine f_region ?_
      refine f_op rfl rfl (s_fieldAddr Try.underlying46 rfl ty3 rfl) ?_
      refine o_bind ?_; intro x7 hx7
      refine f_op rfl rfl (s_load Try.underlying3 rfl rfl (ldI_eq hx7)) ?_
      refine f_op rfl rfl (s_fieldAddr Try.underlying24 rfl ty3 rfl) ?_
      refine o_bind ?_; intro x8 hx8
      refine f_op rfl rfl (s_load Try.underlying3 rfl rfl (ldI_eq hx8)) ?_
      refine f_op rfl rfl (s_mul rfl rfl) ?_
      refine f_op rfl rfl (s_fieldAddr Try.underlying24 rfl ty3 rfl) ?_
      refine o_bind ?_; intro x9 hx9
      refine f_op rfl rfl (s_load Try.underlying3 rfl rfl (ldI_eq hx9)) ?_
      refine f_op rfl rfl (s_mul rfl rfl) ?_
      refine f_op rfl rfl (s_fieldAddr Try.underlying46 rfl ty3 rfl) ?_
      refine o_bind ?_; intro x10 hx10
      refine f_op rfl rfl (s_load Try.underlying3 rfl rfl (ldI_eq hx10)) ?_
      refine f_op rfl rfl (s_fieldAddr Try.underlying24 rfl ty3 rfl) ?_
      refine o_bind ?_; intro x11 hx11
      refine f_op rfl rfl (s_load Try.underlying3 rfl rfl (ldI_eq hx11)) ?_
      refine f_op rfl rfl (s_mul rfl rfl) ?_
      refine f_op rfl rfl (s_fieldAddr Try.underlying24 rfl ty3 rfl) ?_
      refine o_bind ?_; intro x12 hx12
      refine f_op rfl rfl (s_load Try.underlying3 rfl rfl (ldI_eq hx12)) ?_
      refine f_op rfl rfl (s_mul rfl rfl) ?_
      refine f_op rfl rfl (s_add rfl rfl) ?_
      refine f_op rfl rfl (s_fieldAddr Try.underlying46 rfl ty3 rfl) ?_
      refine o_bind ?_; intro x13 hx13
      refine f_op rfl rfl (s_load Try.underlying3 rfl rfl (ldI_eq hx13)) ?_
      refine f_op rfl rfl (s_fieldAddr Try.underlying24 rfl ty3 rfl) ?_
      refine o_bind ?_; intro x14 hx14
      refine f_op rfl rfl (s_load Try.underlying3 rfl rfl (ldI_eq hx14)) ?_
      refine f_op rfl rfl (s_mul rfl rfl) ?_
      refine f_op rfl rfl (s_fieldAddr Try.underlying24 rfl ty3 rfl) ?_
      refine o_bind ?_; intro x15 hx15
      refine f_op rfl rfl (s_load Try.underlying3 rfl rfl (ldI_eq hx15)) ?_
      refine f_op rfl rfl (s_mul rfl rfl) ?_
      refine f_op rfl rfl (s_gtr rfl rfl) ?_
      refine f_nil ?_
      refine f_if (fun h16 => ?_) (fun h16 => ?_)
      · skip
        refine f_know 164 rfl (dec_true h16) ?_
        refine f_condT rfl ?_
        refine f_seq ?_
        refine f_region ?_
        refine f_op rfl rfl (s_as (v := .bool false) rfl) ?_
        refine f_nil ?_
        exact f_ret (.tmp rfl (.nil)) rfl
      · skip
        refine f_know 164 rfl (dec_false h16) ?_
        refine f_condF rfl ?_
        refine f_skip ?_
        refine f_inBlock ?_
        refine f_region ?_
        refine f_op rfl rfl (s_add rfl rfl) ?_
        refine f_op rfl rfl (s_mv (v := .int .i64 (w64 (v15 + 1))) rfl) ?_
        refine f_nil ?_
        refine f_inLoop ?_
        refine f_keep [0, 1, 2, 7, 9, 11, 12, 14, 15, 84, 85, 86, 133, 134, 135] ?_
        exact ih v1 v2 v3 v4 v5 v6 v7 v8 v9 v10 v11 v12 v13 v14 (w64 (v15 + 1)) H6
    · skip
      refine f_know 136 rfl (dec_false h1) ?_
      refine f_condF rfl ?_
      refine f_exit rfl ?_
      refine f_seq ?_
      refine f_region ?_
      refine f_op rfl rfl (s_mv (v := .int .i64 v2) rfl) ?_
      refine f_op rfl rfl (s_fieldAddr Try.underlying24 rfl ty3 rfl) ?_
      refine o_bind ?_; intro x17 hx17
      refine f_op rfl rfl (s_load Try.underlying3 rfl rfl (ldI_eq hx17)) ?_
      refine f_op rfl rfl (s_mul rfl rfl) ?_
      refine f_op rfl rfl (s_fieldAddr Try.underlying24 rfl ty3 rfl) ?_
      refine o_bind ?_; intro x18 hx18
      refine f_op rfl rfl (s_load Try.underlying3 rfl rfl (ldI_eq hx18)) ?_
      refine f_op rfl rfl (s_mul rfl rfl) ?_
      refine f_op rfl rfl (s_mv (v := .int .i64 v3) rfl) ?_
      refine f_op rfl rfl (s_fieldAddr Try.underlying24 rfl ty3 rfl) ?_
      refine o_bind ?_; intro x19 hx19
      refine f_op rfl rfl (s_load Try.underlying3 rfl rfl (ldI_eq hx19)) ?_
      refine f_op rfl rfl (s_mul rfl rfl) ?_
      refine f_op rfl rfl (s_fieldAddr Try.underlying24 rfl ty3 rfl) ?_
      refine o_bind ?_; intro x20 hx20
      refine f_op rfl rfl (s_load Try.underlying3 rfl rfl (ldI_eq hx20)) ?_
      refine f_op rfl rfl (s_mul rfl rfl) ?_
      refine f_op rfl rfl (s_add rfl rfl) ?_
      refine f_op rfl rfl (s_fieldAddr Try.underlying24 rfl ty3 rfl) ?_
      refine o_bind ?_; intro x21 hx21
      refine f_op rfl rfl (s_load Try.underlying3 rfl rfl (ldI_eq hx21)) ?_
      refine f_op rfl rfl (s_fieldAddr Try.underlying24 rfl ty3 rfl) ?_
      refine o_bind ?_; intro x22 hx22
      refine f_op rfl rfl (s_load Try.underlying3 rfl rfl (ldI_eq hx22)) ?_
      refine f_op rfl rfl (s_mul rfl rfl) ?_
      refine o_bind ?_; intro p23 hp23
      refine f_op rfl rfl (s_callO rfl ok56 (sim56 hp23) rfl rfl) ?_
      refine f_op rfl rfl (s_alloc (zs := [.int .i64 0, .int .i64 0]) ty24 rfl rfl) ?_
      refine o_bind ?_; intro H24 hH24
      refine f_op rfl rfl (s_stores ty24 rfl rfl rfl rfl hH24 (Nat.le_of_eq (sts_mono hH24).symm)) ?_
      refine f_nil ?_
      refine f_seq ?_
      refine f_seq ?_
      refine f_bind ?_; intro x25 hx25
      refine f_bind ?_; intro x26 hx26
      refine f_bind ?_; intro x27 hx27
      refine f_bind ?_; intro x28 hx28
      refine f_bind ?_; intro p29 hp29
      refine f_if (fun h30 => ?_) (fun h30 => ?_)
      · skip
        refine f_draw (Φ := fun _ => True) (lim := 1000000) [1, 1, 0, 0, 0, 0, 0, 0, 0, 0, 0, 0, 0, 0, 0, 0, 0, 0, 0, 0, 0, 0, 0, 0, 0, 0, 0, 0, 0, 0, 0, 0, 0, 0, 0, 0, 0, 0, 0] (Trc.read rfl rfl rfl (s_loads Try.underlying24 rfl ty24 rfl (lds_cons (ldI_eq hx25) (lds_cons (ldI_eq hx26) (lds_nil)))) (Trc.read rfl rfl rfl (s_loads Try.underlying24 rfl ty24 rfl (lds_cons (ldI_eq hx27) (lds_cons (ldI_eq hx28) (lds_nil)))) (Trc.pure rfl rfl rfl (.inl fun _ => s_callO rfl ok57 (sim57 hp29) rfl rfl) (Trc.pure rfl rfl rfl (.inl fun _ => s_mv (v := .bool p29.1) rfl) (Trc.know 190 rfl (bool_T h30) (Trc.no rfl rfl rfl (Trc.no rfl rfl rfl (Trc.no rfl rfl rfl (Trc.no rfl rfl rfl (Trc.no rfl rfl rfl (Trc.no rfl rfl rfl (Trc.no rfl rfl rfl (Trc.no rfl rfl rfl (Trc.no rfl rfl rfl (Trc.no rfl rfl rfl (Trc.no rfl rfl rfl (Trc.no rfl rfl rfl (Trc.no rfl rfl rfl (Trc.no rfl rfl rfl (Trc.no rfl rfl rfl (Trc.no rfl rfl rfl (Trc.no rfl rfl rfl (Trc.no rfl rfl rfl (Trc.no rfl rfl rfl (Trc.no rfl rfl rfl (Trc.no rfl rfl rfl (Trc.no rfl rfl rfl (Trc.no rfl rfl rfl (Trc.no rfl rfl rfl (Trc.no rfl rfl rfl (Trc.no rfl rfl rfl (Trc.no rfl rfl rfl (Trc.no rfl rfl rfl (Trc.no rfl rfl rfl (Trc.no rfl rfl rfl (Trc.no rfl rfl rfl (Trc.no rfl rfl rfl (Trc.no rfl rfl rfl (Trc.no rfl rfl rfl (Trc.pure rfl rfl rfl (.inl fun _ => s_pickT (v := .bool true) rfl rfl) (Trc.nil (fun _ => trivial)))))))))))))))))))))))))))))))))))))))))) rfl (by decide +kernel) mixed ?_
        refine f_keep [0, 1, 2, 7, 9, 11, 18, 84, 85, 86, 225] ?_
        exact s12_j6 happ _ hkt3 v1 v2 v3 v4 v5 v6 H.n v10 v11 v12 true H24
      · skip
        refine f_if (fun h31 => ?_) (fun h31 => ?_)
        · skip
          refine f_ck fun g32 => ?_
          refine f_bind ?_; intro x33 hx33
          refine f_bind ?_; intro x34 hx34
          refine f_bind ?_; intro x35 hx35
          refine f_bind ?_; intro x36 hx36
          refine f_bind ?_; intro p37 hp37
          refine f_if (fun h38 => ?_) (fun h38 => ?_)
          · skip
            refine f_draw (Φ := fun _ => True) (lim := 1000000) [1, 1, 0, 0, 0, 0, 0, 0, 0, 0, 0, 0, 1, 1, 0, 0, 0, 0, 0, 0, 0, 0, 0, 0, 0, 0, 0, 0, 0, 0, 0, 0, 0, 0, 0, 0, 0, 0, 0] (Trc.read rfl rfl rfl (s_loads Try.underlying24 rfl ty24 rfl (lds_cons (ldI_eq hx25) (lds_cons (ldI_eq hx26) (lds_nil)))) (Trc.read rfl rfl rfl (s_loads Try.underlying24 rfl ty24 rfl (lds_cons (ldI_eq hx27) (lds_cons (ldI_eq hx28) (lds_nil)))) (Trc.pure rfl rfl rfl (.inl fun _ => s_callO rfl ok57 (sim57 hp29) rfl rfl) (Trc.pure rfl rfl rfl (.inl fun _ => s_mv (v := .bool p29.1) rfl) (Trc.know 190 rfl (bool_F h30) (Trc.pure rfl rfl rfl (.inl fun _ => s_mv (v := .int .i64 v7) rfl) (Trc.pure rfl rfl rfl (.inl fun _ => s_gtr rfl rfl) (Trc.pure rfl rfl rfl (.inl fun _ => s_mv (v := .bool (decide (0 < v7))) rfl) (Trc.know 193 rfl (dec_true h31) (Trc.pure rfl rfl rfl (.inl fun _ => s_mv (v := .sl v5) rfl) (Trc.pure rfl rfl rfl (.inl fun _ => s_mv (v := .int .i64 v7) rfl) (Trc.pure rfl rfl rfl (.inl fun _ => s_sub rfl rfl) (Trc.pure rfl rfl rfl (.inl fun _ => s_idx Try.underlying83 ty32 rfl rfl g32) (Trc.pure rfl rfl rfl (.inl fun _ => s_fieldAddr Try.underlying32 rfl ty24 rfl) (Trc.read rfl rfl rfl (s_loads Try.underlying24 rfl ty24 rfl (lds_cons (ldI_eq hx33) (lds_cons (ldI_eq hx34) (lds_nil)))) (Trc.read rfl rfl rfl (s_loads Try.underlying24 rfl ty24 rfl (lds_cons (ldI_eq hx35) (lds_cons (ldI_eq hx36) (lds_nil)))) (Trc.pure rfl rfl rfl (.inl fun _ => s_callO rfl ok57 (sim57 hp37) rfl rfl) (Trc.pure rfl rfl rfl (.inl fun _ => s_not rfl) (Trc.pure rfl rfl rfl (.inl fun _ => s_pickT (v := .bool (!p37.1)) rfl rfl) (Trc.pure rfl rfl rfl (.inl fun _ => s_mv (v := .bool (!p37.1)) rfl) (Trc.know 204 rfl (bool_notT h38) (Trc.no rfl rfl rfl (Trc.no rfl rfl rfl (Trc.no rfl rfl rfl (Trc.no rfl rfl rfl (Trc.no rfl rfl rfl (Trc.no rfl rfl rfl (Trc.no rfl rfl rfl (Trc.no rfl rfl rfl (Trc.no rfl rfl rfl (Trc.no rfl rfl rfl (Trc.no rfl rfl rfl (Trc.no rfl rfl rfl (Trc.no rfl rfl rfl (Trc.no rfl rfl rfl (Trc.no rfl rfl rfl (Trc.no rfl rfl rfl (Trc.no rfl rfl rfl (Trc.no rfl rfl rfl (Trc.no rfl rfl rfl (Trc.pure rfl rfl rfl (.inl fun _ => s_pickF (v := .bool false) rfl rfl) (Trc.pure rfl rfl rfl (.inl fun _ => s_pickF (v := .bool false) rfl rfl) (Trc.nil (fun _ => trivial)))))))))))))))))))))))))))))))))))))))))))) rfl (by decide +kernel) mixed ?_
            refine f_keep [0, 1, 2, 7, 9, 11, 18, 84, 85, 86, 225] ?_
            exact s12_j6 happ _ hkt3 v1 v2 v3 v4 v5 v6 H.n v10 v11 v12 false H24
          · skip
            refine f_ck fun g39 => ?_
            refine f_bind ?_; intro x40 hx40
            refine f_bind ?_; intro x41 hx41
            refine f_bind ?_; intro x42 hx42
            refine f_bind ?_; intro x43 hx43
            refine f_if (fun h44 => ?_) (fun h44 => ?_)
            · skip
              refine f_ck fun g45 => ?_
              refine f_bind ?_; intro x46 hx46
              refine f_bind ?_; intro x47 hx47
              refine f_bind ?_; intro x48 hx48
              refine f_bind ?_; intro x49 hx49
              refine f_bind ?_; intro p50 hp50
              refine f_draw (Φ := fun _ => True) (lim := 1000000) [1, 1, 0, 0, 0, 0, 0, 0, 0, 0, 0, 0, 1, 1, 0, 0, 0, 0, 0, 0, 0, 0, 0, 1, 1, 0, 0, 0, 0, 0, 0, 0, 1, 1, 0, 0, 0, 0, 0] (Trc.read rfl rfl rfl (s_loads Try.underlying24 rfl ty24 rfl (lds_cons (ldI_eq hx25) (lds_cons (ldI_eq hx26) (lds_nil)))) (Trc.read rfl rfl rfl (s_loads Try.underlying24 rfl ty24 rfl (lds_cons (ldI_eq hx27) (lds_cons (ldI_eq hx28) (lds_nil)))) (Trc.pure rfl rfl rfl (.inl fun _ => s_callO rfl ok57 (sim57 hp29) rfl rfl) (Trc.pure rfl rfl rfl (.inl fun _ => s_mv (v := .bool p29.1) rfl) (Trc.know 190 rfl (bool_F h30) (Trc.pure rfl rfl rfl (.inl fun _ => s_mv (v := .int .i64 v7) rfl) (Trc.pure rfl rfl rfl (.inl fun _ => s_gtr rfl rfl) (Trc.pure rfl rfl rfl (.inl fun _ => s_mv (v := .bool (decide (0 < v7))) rfl) (Trc.know 193 rfl (dec_true h31) (Trc.pure rfl rfl rfl (.inl fun _ => s_mv (v := .sl v5) rfl) (Trc.pure rfl rfl rfl (.inl fun _ => s_mv (v := .int .i64 v7) rfl) (Trc.pure rfl rfl rfl (.inl fun _ => s_sub rfl rfl) (Trc.pure rfl rfl rfl (.inl fun _ => s_idx Try.underlying83 ty32 rfl rfl g32) (Trc.pure rfl rfl rfl (.inl fun _ => s_fieldAddr Try.underlying32 rfl ty24 rfl) (Trc.read rfl rfl rfl (s_loads Try.underlying24 rfl ty24 rfl (lds_cons (ldI_eq hx33) (lds_cons (ldI_eq hx34) (lds_nil)))) (Trc.read rfl rfl rfl (s_loads Try.underlying24 rfl ty24 rfl (lds_cons (ldI_eq hx35) (lds_cons (ldI_eq hx36) (lds_nil)))) (Trc.pure rfl rfl rfl (.inl fun _ => s_callO rfl ok57 (sim57 hp37) rfl rfl) (Trc.pure rfl rfl rfl (.inl fun _ => s_not rfl) (Trc.pure rfl rfl rfl (.inl fun _ => s_pickT (v := .bool (!p37.1)) rfl rfl) (Trc.pure rfl rfl rfl (.inl fun _ => s_mv (v := .bool (!p37.1)) rfl) (Trc.know 204 rfl (bool_notF h38) (Trc.pure rfl rfl rfl (.inl fun _ => s_mv (v := .sl v5) rfl) (Trc.pure rfl rfl rfl (.inl fun _ => s_mv (v := .int .i64 v7) rfl) (Trc.pure rfl rfl rfl (.inl fun _ => s_sub rfl rfl) (Trc.pure rfl rfl rfl (.inl fun _ => s_idx Try.underlying83 ty32 rfl rfl g39) (Trc.pure rfl rfl rfl (.inl fun _ => s_fieldAddr Try.underlying32 rfl ty24 rfl) (Trc.read rfl rfl rfl (s_loads Try.underlying24 rfl ty24 rfl (lds_cons (ldI_eq hx40) (lds_cons (ldI_eq hx41) (lds_nil)))) (Trc.read rfl rfl rfl (s_loads Try.underlying24 rfl ty24 rfl (lds_cons (ldI_eq hx42) (lds_cons (ldI_eq hx43) (lds_nil)))) (Trc.pure rfl rfl rfl (.inl fun _ => s_neAgg eg24 rfl rfl (eq2 Try.underlying24 Try.underlying3 Try.underlying3 (by decide) (by decide) rfl rfl sih24 x40 x41 x42 x43)) (Trc.pure rfl rfl rfl (.inl fun _ => s_mv (v := .bool (!((x40 == x42) && (x41 == x43)))) rfl) (Trc.know 213 rfl (bool_notT h44) (Trc.pure rfl rfl rfl (.inl fun _ => s_mv (v := .sl v5) rfl) (Trc.pure rfl rfl rfl (.inl fun _ => s_mv (v := .int .i64 v7) rfl) (Trc.pure rfl rfl rfl (.inl fun _ => s_sub rfl rfl) (Trc.pure rfl rfl rfl (.inl fun _ => s_idx Try.underlying83 ty32 rfl rfl g45) (Trc.pure rfl rfl rfl (.inl fun _ => s_fieldAddr Try.underlying32 rfl ty24 rfl) (Trc.read rfl rfl rfl (s_loads Try.underlying24 rfl ty24 rfl (lds_cons (ldI_eq hx46) (lds_cons (ldI_eq hx47) (lds_nil)))) (Trc.read rfl rfl rfl (s_loads Try.underlying24 rfl ty24 rfl (lds_cons (ldI_eq hx48) (lds_cons (ldI_eq hx49) (lds_nil)))) (Trc.pure rfl rfl rfl (.inl fun _ => s_callO rfl ok57 (sim57 hp50) rfl rfl) (Trc.pure rfl rfl rfl (.inl fun _ => s_not rfl) (Trc.pure rfl rfl rfl (.inl fun _ => s_pickF (v := .bool (!p50.1)) rfl rfl) (Trc.pure rfl rfl rfl (.inl fun _ => s_pickT (v := .bool (!p50.1)) rfl rfl) (Trc.pure rfl rfl rfl (.inl fun _ => s_pickF (v := .bool (!p50.1)) rfl rfl) (Trc.nil (fun _ => trivial))))))))))))))))))))))))))))))))))))))))))))) rfl (by decide +kernel) mixed ?_
              refine f_keep [0, 1, 2, 7, 9, 11, 18, 84, 85, 86, 225] ?_
              exact s12_j6 happ _ hkt3 v1 v2 v3 v4 v5 v6 H.n v10 v11 v12 (!p50.1) H24
            · skip
              refine f_draw (Φ := fun _ => True) (lim := 1000000) [1, 1, 0, 0, 0, 0, 0, 0, 0, 0, 0, 0, 1, 1, 0, 0, 0, 0, 0, 0, 0, 0, 0, 1, 1, 0, 0, 0, 0, 0, 0, 0, 0, 0, 0, 0, 0, 0, 0] (Trc.read rfl rfl rfl (s_loads Try.underlying24 rfl ty24 rfl (lds_cons (ldI_eq hx25) (lds_cons (ldI_eq hx26) (lds_nil)))) (Trc.read rfl rfl rfl (s_loads Try.underlying24 rfl ty24 rfl (lds_cons (ldI_eq hx27) (lds_cons (ldI_eq hx28) (lds_nil)))) (Trc.pure rfl rfl rfl (.inl fun _ => s_callO rfl ok57 (sim57 hp29) rfl rfl) (Trc.pure rfl rfl rfl (.inl fun _ => s_mv (v := .bool p29.1) rfl) (Trc.know 190 rfl (bool_F h30) (Trc.pure rfl rfl rfl (.inl fun _ => s_mv (v := .int .i64 v7) rfl) (Trc.pure rfl rfl rfl (.inl fun _ => s_gtr rfl rfl) (Trc.pure rfl rfl rfl (.inl fun _ => s_mv (v := .bool (decide (0 < v7))) rfl) (Trc.know 193 rfl (dec_true h31) (Trc.pure rfl rfl rfl (.inl fun _ => s_mv (v := .sl v5) rfl) (Trc.pure rfl rfl rfl (.inl fun _ => s_mv (v := .int .i64 v7) rfl) (Trc.pure rfl rfl rfl (.inl fun _ => s_sub rfl rfl) (Trc.pure rfl rfl rfl (.inl fun _ => s_idx Try.underlying83 ty32 rfl rfl g32) (Trc.pure rfl rfl rfl (.inl fun _ => s_fieldAddr Try.underlying32 rfl ty24 rfl) (Trc.read rfl rfl rfl (s_loads Try.underlying24 rfl ty24 rfl (lds_cons (ldI_eq hx33) (lds_cons (ldI_eq hx34) (lds_nil)))) (Trc.read rfl rfl rfl (s_loads Try.underlying24 rfl ty24 rfl (lds_cons (ldI_eq hx35) (lds_cons (ldI_eq hx36) (lds_nil)))) (Trc.pure rfl rfl rfl (.inl fun _ => s_callO rfl ok57 (sim57 hp37) rfl rfl) (Trc.pure rfl rfl rfl (.inl fun _ => s_not rfl) (Trc.pure rfl rfl rfl (.inl fun _ => s_pickT (v := .bool (!p37.1)) rfl rfl) (Trc.pure rfl rfl rfl (.inl fun _ => s_mv (v := .bool (!p37.1)) rfl) (Trc.know 204 rfl (bool_notF h38) (Trc.pure rfl rfl rfl (.inl fun _ => s_mv (v := .sl v5) rfl) (Trc.pure rfl rfl rfl (.inl fun _ => s_mv (v := .int .i64 v7) rfl) (Trc.pure rfl rfl rfl (.inl fun _ => s_sub rfl rfl) (Trc.pure rfl rfl rfl (.inl fun _ => s_idx Try.underlying83 ty32 rfl rfl g39) (Trc.pure rfl rfl rfl (.inl fun _ => s_fieldAddr Try.underlying32 rfl ty24 rfl) (Trc.read rfl rfl rfl (s_loads Try.underlying24 rfl ty24 rfl (lds_cons (ldI_eq hx40) (lds_cons (ldI_eq hx41) (lds_nil)))) (Trc.read rfl rfl rfl (s_loads Try.underlying24 rfl ty24 rfl (lds_cons (ldI_eq hx42) (lds_cons (ldI_eq hx43) (lds_nil)))) (Trc.pure rfl rfl rfl (.inl fun _ => s_neAgg eg24 rfl rfl (eq2 Try.underlying24 Try.underlying3 Try.underlying3 (by decide) (by decide) rfl rfl sih24 x40 x41 x42 x43)) (Trc.pure rfl rfl rfl (.inl fun _ => s_mv (v := .bool (!((x40 == x42) && (x41 == x43)))) rfl) (Trc.know 213 rfl (bool_notF h44) (Trc.no rfl rfl rfl (Trc.no rfl rfl rfl (Trc.no rfl rfl rfl (Trc.no rfl rfl rfl (Trc.no rfl rfl rfl (Trc.no rfl rfl rfl (Trc.no rfl rfl rfl (Trc.no rfl rfl rfl (Trc.no rfl rfl rfl (Trc.pure rfl rfl rfl (.inl fun _ => s_pickT (v := .bool true) rfl rfl) (Trc.pure rfl rfl rfl (.inl fun _ => s_pickT (v := .bool true) rfl rfl) (Trc.pure rfl rfl rfl (.inl fun _ => s_pickF (v := .bool true) rfl rfl) (Trc.nil (fun _ => trivial))))))))))))))))))))))))))))))))))))))))))))) rfl (by decide +kernel) mixed ?_
              refine f_keep [0, 1, 2, 7, 9, 11, 18, 84, 85, 86, 225] ?_
              exact s12_j6 happ _ hkt3 v1 v2 v3 v4 v5 v6 H.n v10 v11 v12 true H24
        · skip
          refine f_draw (Φ := fun _ => True) (lim := 1000000) [1, 1, 0, 0, 0, 0, 0, 0, 0, 0, 0, 0, 0, 0, 0, 0, 0, 0, 0, 0, 0, 0, 0, 0, 0, 0, 0, 0, 0, 0, 0, 0, 0, 0, 0, 0, 0, 0, 0] (Trc.read rfl rfl rfl (s_loads Try.underlying24 rfl ty24 rfl (lds_cons (ldI_eq hx25) (lds_cons (ldI_eq hx26) (lds_nil)))) (Trc.read rfl rfl rfl (s_loads Try.underlying24 rfl ty24 rfl (lds_cons (ldI_eq hx27) (lds_cons (ldI_eq hx28) (lds_nil)))) (Trc.pure rfl rfl rfl (.inl fun _ => s_callO rfl ok57 (sim57 hp29) rfl rfl) (Trc.pure rfl rfl rfl (.inl fun _ => s_mv (v := .bool p29.1) rfl) (Trc.know 190 rfl (bool_F h30) (Trc.pure rfl rfl rfl (.inl fun _ => s_mv (v := .int .i64 v7) rfl) (Trc.pure rfl rfl rfl (.inl fun _ => s_gtr rfl rfl) (Trc.pure rfl rfl rfl (.inl fun _ => s_mv (v := .bool (decide (0 < v7))) rfl) (Trc.know 193 rfl (dec_false h31) (Trc.no rfl rfl rfl (Trc.no rfl rfl rfl (Trc.no rfl rfl rfl (Trc.no rfl rfl rfl (Trc.no rfl rfl rfl (Trc.no rfl rfl rfl (Trc.no rfl rfl rfl (Trc.no rfl rfl rfl (Trc.no rfl rfl rfl (Trc.pure rfl rfl rfl (.inl fun _ => s_pickF (v := .bool false) rfl rfl) (Trc.pure rfl rfl rfl (.inl fun _ => s_mv (v := .bool false) rfl) (Trc.no rfl rfl rfl (Trc.no rfl rfl rfl (Trc.no rfl rfl rfl (Trc.no rfl rfl rfl (Trc.no rfl rfl rfl (Trc.no rfl rfl rfl (Trc.no rfl rfl rfl (Trc.no rfl rfl rfl (Trc.no rfl rfl rfl (Trc.no rfl rfl rfl (Trc.no rfl rfl rfl (Trc.no rfl rfl rfl (Trc.no rfl rfl rfl (Trc.no rfl rfl rfl (Trc.no rfl rfl rfl (Trc.no rfl rfl rfl (Trc.no rfl rfl rfl (Trc.no rfl rfl rfl (Trc.no rfl rfl rfl (Trc.pure rfl rfl rfl (.inl fun _ => s_pickF (v := .bool false) rfl rfl) (Trc.pure rfl rfl rfl (.inl fun _ => s_pickF (v := .bool false) rfl rfl) (Trc.nil (fun _ => trivial))))))))))))))))))))))))))))))))))))))))))) rfl (by decide +kernel) mixed ?_
          refine f_keep [0, 1, 2, 7, 9, 11, 18, 84, 85, 86, 225] ?_
          exact s12_j6 happ _ hkt3 v1 v2 v3 v4 v5 v6 H.n v10 v11 v12 false H24

theorem s12_j4 {app : App} (happ : AppSim Try.prog app) (kt3 : Sl → Int → Int → Nat → Sl → Bool → Sl → Int → Int → Hp → Option (Bool × Hp)) (hkt3 : ∀ (v1 : Sl) (v2 : Int) (v3 : Int) (v4 : Nat) (v5 : Sl) (v6 : Bool) (v7 : Sl) (v8 : Int) (v9 : Int) (H : Hp), Fin Try.prog Try.f12 ret12 237 (todoAt (bodyOf Try.f12) [1, 1, 1, 1, 1, 1, 1, 1, 0, 1, 0, 0] []) [(0, .sl v1), (1, .int .i64 v2), (2, .int .i64 v3), (7, .ptr v4 0), (9, .sl v5), (11, .bool v6), (84, .sl v7), (85, .int .i64 v8), (86, .int .i64 v9)] H (kt3 v1 v2 v3 v4 v5 v6 v7 v8 v9 H)) (v1 : Sl) (v2 : Int) (v3 : Int) (v4 : Nat) (v5 : Sl) (v6 : Bool) (v7 : Int) (v8 : Nat) (v9 : Nat) (v10 : Sl) (v11 : Int) (v12 : Int) (v13 : Bool) (H : Hp) : Fin Try.prog Try.f12 ret12 237 (todoAt (bodyOf Try.f12) [1, 1, 1, 1, 1, 1, 1, 1, 0, 1, 0, 0, 1, 1, 0, 0, 1, 1, 0, 1] []) [(0, .sl v1), (1, .int .i64 v2), (2, .int .i64 v3), (7, .ptr v4 0), (9, .sl v5), (11, .bool v6), (12, .int .i64 v7), (14, .ptr v8 0), (15, .ptr v9 0), (84, .sl v10), (85, .int .i64 v11), (86, .int .i64 v12), (132, .bool v13)] H (r12_j4 app kt3 v1 v2 v3 v4 v5 v6 v7 v8 v9 v10 v11 v12 v13 H) := by
  unfold r12_j4
  refine f_if (fun h1 => ?_) (fun h1 => ?_)
  · skip
    refine f_know 132 rfl (bool_T h1) ?_
    refine f_condT rfl ?_
    refine f_seq ?_
    refine f_region ?_
    refine f_op rfl rfl (s_as (v := .bool false) rfl) ?_
    refine f_nil ?_
    exact f_ret (.tmp rfl (.nil)) rfl
  · skip
    refine f_know 132 rfl (bool_F h1) ?_
    refine f_condF rfl ?_
    refine f_skip ?_
    refine f_seq ?_
    refine f_seq ?_
    refine f_region ?_
    refine f_op rfl rfl (s_mv (v := .sl v1) rfl) ?_
    refine f_op rfl rfl (s_lenS rfl Try.underlying22 rfl) ?_
    refine f_op rfl rfl (s_mv (v := .int .i64 0) rfl) ?_
    refine f_nil ?_
    refine f_block ?_
    refine f_loop ?_
    refine f_keep [0, 1, 2, 7, 9, 11, 12, 14, 15, 84, 85, 86, 133, 134, 135] ?_
    exact s12_l5 happ _ hkt3 FUEL v1 v2 v3 v4 v5 v6 v7 v8 v9 v10 v11 v12 v1 (v1.len : Int) 0 H

theorem s12_l3 {app : App} (happ : AppSim Try.prog app) : ∀ (k_ : Nat) (v1 : Sl) (v2 : Int) (v3 : Int) (v4 : Nat) (v5 : Sl) (v6 : Bool) (v7 : Sl) (v8 : Int) (v9 : Int) (H : Hp), Fin Try.prog Try.f12 ret12 237 (todoAt (bodyOf Try.f12) [1, 1, 1, 1, 1, 1, 1, 1, 0, 1, 0, 0] []) [(0, .sl v1), (1, .int .i64 v2), (2, .int .i64 v3), (7, .ptr v4 0), (9, .sl v5), (11, .bool v6), (84, .sl v7), (85, .int .i64 v8), (86, .int .i64 v9)] H (r12_l3 app k_ v1 v2 v3 v4 v5 v6 v7 v8 v9 H) := by
  intro k_
  induction k_ with
  | zero => intro _ _ _ _ _ _ _ _ _ _; exact f_none
  | succ k_ ih =>
    intro v1 v2 v3 v4 v5 v6 v7 v8 v9 H
    rw [r12_l3]
    refine f_seq ?_
    refine f_region ?_
    refine f_op rfl rfl (s_lss rfl rfl) ?_
    refine f_nil ?_
    refine f_seq ?_
    refine f_if (fun h1 => ?_) (fun h1 => ?_)
    · skip
      refine f_know 87 rfl (dec_true h1) ?_
      refine f_condT rfl ?_
      refine f_skip ?_
      refine f_seq ?_
      refine f_block ?_
      refine f_seq ?_
      refine f_region ?_
      refine f_op rfl rfl (s_mv (v := .int .i64 v9) rfl) ?_
      refine o_ck fun g2 => ?_
      refine f_op rfl rfl (s_idx Try.underlying83 ty32 rfl rfl g2) ?_
      refine o_bind ?_; intro x3 hx3
      refine o_bind ?_; intro x4 hx4
      refine o_bind ?_; intro x5 hx5
      refine o_bind ?_; intro x6 hx6
      refine f_op rfl rfl (s_loads Try.underlying32 rfl ty32 rfl (lds_cons (ldI_eq hx3) (lds_cons (ldI_eq hx4) (lds_cons (ldI_eq hx5) (lds_cons (ldI_eq hx6) (lds_nil)))))) ?_
      refine f_op rfl rfl (s_alloc (zs := [.int .i64 0, .int .i64 0, .int .i64 0, .int .i64 0]) ty32 rfl rfl) ?_
      refine f_op rfl rfl (s_as (v := .int .i64 v9) rfl) ?_
      refine o_bind ?_; intro H7 hH7
      refine f_op rfl rfl (s_stores ty32 rfl rfl rfl rfl hH7 (Nat.le_of_eq (sts_mono hH7).symm)) ?_
      refine f_nil ?_
      refine f_seq ?_
      refine f_bind ?_; intro x8 hx8
      refine f_bind ?_; intro x9 hx9
      refine f_bind ?_; intro x10 hx10
      refine f_bind ?_; intro x11 hx11
      refine f_bind ?_; intro H12 hH12
      refine f_bind ?_; intro H13 hH13
      refine f_ck fun g14 => ?_
      refine f_ck fun g15 => ?_
      refine f_ck fun g16 => ?_
      refine f_ck fun g17 => ?_
      refine f_ck fun g18 => ?_
      refine f_ck fun g19 => ?_
      refine f_drawF (Φ := fun H_ => H_.ld H.n (0 + 2) = some (.int .i64 x10) ∧ H_.ld H.n ((0 + 2) + 1) = some (.int .i64 x11)) (lim := 7) [0, 1, 0, 0, 2, 2, 2, 2] [false, false, false, false, true, true, false, false] 4 6 (Trc.pure rfl rfl rfl (.inl fun _ => s_fieldAddr Try.underlying32 rfl ty24 rfl) (Trc.read rfl rfl rfl (s_loads Try.underlying24 rfl ty24 rfl (lds_cons (ldI_eq hx8) (lds_cons (ldI_eq hx9) (lds_nil)))) (Trc.pure rfl rfl rfl (.inl fun _ => s_fieldAddr Try.underlying32 rfl ty24 rfl) (Trc.pure rfl rfl rfl (.inr ⟨by decide +kernel, fun _ hp_ => s_loads Try.underlying24 rfl ty24 rfl (lds_cons hp_.1 (lds_cons hp_.2 (lds_nil)))⟩) (Trc.fl .p rfl rfl rfl (fun _ => ⟨ldI_eq hx10, ldI_eq hx11⟩) rfl (by rfl) (fun _ => s_alloc (zs := [.int .i64 0, .int .i64 0]) ty24 rfl rfl) (Trc.fl .p rfl rfl rfl (fun _ => ⟨ldI_eq g14, ldI_eq g15⟩) rfl (by rfl) (fun _ => s_alloc (zs := [.int .i64 0, .int .i64 0]) ty24 rfl rfl) (Trc.eff rfl rfl rfl (fun _ => ⟨ldI_eq g16, ldI_eq g17⟩) (s_stores ty24 rfl rfl rfl rfl hH12 (Nat.le_of_eq (sts_mono hH12).symm)) (Trc.eff rfl rfl rfl (fun _ => ⟨ldI_eq g18, ldI_eq g19⟩) (s_stores ty24 rfl rfl rfl rfl hH13 (Nat.le_of_eq (sts_mono hH13).symm)) (Trc.nil (fun h_ => absurd h_ (by decide +kernel))))))))))) rfl rfl (by decide +kernel) mixed ?_
      refine f_seq ?_
      refine f_seq ?_
      refine f_region ?_
      refine f_op rfl rfl (s_fieldAddr Try.underlying24 rfl ty3 rfl) ?_
      refine o_bind ?_; intro x20 hx20
      refine f_op rfl rfl (s_load Try.underlying3 rfl rfl (ldI_eq hx20)) ?_
      refine f_op rfl rfl (s_lss rfl rfl) ?_
      refine f_op rfl rfl (s_mv (v := .bool (decide (x20 < 1))) rfl) ?_
      refine o_if (fun h21 => ?_) (fun h21 => ?_)
      · skip
        refine o_know 98 rfl (dec_true h21) ?_
        refine f_no rfl rfl ?_
        refine f_no rfl rfl ?_
        refine f_no rfl rfl ?_
        refine f_op rfl rfl (s_pickT (v := .bool true) rfl rfl) ?_
        refine f_op rfl rfl (s_mv (v := .bool true) rfl) ?_
        refine f_no rfl rfl ?_
        refine f_no rfl rfl ?_
        refine f_no rfl rfl ?_
        refine f_op rfl rfl (s_pickT (v := .bool true) rfl rfl) ?_
        refine f_op rfl rfl (s_mv (v := .bool true) rfl) ?_
        refine f_no rfl rfl ?_
        refine f_no rfl rfl ?_
        refine f_no rfl rfl ?_
        refine f_op rfl rfl (s_pickT (v := .bool true) rfl rfl) ?_
        refine f_op rfl rfl (s_mv (v := .bool true) rfl) ?_
        refine f_no rfl rfl ?_
        refine f_no rfl rfl ?_
        refine f_no rfl rfl ?_
        refine f_op rfl rfl (s_pickT (v := .bool true) rfl rfl) ?_
        refine f_op rfl rfl (s_mv (v := .bool true) rfl) ?_
        refine f_no rfl rfl ?_
        refine f_no rfl rfl ?_
        refine f_no rfl rfl ?_
        refine f_op rfl rfl (s_pickT (v := .bool true) rfl rfl) ?_
        refine f_op rfl rfl (s_mv (v := .bool true) rfl) ?_
        refine f_no rfl rfl ?_
        refine f_no rfl rfl ?_
        refine f_no rfl rfl ?_
        refine f_op rfl rfl (s_pickT (v := .bool true) rfl rfl) ?_
        refine f_op rfl rfl (s_mv (v := .bool true) rfl) ?_
        refine f_no rfl rfl ?_
        refine f_no rfl rfl ?_
        refine f_no rfl rfl ?_
        refine f_op rfl rfl (s_pickT (v := .bool true) rfl rfl) ?_
        refine f_nil ?_
        refine f_keep [0, 1, 2, 7, 9, 11, 12, 14, 15, 84, 85, 86, 132] ?_
        exact s12_j4 happ _ (fun v1_ v2_ v3_ v4_ v5_ v6_ v7_ v8_ v9_ H_ => ih v1_ v2_ v3_ v4_ v5_ v6_ v7_ v8_ v9_ H_) v1 v2 v3 v4 v5 v6 v9 H7.n ((H7.push (.cells [.int .i64 0, .int .i64 0] false)).n) v7 v8 v9 true H13
      · skip
        refine o_know 98 rfl (dec_false h21) ?_
        refine f_op rfl rfl (s_fieldAddr Try.underlying24 rfl ty3 rfl) ?_
        refine o_bind ?_; intro x22 hx22
        refine f_op rfl rfl (s_load Try.underlying3 rfl rfl (ldI_eq hx22)) ?_
        refine f_op rfl rfl (s_gtr rfl rfl) ?_
        refine f_op rfl rfl (s_pickF (v := .bool (decide (100 < x22))) rfl rfl) ?_
        refine f_op rfl rfl (s_mv (v := .bool (decide (100 < x22))) rfl) ?_
        refine o_if (fun h23 => ?_) (fun h23 => ?_)
        · skip
          refine o_know 103 rfl (dec_true h23) ?_
          refine f_no rfl rfl ?_
          refine f_no rfl rfl ?_
          refine f_no rfl rfl ?_
          refine f_op rfl rfl (s_pickT (v := .bool true) rfl rfl) ?_
          refine f_op rfl rfl (s_mv (v := .bool true) rfl) ?_
          refine f_no rfl rfl ?_
          refine f_no rfl rfl ?_
          refine f_no rfl rfl ?_
          refine f_op rfl rfl (s_pickT (v := .bool true) rfl rfl) ?_
          refine f_op rfl rfl (s_mv (v := .bool true) rfl) ?_
          refine f_no rfl rfl ?_
          refine f_no rfl rfl ?_
          refine f_no rfl rfl ?_
          refine f_op rfl rfl (s_pickT (v := .bool true) rfl rfl) ?_
          refine f_op rfl rfl (s_mv (v := .bool true) rfl) ?_
          refine f_no rfl rfl ?_
          refine f_no rfl rfl ?_
          refine f_no rfl rfl ?_
          refine f_op rfl rfl (s_pickT (v := .bool true) rfl rfl) ?_
          refine f_op rfl rfl (s_mv (v := .bool true) rfl) ?_
          refine f_no rfl rfl ?_
          refine f_no rfl rfl ?_
          refine f_no rfl rfl ?_
          refine f_op rfl rfl (s_pickT (v := .bool true) rfl rfl) ?_
          refine f_op rfl rfl (s_mv (v := .bool true) rfl) ?_
          refine f_no rfl rfl ?_
          refine f_no rfl rfl ?_
          refine f_no rfl rfl ?_
          refine f_op rfl rfl (s_pickT (v := .bool true) rfl rfl) ?_
          refine f_nil ?_
          refine f_keep [0, 1, 2, 7, 9, 11, 12, 14, 15, 84, 85, 86, 132] ?_
          exact s12_j4 happ _ (fun v1_ v2_ v3_ v4_ v5_ v6_ v7_ v8_ v9_ H_ => ih v1_ v2_ v3_ v4_ v5_ v6_ v7_ v8_ v9_ H_) v1 v2 v3 v4 v5 v6 v9 H7.n ((H7.push (.cells [.int .i64 0, .int .i64 0] false)).n) v7 v8 v9 true H13
        · skip
          refine o_know 103 rfl (dec_false h23) ?_
          refine f_op rfl rfl (s_fieldAddr Try.underlying24 rfl ty3 rfl) ?_
          refine o_bind ?_; intro x24 hx24
          refine f_op rfl rfl (s_load Try.underlying3 rfl rfl (ldI_eq hx24)) ?_
          refine f_op rfl rfl (s_lss rfl rfl) ?_
          refine f_op rfl rfl (s_pickF (v := .bool (decide (x24 < 1))) rfl rfl) ?_
          refine f_op rfl rfl (s_mv (v := .bool (decide (x24 < 1))) rfl) ?_
          refine o_if (fun h25 => ?_) (fun h25 => ?_)
          · skip
            refine o_know 108 rfl (dec_true h25) ?_
            refine f_no rfl rfl ?_
            refine f_no rfl rfl ?_
            refine f_no rfl rfl ?_
            refine f_op rfl rfl (s_pickT (v := .bool true) rfl rfl) ?_
            refine f_op rfl rfl (s_mv (v := .bool true) rfl) ?_
            refine f_no rfl rfl ?_
            refine f_no rfl rfl ?_
            refine f_no rfl rfl ?_
            refine f_op rfl rfl (s_pickT (v := .bool true) rfl rfl) ?_
            refine f_op rfl rfl (s_mv (v := .bool true) rfl) ?_
            refine f_no rfl rfl ?_
            refine f_no rfl rfl ?_
            refine f_no rfl rfl ?_
            refine f_op rfl rfl (s_pickT (v := .bool true) rfl rfl) ?_
            refine f_op rfl rfl (s_mv (v := .bool true) rfl) ?_
            refine f_no rfl rfl ?_
            refine f_no rfl rfl ?_
            refine f_no rfl rfl ?_
            refine f_op rfl rfl (s_pickT (v := .bool true) rfl rfl) ?_
            refine f_op rfl rfl (s_mv (v := .bool true) rfl) ?_
            refine f_no rfl rfl ?_
            refine f_no rfl rfl ?_
            refine f_no rfl rfl ?_
            refine f_op rfl rfl (s_pickT (v := .bool true) rfl rfl) ?_
            refine f_nil ?_
            refine f_keep [0, 1, 2, 7, 9, 11, 12, 14, 15, 84, 85, 86, 132] ?_
            exact s12_j4 happ _ (fun v1_ v2_ v3_ v4_ v5_ v6_ v7_ v8_ v9_ H_ => ih v1_ v2_ v3_ v4_ v5_ v6_ v7_ v8_ v9_ H_) v1 v2 v3 v4 v5 v6 v9 H7.n ((H7.push (.cells [.int .i64 0, .int .i64 0] false)).n) v7 v8 v9 true H13
          · skip
            refine o_know 108 rfl (dec_false h25) ?_
            refine f_op rfl rfl (s_fieldAddr Try.underlying24 rfl ty3 rfl) ?_
            refine o_bind ?_; intro x26 hx26
            refine f_op rfl rfl (s_load Try.underlying3 rfl rfl (ldI_eq hx26)) ?_
            refine f_op rfl rfl (s_gtr rfl rfl) ?_
            refine f_op rfl rfl (s_pickF (v := .bool (decide (100 < x26))) rfl rfl) ?_
            refine f_op rfl rfl (s_mv (v := .bool (decide (100 < x26))) rfl) ?_
            refine o_if (fun h27 => ?_) (fun h27 => ?_)
            · skip
              refine o_know 113 rfl (dec_true h27) ?_
              refine f_no rfl rfl ?_
              refine f_no rfl rfl ?_
              refine f_no rfl rfl ?_
              refine f_op rfl rfl (s_pickT (v := .bool true) rfl rfl) ?_
              refine f_op rfl rfl (s_mv (v := .bool true) rfl) ?_
              refine f_no rfl rfl ?_
              refine f_no rfl rfl ?_
              refine f_no rfl rfl ?_
              refine f_op rfl rfl (s_pickT (v := .bool true) rfl rfl) ?_
              refine f_op rfl rfl (s_mv (v := .bool true) rfl) ?_
              refine f_no rfl rfl ?_
              refine f_no rfl rfl ?_
              refine f_no rfl rfl ?_
              refine f_op rfl rfl (s_pickT (v := .bool true) rfl rfl) ?_
              refine f_op rfl rfl (s_mv (v := .bool true) rfl) ?_
              refine f_no rfl rfl ?_
              refine f_no rfl rfl ?_
              refine f_no rfl rfl ?_
              refine f_op rfl rfl (s_pickT (v := .bool true) rfl rfl) ?_
              refine f_nil ?_
              refine f_keep [0, 1, 2, 7, 9, 11, 12, 14, 15, 84, 85, 86, 132] ?_
              exact s12_j4 happ _ (fun v1_ v2_ v3_ v4_ v5_ v6_ v7_ v8_ v9_ H_ => ih v1_ v2_ v3_ v4_ v5_ v6_ v7_ v8_ v9_ H_) v1 v2 v3 v4 v5 v6 v9 H7.n ((H7.push (.cells [.int .i64 0, .int .i64 0] false)).n) v7 v8 v9 true H13
            · skip
              refine o_know 113 rfl (dec_false h27) ?_
              refine f_op rfl rfl (s_fieldAddr Try.underlying24 rfl ty3 rfl) ?_
              refine o_bind ?_; intro x28 hx28
              refine f_op rfl rfl (s_load Try.underlying3 rfl rfl (ldI_eq hx28)) ?_
              refine f_op rfl rfl (s_gtr rfl rfl) ?_
              refine f_op rfl rfl (s_pickF (v := .bool (decide (100000 < x28))) rfl rfl) ?_
              refine f_op rfl rfl (s_mv (v := .bool (decide (100000 < x28))) rfl) ?_
              refine o_if (fun h29 => ?_) (fun h29 => ?_)
              · skip
                refine o_know 118 rfl (dec_true h29) ?_
                refine f_no rfl rfl ?_
                refine f_no rfl rfl ?_
                refine f_no rfl rfl ?_
                refine f_op rfl rfl (s_pickT (v := .bool true) rfl rfl) ?_
                refine f_op rfl rfl (s_mv (v := .bool true) rfl) ?_
                refine f_no rfl rfl ?_
                refine f_no rfl rfl ?_
                refine f_no rfl rfl ?_
                refine f_op rfl rfl (s_pickT (v := .bool true) rfl rfl) ?_
                refine f_op rfl rfl (s_mv (v := .bool true) rfl) ?_
                refine f_no rfl rfl ?_
                refine f_no rfl rfl ?_
                refine f_no rfl rfl ?_
                refine f_op rfl rfl (s_pickT (v := .bool true) rfl rfl) ?_
                refine f_nil ?_
                refine f_keep [0, 1, 2, 7, 9, 11, 12, 14, 15, 84, 85, 86, 132] ?_
                exact s12_j4 happ _ (fun v1_ v2_ v3_ v4_ v5_ v6_ v7_ v8_ v9_ H_ => ih v1_ v2_ v3_ v4_ v5_ v6_ v7_ v8_ v9_ H_) v1 v2 v3 v4 v5 v6 v9 H7.n ((H7.push (.cells [.int .i64 0, .int .i64 0] false)).n) v7 v8 v9 true H13
              · skip
                refine o_know 118 rfl (dec_false h29) ?_
                refine f_op rfl rfl (s_fieldAddr Try.underlying24 rfl ty3 rfl) ?_
                refine o_bind ?_; intro x30 hx30
                refine f_op rfl rfl (s_load Try.underlying3 rfl rfl (ldI_eq hx30)) ?_
                refine f_op rfl rfl (s_lss rfl rfl) ?_
                refine f_op rfl rfl (s_pickF (v := .bool (decide (x30 < (-100000)))) rfl rfl) ?_
                refine f_op rfl rfl (s_mv (v := .bool (decide (x30 < (-100000)))) rfl) ?_
                refine o_if (fun h31 => ?_) (fun h31 => ?_)
                · skip
                  refine o_know 123 rfl (dec_true h31) ?_
                  refine f_no rfl rfl ?_
                  refine f_no rfl rfl ?_
                  refine f_no rfl rfl ?_
                  refine f_op rfl rfl (s_pickT (v := .bool true) rfl rfl) ?_
                  refine f_op rfl rfl (s_mv (v := .bool true) rfl) ?_
                  refine f_no rfl rfl ?_
                  refine f_no rfl rfl ?_
                  refine f_no rfl rfl ?_
                  refine f_op rfl rfl (s_pickT (v := .bool true) rfl rfl) ?_
                  refine f_nil ?_
                  refine f_keep [0, 1, 2, 7, 9, 11, 12, 14, 15, 84, 85, 86, 132] ?_
                  exact s12_j4 happ _ (fun v1_ v2_ v3_ v4_ v5_ v6_ v7_ v8_ v9_ H_ => ih v1_ v2_ v3_ v4_ v5_ v6_ v7_ v8_ v9_ H_) v1 v2 v3 v4 v5 v6 v9 H7.n ((H7.push (.cells [.int .i64 0, .int .i64 0] false)).n) v7 v8 v9 true H13
                · skip
                  refine o_know 123 rfl (dec_false h31) ?_
                  refine f_op rfl rfl (s_fieldAddr Try.underlying24 rfl ty3 rfl) ?_
                  refine o_bind ?_; intro x32 hx32
                  refine f_op rfl rfl (s_load Try.underlying3 rfl rfl (ldI_eq hx32)) ?_
                  refine f_op rfl rfl (s_gtr rfl rfl) ?_
                  refine f_op rfl rfl (s_pickF (v := .bool (decide (100000 < x32))) rfl rfl) ?_
                  refine f_op rfl rfl (s_mv (v := .bool (decide (100000 < x32))) rfl) ?_
                  refine o_if (fun h33 => ?_) (fun h33 => ?_)
                  · skip
                    refine o_know 128 rfl (dec_true h33) ?_
                    refine f_no rfl rfl ?_
                    refine f_no rfl rfl ?_
                    refine f_no rfl rfl ?_
                    refine f_op rfl rfl (s_pickT (v := .bool true) rfl rfl) ?_
                    refine f_nil ?_
                    refine f_keep [0, 1, 2, 7, 9, 11, 12, 14, 15, 84, 85, 86, 132] ?_
                    exact s12_j4 happ _ (fun v1_ v2_ v3_ v4_ v5_ v6_ v7_ v8_ v9_ H_ => ih v1_ v2_ v3_ v4_ v5_ v6_ v7_ v8_ v9_ H_) v1 v2 v3 v4 v5 v6 v9 H7.n ((H7.push (.cells [.int .i64 0, .int .i64 0] false)).n) v7 v8 v9 true H13
                  · skip
                    refine o_know 128 rfl (dec_false h33) ?_
                    refine f_op rfl rfl (s_fieldAddr Try.underlying24 rfl ty3 rfl) ?_
                    refine o_bind ?_; intro x34 hx34
                    refine f_op rfl rfl (s_load Try.underlying3 rfl rfl (ldI_eq hx34)) ?_
                    refine f_op rfl rfl (s_lss rfl rfl) ?_
                    refine f_op rfl rfl (s_pickF (v := .bool (decide (x34 < (-100000)))) rfl rfl) ?_
                    refine f_nil ?_
                    refine f_keep [0, 1, 2, 7, 9, 11, 12, 14, 15, 84, 85, 86, 132] ?_
                    exact s12_j4 happ _ (fun v1_ v2_ v3_ v4_ v5_ v6_ v7_ v8_ v9_ H_ => ih v1_ v2_ v3_ v4_ v5_ v6_ v7_ v8_ v9_ H_) v1 v2 v3 v4 v5 v6 v9 H7.n ((H7.push (.cells [.int .i64 0, .int .i64 0] false)).n) v7 v8 v9 (decide (x34 < (-100000))) H13
    · skip
      refine f_know 87 rfl (dec_false h1) ?_
      refine f_condF rfl ?_
      refine f_exit rfl ?_
      refine f_seq ?_
      refine f_region ?_
      refine f_op rfl rfl (s_mv (v := .bool v6) rfl) ?_
      refine f_op rfl rfl (s_mv (v := .bool v6) rfl) ?_
      refine o_if (fun h35 => ?_) (fun h35 => ?_)
      · skip
        refine o_know 234 rfl (bool_T h35) ?_
        refine o_bind ?_; intro p36 hp36
        refine o_bind ?_; intro x37 hx37
        refine f_op rfl rfl (s_callA happ rfl hp36) ?_
        refine o_know 235 rfl (asB_eq hx37) ?_
        refine f_op rfl rfl (s_pickT (v := .bool x37) rfl rfl) ?_
        refine f_op rfl rfl (s_as (v := .bool x37) rfl) ?_
        refine f_nil ?_
        exact f_ret (.tmp rfl (.nil)) rfl
      · skip
        refine o_know 234 rfl (bool_F h35) ?_
        refine f_no rfl rfl ?_
        refine f_op rfl rfl (s_pickF (v := .bool false) rfl rfl) ?_
        refine f_op rfl rfl (s_as (v := .bool false) rfl) ?_
        refine f_nil ?_
        exact f_ret (.tmp rfl (.nil)) rfl

theorem s12_j2 {app : App} (happ : AppSim Try.prog app) (v1 : Sl) (v2 : Int) (v3 : Int) (v4 : Nat) (v5 : Sl) (v6 : Bool) (H : Hp) : Fin Try.prog Try.f12 ret12 237 (todoAt (bodyOf Try.f12) [1, 1, 1, 1, 1, 1, 0, 1] []) [(0, .sl v1), (1, .int .i64 v2), (2, .int .i64 v3), (7, .ptr v4 0), (9, .sl v5), (83, .bool v6)] H (r12_j2 app v1 v2 v3 v4 v5 v6 H) := by
  unfold r12_j2
  refine f_if (fun h1 => ?_) (fun h1 => ?_)
  · skip
    refine f_know 83 rfl (bool_T h1) ?_
    refine f_condT rfl ?_
    refine f_seq ?_
    refine f_region ?_
    refine f_op rfl rfl (s_as (v := .bool false) rfl) ?_
    refine f_nil ?_
    exact f_ret (.tmp rfl (.nil)) rfl
  · skip
    refine f_know 83 rfl (bool_F h1) ?_
    refine f_condF rfl ?_
    refine f_skip ?_
    refine f_seq ?_
    refine f_region ?_
    refine f_op rfl rfl (s_as (v := .bool false) rfl) ?_
    refine f_nil ?_
    refine f_seq ?_
    refine f_seq ?_
    refine f_region ?_
    refine f_op rfl rfl (s_mv (v := .sl v5) rfl) ?_
    refine f_op rfl rfl (s_lenS rfl Try.underlying83 rfl) ?_
    refine f_op rfl rfl (s_mv (v := .int .i64 0) rfl) ?_
    refine f_nil ?_
    refine f_block ?_
    refine f_loop ?_
    refine f_keep [0, 1, 2, 7, 9, 11, 84, 85, 86] ?_
    exact s12_l3 happ FUEL v1 v2 v3 v4 v5 false v5 (v5.len : Int) 0 H

theorem s12_j0 {app : App} (happ : AppSim Try.prog app) (v1 : Sl) (v2 : Int) (v3 : Int) (v4 : Nat) (v5 : Int) (v6 : Sl) (v7 : Bool) (H : Hp) : Fin Try.prog Try.f12 ret12 237 (todoAt (bodyOf Try.f12) [1, 1, 1, 1, 0, 1] []) [(0, .sl v1), (1, .int .i64 v2), (2, .int .i64 v3), (7, .ptr v4 0), (8, .int .i64 v5), (9, .sl v6), (53, .bool v7)] H (r12_j0 app v1 v2 v3 v4 v5 v6 v7 H) := by
  unfold r12_j0
  refine f_if (fun h1 => ?_) (fun h1 => ?_)
  · skip
    refine f_know 53 rfl (bool_T h1) ?_
    refine f_condT rfl ?_
    refine f_seq ?_
    refine f_region ?_
    refine f_op rfl rfl (s_as (v := .bool false) rfl) ?_
    refine f_nil ?_
    exact f_ret (.tmp rfl (.nil)) rfl
  · skip
    refine f_know 53 rfl (bool_F h1) ?_
    refine f_condF rfl ?_
    refine f_skip ?_
    refine f_seq ?_
    refine f_seq ?_
    refine f_region ?_
    refine f_op rfl rfl (s_mv (v := .sl v6) rfl) ?_
    refine f_op rfl rfl (s_lenS rfl Try.underlying83 rfl) ?_
    refine f_op rfl rfl (s_eql rfl rfl) ?_
    refine f_nil ?_
    refine f_if (fun h2 => ?_) (fun h2 => ?_)
    · skip
      refine f_know 56 rfl (dec_true h2) ?_
      refine f_condT rfl ?_
      refine f_seq ?_
      refine f_region ?_
      refine f_op rfl rfl (s_mv (v := .int .i64 v5) rfl) ?_
      refine f_op rfl rfl (s_eql rfl rfl) ?_
      refine f_op rfl rfl (s_mv (v := .bool (decide (v5 = 4))) rfl) ?_
      refine o_if (fun h3 => ?_) (fun h3 => ?_)
      · skip
        refine o_know 59 rfl (dec_true h3) ?_
        refine o_bind ?_; intro p4 hp4
        refine o_bind ?_; intro x5 hx5
        refine f_op rfl rfl (s_callA happ rfl hp4) ?_
        refine o_know 60 rfl (asB_eq hx5) ?_
        refine f_op rfl rfl (s_pickT (v := .bool x5) rfl rfl) ?_
        refine f_op rfl rfl (s_as (v := .bool x5) rfl) ?_
        refine f_nil ?_
        exact f_ret (.tmp rfl (.nil)) rfl
      · skip
        refine o_know 59 rfl (dec_false h3) ?_
        refine f_no rfl rfl ?_
        refine f_op rfl rfl (s_pickF (v := .bool false) rfl rfl) ?_
        refine f_op rfl rfl (s_as (v := .bool false) rfl) ?_
        refine f_nil ?_
        exact f_ret (.tmp rfl (.nil)) rfl
    · skip
      refine f_know 56 rfl (dec_false h2) ?_
      refine f_condF rfl ?_
      refine f_skip ?_
      refine f_seq ?_
      refine f_seq ?_
      refine f_region ?_
      refine f_op rfl rfl (s_mv (v := .int .i64 v5) rfl) ?_
      refine f_op rfl rfl (s_neq rfl rfl) ?_
      refine f_op rfl rfl (s_mv (v := .bool (decide (v5 ≠ 0))) rfl) ?_
      refine o_if (fun h6 => ?_) (fun h6 => ?_)
      · skip
        refine o_know 64 rfl (dec_true h6) ?_
        refine f_no rfl rfl ?_
        refine f_no rfl rfl ?_
        refine f_no rfl rfl ?_
        refine f_op rfl rfl (s_pickT (v := .bool true) rfl rfl) ?_
        refine f_op rfl rfl (s_mv (v := .bool true) rfl) ?_
        refine f_no rfl rfl ?_
        refine f_no rfl rfl ?_
        refine f_no rfl rfl ?_
        refine f_op rfl rfl (s_pickT (v := .bool true) rfl rfl) ?_
        refine f_op rfl rfl (s_mv (v := .bool true) rfl) ?_
        refine f_no rfl rfl ?_
        refine f_no rfl rfl ?_
        refine f_no rfl rfl ?_
        refine f_op rfl rfl (s_pickT (v := .bool true) rfl rfl) ?_
        refine f_op rfl rfl (s_mv (v := .bool true) rfl) ?_
        refine f_no rfl rfl ?_
        refine f_no rfl rfl ?_
        refine f_no rfl rfl ?_
        refine f_op rfl rfl (s_pickT (v := .bool true) rfl rfl) ?_
        refine f_nil ?_
        refine f_keep [0, 1, 2, 7, 9, 83] ?_
        exact s12_j2 happ v1 v2 v3 v4 v6 true H
      · skip
        refine o_know 64 rfl (dec_false h6) ?_
        refine f_op rfl rfl (s_fieldAddr Try.underlying24 rfl ty3 rfl) ?_
        refine o_bind ?_; intro x7 hx7
        refine f_op rfl rfl (s_load Try.underlying3 rfl rfl (ldI_eq hx7)) ?_
        refine f_op rfl rfl (s_lss rfl rfl) ?_
        refine f_op rfl rfl (s_pickF (v := .bool (decide (x7 < 1))) rfl rfl) ?_
        refine f_op rfl rfl (s_mv (v := .bool (decide (x7 < 1))) rfl) ?_
        refine o_if (fun h8 => ?_) (fun h8 => ?_)
        · skip
          refine o_know 69 rfl (dec_true h8) ?_
          refine f_no rfl rfl ?_
          refine f_no rfl rfl ?_
          refine f_no rfl rfl ?_
          refine f_op rfl rfl (s_pickT (v := .bool true) rfl rfl) ?_
          refine f_op rfl rfl (s_mv (v := .bool true) rfl) ?_
          refine f_no rfl rfl ?_
          refine f_no rfl rfl ?_
          refine f_no rfl rfl ?_
          refine f_op rfl rfl (s_pickT (v := .bool true) rfl rfl) ?_
          refine f_op rfl rfl (s_mv (v := .bool true) rfl) ?_
          refine f_no rfl rfl ?_
          refine f_no rfl rfl ?_
          refine f_no rfl rfl ?_
          refine f_op rfl rfl (s_pickT (v := .bool true) rfl rfl) ?_
          refine f_nil ?_
          refine f_keep [0, 1, 2, 7, 9, 83] ?_
          exact s12_j2 happ v1 v2 v3 v4 v6 true H
        · skip
          refine o_know 69 rfl (dec_false h8) ?_
          refine f_op rfl rfl (s_fieldAddr Try.underlying24 rfl ty3 rfl) ?_
          refine o_bind ?_; intro x9 hx9
          refine f_op rfl rfl (s_load Try.underlying3 rfl rfl (ldI_eq hx9)) ?_
          refine f_op rfl rfl (s_gtr rfl rfl) ?_
          refine f_op rfl rfl (s_pickF (v := .bool (decide (100000 < x9))) rfl rfl) ?_
          refine f_op rfl rfl (s_mv (v := .bool (decide (100000 < x9))) rfl) ?_
          refine o_if (fun h10 => ?_) (fun h10 => ?_)
          · skip
            refine o_know 74 rfl (dec_true h10) ?_
            refine f_no rfl rfl ?_
            refine f_no rfl rfl ?_
            refine f_no rfl rfl ?_
            refine f_op rfl rfl (s_pickT (v := .bool true) rfl rfl) ?_
            refine f_op rfl rfl (s_mv (v := .bool true) rfl) ?_
            refine f_no rfl rfl ?_
            refine f_no rfl rfl ?_
            refine f_no rfl rfl ?_
            refine f_op rfl rfl (s_pickT (v := .bool true) rfl rfl) ?_
            refine f_nil ?_
            refine f_keep [0, 1, 2, 7, 9, 83] ?_
            exact s12_j2 happ v1 v2 v3 v4 v6 true H
          · skip
            refine o_know 74 rfl (dec_false h10) ?_
            refine f_op rfl rfl (s_fieldAddr Try.underlying24 rfl ty3 rfl) ?_
            refine o_bind ?_; intro x11 hx11
            refine f_op rfl rfl (s_load Try.underlying3 rfl rfl (ldI_eq hx11)) ?_
            refine f_op rfl rfl (s_gtr rfl rfl) ?_
            refine f_op rfl rfl (s_pickF (v := .bool (decide (100000000 < x11))) rfl rfl) ?_
            refine f_op rfl rfl (s_mv (v := .bool (decide (100000000 < x11))) rfl) ?_
            refine o_if (fun h12 => ?_) (fun h12 => ?_)
            · skip
              refine o_know 79 rfl (dec_true h12) ?_
              refine f_no rfl rfl ?_
              refine f_no rfl rfl ?_
              refine f_no rfl rfl ?_
              refine f_op rfl rfl (s_pickT (v := .bool true) rfl rfl) ?_
              refine f_nil ?_
              refine f_keep [0, 1, 2, 7, 9, 83] ?_
              exact s12_j2 happ v1 v2 v3 v4 v6 true H
            · skip
              refine o_know 79 rfl (dec_false h12) ?_
              refine f_op rfl rfl (s_fieldAddr Try.underlying24 rfl ty3 rfl) ?_
              refine o_bind ?_; intro x13 hx13
              refine f_op rfl rfl (s_load Try.underlying3 rfl rfl (ldI_eq hx13)) ?_
              refine f_op rfl rfl (s_lss rfl rfl) ?_
              refine f_op rfl rfl (s_pickF (v := .bool (decide (x13 < (-100000000)))) rfl rfl) ?_
              refine f_nil ?_
              refine f_keep [0, 1, 2, 7, 9, 83] ?_
              exact s12_j2 happ v1 v2 v3 v4 v6 (decide (x13 < (-100000000))) H

theorem s12_j1 {app : App} (happ : AppSim Try.prog app) (v1 : Sl) (v2 : Int) (v3 : Int) (v4 : Nat) (v5 : Int) (v6 : Sl) (v7 : Int) (v8 : Bool) (H : Hp) : Fin Try.prog Try.f12 ret12 237 (todoAt (bodyOf Try.f12) [1, 1, 1, 0, 1] []) [(0, .sl v1), (1, .int .i64 v2), (2, .int .i64 v3), (7, .ptr v4 0), (8, .int .i64 v5), (9, .sl v6), (10, .int .i64 v7), (41, .bool v8)] H (r12_j1 app v1 v2 v3 v4 v5 v6 v7 v8 H) := by
  unfold r12_j1
  refine f_if (fun h1 => ?_) (fun h1 => ?_)
  · skip
    refine f_know 41 rfl (bool_T h1) ?_
    refine f_condT rfl ?_
    refine f_seq ?_
    refine f_region ?_
    refine f_op rfl rfl (s_mv (v := .int .i64 v5) rfl) ?_
    refine f_op rfl rfl (s_eql rfl rfl) ?_
    refine f_op rfl rfl (s_mv (v := .bool (decide (v5 = 2))) rfl) ?_
    refine o_if (fun h2 => ?_) (fun h2 => ?_)
    · skip
      refine o_know 44 rfl (dec_true h2) ?_
      refine o_bind ?_; intro p3 hp3
      refine o_bind ?_; intro x4 hx4
      refine f_op rfl rfl (s_callA happ rfl hp3) ?_
      refine o_know 45 rfl (asB_eq hx4) ?_
      refine f_op rfl rfl (s_pickT (v := .bool x4) rfl rfl) ?_
      refine f_op rfl rfl (s_as (v := .bool x4) rfl) ?_
      refine f_nil ?_
      exact f_ret (.tmp rfl (.nil)) rfl
    · skip
      refine o_know 44 rfl (dec_false h2) ?_
      refine f_no rfl rfl ?_
      refine f_op rfl rfl (s_pickF (v := .bool false) rfl rfl) ?_
      refine f_op rfl rfl (s_as (v := .bool false) rfl) ?_
      refine f_nil ?_
      exact f_ret (.tmp rfl (.nil)) rfl
  · skip
    refine f_know 41 rfl (bool_F h1) ?_
    refine f_condF rfl ?_
    refine f_skip ?_
    refine f_seq ?_
    refine f_seq ?_
    refine f_region ?_
    refine f_op rfl rfl (s_mv (v := .int .i64 v7) rfl) ?_
    refine f_op rfl rfl (s_neq rfl rfl) ?_
    refine f_op rfl rfl (s_mv (v := .bool (decide (v7 ≠ 0))) rfl) ?_
    refine o_if (fun h5 => ?_) (fun h5 => ?_)
    · skip
      refine o_know 49 rfl (dec_true h5) ?_
      refine f_no rfl rfl ?_
      refine f_no rfl rfl ?_
      refine f_no rfl rfl ?_
      refine f_op rfl rfl (s_pickT (v := .bool true) rfl rfl) ?_
      refine f_nil ?_
      refine f_keep [0, 1, 2, 7, 8, 9, 53] ?_
      exact s12_j0 happ v1 v2 v3 v4 v5 v6 true H
    · skip
      refine o_know 49 rfl (dec_false h5) ?_
      refine f_op rfl rfl (s_mv (v := .sl v6) rfl) ?_
      refine f_op rfl rfl (s_lenS rfl Try.underlying83 rfl) ?_
      refine f_op rfl rfl (s_gtr rfl rfl) ?_
      refine f_op rfl rfl (s_pickF (v := .bool (decide (40 < (v6.len : Int)))) rfl rfl) ?_
      refine f_nil ?_
      refine f_keep [0, 1, 2, 7, 8, 9, 53] ?_
      exact s12_j0 happ v1 v2 v3 v4 v5 v6 (decide (40 < (v6.len : Int))) H

theorem sim12 {app : App} (happ : AppSim Try.prog app) {a0 : Sl} {a1 : Int} {a2 : Int} {H : Hp} {p : Bool × Hp} (h : r12 app a0 a1 a2 H = some p) : CallSim Try.prog 12 [.sl a0, .int .i64 a1, .int .i64 a2] H (.bool p.1) p.2 := by
  refine callSim (fn := Try.f12) (ret := ret12) Try.func12 rfl Try.ntmps12 rfl ?_ h
  unfold r12
  refine f_seq ?_
  refine f_region ?_
  refine f_op rfl rfl (s_as (v := .bool false) rfl) ?_
  refine f_nil ?_
  refine f_seq ?_
  refine f_region ?_
  refine f_op rfl rfl (s_mv (v := .sl a0) rfl) ?_
  refine o_bind ?_; intro p1 hp1
  refine f_op rfl rfl (s_callF rfl ok18 (sim18 hp1)) ?_
  refine f_op rfl rfl (s_mv (v := .int .i64 a1) rfl) ?_
  refine f_op rfl rfl (s_mv (v := .int .i64 a2) rfl) ?_
  refine o_bind ?_; intro p2 hp2
  refine f_op rfl rfl (s_callF rfl ok55 (sim55 happ hp2)) ?_
  refine f_op rfl rfl (s_mv (v := .tup [.agg [.int .i64 p2.1.1, .int .i64 p2.1.2.1], .int .i64 p2.1.2.2]) rfl) ?_
  refine f_op rfl rfl (s_extract (r := .agg [.int .i64 p2.1.1, .int .i64 p2.1.2.1]) rfl rfl) ?_
  refine f_op rfl rfl (s_extract (r := .int .i64 p2.1.2.2) rfl rfl) ?_
  refine f_op rfl rfl (s_alloc (zs := [.int .i64 0, .int .i64 0]) ty24 rfl rfl) ?_
  refine o_bind ?_; intro H3 hH3
  refine f_op rfl rfl (s_stores ty24 rfl rfl rfl rfl hH3 (Nat.le_of_eq (sts_mono hH3).symm)) ?_
  refine f_op rfl rfl (s_as (v := .int .i64 p2.1.2.2) rfl) ?_
  refine f_nil ?_
  refine f_seq ?_
  refine f_region ?_
  refine f_op rfl rfl (s_mv (v := .sl a0) rfl) ?_
  refine o_bind ?_; intro p4 hp4
  refine f_op rfl rfl (s_callF rfl ok18 (sim18 hp4)) ?_
  refine o_bind ?_; intro p5 hp5
  refine f_op rfl rfl (s_callF rfl ok51 (sim51 happ hp5)) ?_
  refine f_op rfl rfl (s_mv (v := .tup [.sl p5.1.1, .int .i64 p5.1.2]) rfl) ?_
  refine f_op rfl rfl (s_extract (r := .sl p5.1.1) rfl rfl) ?_
  refine f_op rfl rfl (s_extract (r := .int .i64 p5.1.2) rfl rfl) ?_
  refine f_op rfl rfl (s_as (v := .sl p5.1.1) rfl) ?_
  refine f_op rfl rfl (s_as (v := .int .i64 p5.1.2) rfl) ?_
  refine f_nil ?_
  refine f_seq ?_
  refine f_seq ?_
  refine f_region ?_
  refine f_op rfl rfl (s_mv (v := .sl a0) rfl) ?_
  refine o_bind ?_; intro p6 hp6
  refine f_op rfl rfl (s_callF rfl ok19 (sim19 hp6)) ?_
  refine f_op rfl rfl (s_not rfl) ?_
  refine f_op rfl rfl (s_mv (v := .bool (!p6.1)) rfl) ?_
  refine o_if (fun h7 => ?_) (fun h7 => ?_)
  · skip
    refine o_know 36 rfl (bool_notT h7) ?_
    refine f_op rfl rfl (s_mv (v := .int .i64 a1) rfl) ?_
    refine f_op rfl rfl (s_mv (v := .int .i64 a2) rfl) ?_
    refine o_bind ?_; intro p8 hp8
    refine f_op rfl rfl (s_callO rfl ok48 (sim48 hp8) rfl rfl) ?_
    refine f_op rfl rfl (s_not rfl) ?_
    refine f_op rfl rfl (s_pickF (v := .bool (!p8.1)) rfl rfl) ?_
    refine f_nil ?_
    refine f_keep [0, 1, 2, 7, 8, 9, 10, 41] ?_
    exact s12_j1 happ a0 a1 a2 p2.2.n p2.1.2.2 p5.1.1 p5.1.2 (!p8.1) p6.2
  · skip
    refine o_know 36 rfl (bool_notF h7) ?_
    refine f_no rfl rfl ?_
    refine f_no rfl rfl ?_
    refine f_no rfl rfl ?_
    refine f_no rfl rfl ?_
    refine f_op rfl rfl (s_pickT (v := .bool true) rfl rfl) ?_
    refine f_nil ?_
    refine f_keep [0, 1, 2, 7, 8, 9, 10, 41] ?_
    exact s12_j1 happ a0 a1 a2 p2.2.n p2.1.2.2 p5.1.1 p5.1.2 true p6.2

end Go.Lt.P2
