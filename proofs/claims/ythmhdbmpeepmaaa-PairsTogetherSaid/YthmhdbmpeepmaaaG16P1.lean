/- PRINTED BY A PROGRAM OF OURS: what each function that 'PairsTogether' reaches computes on the abstract heap, and that the translated code does just that. Nothing is asked of the input. -/
import Derived.Test.YthmhdbmpeepmaaaG16P0
set_option linter.unusedVariables false
set_option linter.unusedSimpArgs false
set_option maxRecDepth 100000
set_option maxHeartbeats 4000000
namespace Go.Lt.P8
open Go Go.Lt Go.Proofs
/- 89 congou/pairs.areThrees -/
theorem ok89 : FnOk Try.prog 89 := ⟨⟨Try.f89, Try.func89, by kernel_rfl, rfl⟩⟩
theorem s89_j1 {app : App} (happ : AppSim Try.prog app) (kt0 : Int → Sl → Nat → Sl → Int → Int → Hp → Option (Bool × Hp)) (hkt0 : ∀ (v1 : Int) (v2 : Sl) (v3 : Nat) (v4 : Sl) (v5 : Int) (v6 : Int) (H : Hp), Fin Try.prog Try.f89 ret89 73 (todoAt (bodyOf Try.f89) [1, 1, 0, 1, 0, 0] []) [(0, .int .i64 v1), (1, .sl v2), (5, .map v3), (11, .sl v4), (12, .int .i64 v5), (13, .int .i64 v6)] H (kt0 v1 v2 v3 v4 v5 v6 H)) (v1 : Int) (v2 : Sl) (v3 : Nat) (v4 : Nat) (v5 : Sl) (v6 : Int) (v7 : Int) (v8 : Bool) (H : Hp) : Fin Try.prog Try.f89 ret89 73 (todoAt (bodyOf Try.f89) [1, 1, 0, 1, 0, 0, 1, 1, 0, 0, 1, 0, 1] []) [(0, .int .i64 v1), (1, .sl v2), (5, .map v3), (7, .ptr v4 0), (11, .sl v5), (12, .int .i64 v6), (13, .int .i64 v7), (60, .bool v8)] H (r89_j1 app kt0 v1 v2 v3 v4 v5 v6 v7 v8 H) := by
  unfold r89_j1
  refine f_if (fun h1 => ?_) (fun h1 => ?_)
  · skip
    refine f_know 60 rfl (bool_T h1) ?_
    refine f_condT rfl ?_
    refine f_seq ?_
    refine f_region ?_
    refine f_op rfl rfl (s_as (v := .bool false) rfl) ?_
    refine f_nil ?_
    exact f_ret (.tmp rfl (.nil)) rfl
  · skip
    refine f_know 60 rfl (bool_F h1) ?_
    refine f_condF rfl ?_
    refine f_skip ?_
    refine f_region ?_
    refine f_op rfl rfl (s_mv (v := .map v3) rfl) ?_
    refine o_bind ?_; intro x2 hx2
    refine o_bind ?_; intro x3 hx3
    refine o_bind ?_; intro x4 hx4
    refine f_op rfl rfl (s_loads Try.underlying63 rfl ty63 rfl (lds_cons (ldI_eq hx2) (lds_cons (ldI_eq hx3) (lds_cons (ldI_eq hx4) (lds_nil))))) ?_
    refine o_bind ?_; intro p5 hp5
    refine f_op rfl rfl (s_callF rfl ok97 (sim97 hp5)) ?_
    refine f_nil ?_
    refine f_inBlock ?_
    refine f_region ?_
    refine f_op rfl rfl (s_add rfl rfl) ?_
    refine f_op rfl rfl (s_mv (v := .int .i64 (w64 (v7 + 1))) rfl) ?_
    refine f_nil ?_
    refine f_inLoop ?_
    refine f_keep [0, 1, 5, 11, 12, 13] ?_
    exact hkt0 v1 v2 v3 v5 v6 (w64 (v7 + 1)) p5.2

theorem s89_l0 {app : App} (happ : AppSim Try.prog app) : ∀ (k_ : Nat) (v1 : Int) (v2 : Sl) (v3 : Nat) (v4 : Sl) (v5 : Int) (v6 : Int) (H : Hp), Fin Try.prog Try.f89 ret89 73 (todoAt (bodyOf Try.f89) [1, 1, 0, 1, 0, 0] []) [(0, .int .i64 v1), (1, .sl v2), (5, .map v3), (11, .sl v4), (12, .int .i64 v5), (13, .int .i64 v6)] H (r89_l0 app k_ v1 v2 v3 v4 v5 v6 H) := by
  intro k_
  induction k_ with
  | zero => intro _ _ _ _ _ _ _; exact f_none
  | succ k_ ih =>
    intro v1 v2 v3 v4 v5 v6 H
    rw [r89_l0]
    refine f_seq ?_
    refine f_region ?_
    refine f_op rfl rfl (s_lss rfl rfl) ?_
    refine f_nil ?_
    refine f_seq ?_
    refine f_if (fun h1 => ?_) (fun h1 => ?_)
    · skip
      refine f_know 14 rfl (dec_true h1) ?_
      refine f_condT rfl ?_
      refine f_skip ?_
      refine f_seq ?_
      refine f_block ?_
      refine f_seq ?_
      refine f_region ?_
      refine f_op rfl rfl (s_mv (v := .int .i64 v6) rfl) ?_
      refine o_ck fun g2 => ?_
      refine f_op rfl rfl (s_idx Try.underlying58 ty63 rfl rfl g2) ?_
      refine o_bind ?_; intro x3 hx3
      refine o_bind ?_; intro x4 hx4
      refine o_bind ?_; intro x5 hx5
      refine f_op rfl rfl (s_loads Try.underlying63 rfl ty63 rfl (lds_cons (ldI_eq hx3) (lds_cons (ldI_eq hx4) (lds_cons (ldI_eq hx5) (lds_nil))))) ?_
      refine f_op rfl rfl (s_alloc (zs := [.int .i64 0, .int .i64 0, .int .i64 0]) ty63 rfl rfl) ?_
      refine f_op rfl rfl (s_as (v := .int .i64 v6) rfl) ?_
      refine o_bind ?_; intro H6 hH6
      refine f_op rfl rfl (s_stores ty63 rfl rfl rfl rfl hH6 (Nat.le_of_eq (sts_mono hH6).symm)) ?_
      refine f_nil ?_
      refine f_seq ?_
      refine f_seq ?_
      refine f_bind ?_; intro x7 hx7
      refine f_if (fun h8 => ?_) (fun h8 => ?_)
      · skip
        refine f_draw (Φ := fun _ => True) [0, 1, 0, 0, 0, 0, 0, 0, 0, 0, 0, 0, 0, 0, 0, 0, 0, 0, 0, 0, 0, 0, 0, 0, 0, 0, 0, 0, 0, 0, 0, 0, 0, 0, 0, 0, 0, 0, 0, 0, 0, 0, 0] (Trc.pure rfl rfl rfl (fun _ _ => s_idxA Try.underlying63 ty3 rfl rfl (by decide)) (Trc.read rfl rfl rfl (s_load Try.underlying3 rfl rfl (ldI_eq hx7)) (Trc.pure rfl rfl rfl (fun _ _ => s_lss rfl rfl) (Trc.pure rfl rfl rfl (fun _ _ => s_mv (v := .bool (decide (x7 < 0))) rfl) (Trc.know 21 rfl (dec_true h8) (Trc.no rfl rfl rfl (Trc.no rfl rfl rfl (Trc.no rfl rfl rfl (Trc.no rfl rfl rfl (Trc.no rfl rfl rfl (Trc.pure rfl rfl rfl (fun _ _ => s_pickT (v := .bool true) rfl rfl) (Trc.pure rfl rfl rfl (fun _ _ => s_mv (v := .bool true) rfl) (Trc.no rfl rfl rfl (Trc.no rfl rfl rfl (Trc.no rfl rfl rfl (Trc.no rfl rfl rfl (Trc.no rfl rfl rfl (Trc.pure rfl rfl rfl (fun _ _ => s_pickT (v := .bool true) rfl rfl) (Trc.pure rfl rfl rfl (fun _ _ => s_mv (v := .bool true) rfl) (Trc.no rfl rfl rfl (Trc.no rfl rfl rfl (Trc.no rfl rfl rfl (Trc.no rfl rfl rfl (Trc.pure rfl rfl rfl (fun _ _ => s_pickT (v := .bool true) rfl rfl) (Trc.pure rfl rfl rfl (fun _ _ => s_mv (v := .bool true) rfl) (Trc.no rfl rfl rfl (Trc.no rfl rfl rfl (Trc.no rfl rfl rfl (Trc.no rfl rfl rfl (Trc.pure rfl rfl rfl (fun _ _ => s_pickT (v := .bool true) rfl rfl) (Trc.pure rfl rfl rfl (fun _ _ => s_mv (v := .bool true) rfl) (Trc.no rfl rfl rfl (Trc.no rfl rfl rfl (Trc.no rfl rfl rfl (Trc.no rfl rfl rfl (Trc.no rfl rfl rfl (Trc.no rfl rfl rfl (Trc.no rfl rfl rfl (Trc.no rfl rfl rfl (Trc.no rfl rfl rfl (Trc.no rfl rfl rfl (Trc.no rfl rfl rfl (Trc.no rfl rfl rfl (Trc.pure rfl rfl rfl (fun _ _ => s_pickT (v := .bool true) rfl rfl) (Trc.nil (trivial)))))))))))))))))))))))))))))))))))))))))))))) rfl (by decide +kernel) mixed ?_
        refine f_keep [0, 1, 5, 7, 11, 12, 13, 60] ?_
        exact s89_j1 happ _ (fun v1_ v2_ v3_ v4_ v5_ v6_ H_ => ih v1_ v2_ v3_ v4_ v5_ v6_ H_) v1 v2 v3 H.n v4 v5 v6 true H6
      · skip
        refine f_bind ?_; intro x9 hx9
        refine f_bind ?_; intro x10 hx10
        refine f_if (fun h11 => ?_) (fun h11 => ?_)
        · skip
          refine f_draw (Φ := fun _ => True) [0, 1, 0, 0, 0, 1, 0, 1, 0, 0, 0, 0, 0, 0, 0, 0, 0, 0, 0, 0, 0, 0, 0, 0, 0, 0, 0, 0, 0, 0, 0, 0, 0, 0, 0, 0, 0, 0, 0, 0, 0, 0, 0] (Trc.pure rfl rfl rfl (fun _ _ => s_idxA Try.underlying63 ty3 rfl rfl (by decide)) (Trc.read rfl rfl rfl (s_load Try.underlying3 rfl rfl (ldI_eq hx7)) (Trc.pure rfl rfl rfl (fun _ _ => s_lss rfl rfl) (Trc.pure rfl rfl rfl (fun _ _ => s_mv (v := .bool (decide (x7 < 0))) rfl) (Trc.know 21 rfl (dec_false h8) (Trc.pure rfl rfl rfl (fun _ _ => s_idxA Try.underlying63 ty3 rfl rfl (by decide)) (Trc.read rfl rfl rfl (s_load Try.underlying3 rfl rfl (ldI_eq hx9)) (Trc.pure rfl rfl rfl (fun _ _ => s_idxA Try.underlying63 ty3 rfl rfl (by decide)) (Trc.read rfl rfl rfl (s_load Try.underlying3 rfl rfl (ldI_eq hx10)) (Trc.pure rfl rfl rfl (fun _ _ => s_geq rfl rfl) (Trc.pure rfl rfl rfl (fun _ _ => s_pickF (v := .bool (decide (x10 ≤ x9))) rfl rfl) (Trc.pure rfl rfl rfl (fun _ _ => s_mv (v := .bool (decide (x10 ≤ x9))) rfl) (Trc.know 28 rfl (dec_true h11) (Trc.no rfl rfl rfl (Trc.no rfl rfl rfl (Trc.no rfl rfl rfl (Trc.no rfl rfl rfl (Trc.no rfl rfl rfl (Trc.pure rfl rfl rfl (fun _ _ => s_pickT (v := .bool true) rfl rfl) (Trc.pure rfl rfl rfl (fun _ _ => s_mv (v := .bool true) rfl) (Trc.no rfl rfl rfl (Trc.no rfl rfl rfl (Trc.no rfl rfl rfl (Trc.no rfl rfl rfl (Trc.pure rfl rfl rfl (fun _ _ => s_pickT (v := .bool true) rfl rfl) (Trc.pure rfl rfl rfl (fun _ _ => s_mv (v := .bool true) rfl) (Trc.no rfl rfl rfl (Trc.no rfl rfl rfl (Trc.no rfl rfl rfl (Trc.no rfl rfl rfl (Trc.pure rfl rfl rfl (fun _ _ => s_pickT (v := .bool true) rfl rfl) (Trc.pure rfl rfl rfl (fun _ _ => s_mv (v := .bool true) rfl) (Trc.no rfl rfl rfl (Trc.no rfl rfl rfl (Trc.no rfl rfl rfl (Trc.no rfl rfl rfl (Trc.no rfl rfl rfl (Trc.no rfl rfl rfl (Trc.no rfl rfl rfl (Trc.no rfl rfl rfl (Trc.no rfl rfl rfl (Trc.no rfl rfl rfl (Trc.no rfl rfl rfl (Trc.no rfl rfl rfl (Trc.pure rfl rfl rfl (fun _ _ => s_pickT (v := .bool true) rfl rfl) (Trc.nil (trivial))))))))))))))))))))))))))))))))))))))))))))))) rfl (by decide +kernel) mixed ?_
          refine f_keep [0, 1, 5, 7, 11, 12, 13, 60] ?_
          exact s89_j1 happ _ (fun v1_ v2_ v3_ v4_ v5_ v6_ H_ => ih v1_ v2_ v3_ v4_ v5_ v6_ H_) v1 v2 v3 H.n v4 v5 v6 true H6
        · skip
          refine f_bind ?_; intro x12 hx12
          refine f_bind ?_; intro x13 hx13
          refine f_if (fun h14 => ?_) (fun h14 => ?_)
          · skip
            refine f_draw (Φ := fun _ => True) [0, 1, 0, 0, 0, 1, 0, 1, 0, 0, 0, 0, 1, 0, 1, 0, 0, 0, 0, 0, 0, 0, 0, 0, 0, 0, 0, 0, 0, 0, 0, 0, 0, 0, 0, 0, 0, 0, 0, 0, 0, 0, 0] (Trc.pure rfl rfl rfl (fun _ _ => s_idxA Try.underlying63 ty3 rfl rfl (by decide)) (Trc.read rfl rfl rfl (s_load Try.underlying3 rfl rfl (ldI_eq hx7)) (Trc.pure rfl rfl rfl (fun _ _ => s_lss rfl rfl) (Trc.pure rfl rfl rfl (fun _ _ => s_mv (v := .bool (decide (x7 < 0))) rfl) (Trc.know 21 rfl (dec_false h8) (Trc.pure rfl rfl rfl (fun _ _ => s_idxA Try.underlying63 ty3 rfl rfl (by decide)) (Trc.read rfl rfl rfl (s_load Try.underlying3 rfl rfl (ldI_eq hx9)) (Trc.pure rfl rfl rfl (fun _ _ => s_idxA Try.underlying63 ty3 rfl rfl (by decide)) (Trc.read rfl rfl rfl (s_load Try.underlying3 rfl rfl (ldI_eq hx10)) (Trc.pure rfl rfl rfl (fun _ _ => s_geq rfl rfl) (Trc.pure rfl rfl rfl (fun _ _ => s_pickF (v := .bool (decide (x10 ≤ x9))) rfl rfl) (Trc.pure rfl rfl rfl (fun _ _ => s_mv (v := .bool (decide (x10 ≤ x9))) rfl) (Trc.know 28 rfl (dec_false h11) (Trc.pure rfl rfl rfl (fun _ _ => s_idxA Try.underlying63 ty3 rfl rfl (by decide)) (Trc.read rfl rfl rfl (s_load Try.underlying3 rfl rfl (ldI_eq hx12)) (Trc.pure rfl rfl rfl (fun _ _ => s_idxA Try.underlying63 ty3 rfl rfl (by decide)) (Trc.read rfl rfl rfl (s_load Try.underlying3 rfl rfl (ldI_eq hx13)) (Trc.pure rfl rfl rfl (fun _ _ => s_geq rfl rfl) (Trc.pure rfl rfl rfl (fun _ _ => s_pickF (v := .bool (decide (x13 ≤ x12))) rfl rfl) (Trc.pure rfl rfl rfl (fun _ _ => s_mv (v := .bool (decide (x13 ≤ x12))) rfl) (Trc.know 35 rfl (dec_true h14) (Trc.no rfl rfl rfl (Trc.no rfl rfl rfl (Trc.no rfl rfl rfl (Trc.no rfl rfl rfl (Trc.pure rfl rfl rfl (fun _ _ => s_pickT (v := .bool true) rfl rfl) (Trc.pure rfl rfl rfl (fun _ _ => s_mv (v := .bool true) rfl) (Trc.no rfl rfl rfl (Trc.no rfl rfl rfl (Trc.no rfl rfl rfl (Trc.no rfl rfl rfl (Trc.pure rfl rfl rfl (fun _ _ => s_pickT (v := .bool true) rfl rfl) (Trc.pure rfl rfl rfl (fun _ _ => s_mv (v := .bool true) rfl) (Trc.no rfl rfl rfl (Trc.no rfl rfl rfl (Trc.no rfl rfl rfl (Trc.no rfl rfl rfl (Trc.no rfl rfl rfl (Trc.no rfl rfl rfl (Trc.no rfl rfl rfl (Trc.no rfl rfl rfl (Trc.no rfl rfl rfl (Trc.no rfl rfl rfl (Trc.no rfl rfl rfl (Trc.no rfl rfl rfl (Trc.pure rfl rfl rfl (fun _ _ => s_pickT (v := .bool true) rfl rfl) (Trc.nil (trivial)))))))))))))))))))))))))))))))))))))))))))))))) rfl (by decide +kernel) mixed ?_
            refine f_keep [0, 1, 5, 7, 11, 12, 13, 60] ?_
            exact s89_j1 happ _ (fun v1_ v2_ v3_ v4_ v5_ v6_ H_ => ih v1_ v2_ v3_ v4_ v5_ v6_ H_) v1 v2 v3 H.n v4 v5 v6 true H6
          · skip
            refine f_bind ?_; intro x15 hx15
            refine f_if (fun h16 => ?_) (fun h16 => ?_)
            · skip
              refine f_draw (Φ := fun _ => True) [0, 1, 0, 0, 0, 1, 0, 1, 0, 0, 0, 0, 1, 0, 1, 0, 0, 0, 0, 1, 0, 0, 0, 0, 0, 0, 0, 0, 0, 0, 0, 0, 0, 0, 0, 0, 0, 0, 0, 0, 0, 0, 0] (Trc.pure rfl rfl rfl (fun _ _ => s_idxA Try.underlying63 ty3 rfl rfl (by decide)) (Trc.read rfl rfl rfl (s_load Try.underlying3 rfl rfl (ldI_eq hx7)) (Trc.pure rfl rfl rfl (fun _ _ => s_lss rfl rfl) (Trc.pure rfl rfl rfl (fun _ _ => s_mv (v := .bool (decide (x7 < 0))) rfl) (Trc.know 21 rfl (dec_false h8) (Trc.pure rfl rfl rfl (fun _ _ => s_idxA Try.underlying63 ty3 rfl rfl (by decide)) (Trc.read rfl rfl rfl (s_load Try.underlying3 rfl rfl (ldI_eq hx9)) (Trc.pure rfl rfl rfl (fun _ _ => s_idxA Try.underlying63 ty3 rfl rfl (by decide)) (Trc.read rfl rfl rfl (s_load Try.underlying3 rfl rfl (ldI_eq hx10)) (Trc.pure rfl rfl rfl (fun _ _ => s_geq rfl rfl) (Trc.pure rfl rfl rfl (fun _ _ => s_pickF (v := .bool (decide (x10 ≤ x9))) rfl rfl) (Trc.pure rfl rfl rfl (fun _ _ => s_mv (v := .bool (decide (x10 ≤ x9))) rfl) (Trc.know 28 rfl (dec_false h11) (Trc.pure rfl rfl rfl (fun _ _ => s_idxA Try.underlying63 ty3 rfl rfl (by decide)) (Trc.read rfl rfl rfl (s_load Try.underlying3 rfl rfl (ldI_eq hx12)) (Trc.pure rfl rfl rfl (fun _ _ => s_idxA Try.underlying63 ty3 rfl rfl (by decide)) (Trc.read rfl rfl rfl (s_load Try.underlying3 rfl rfl (ldI_eq hx13)) (Trc.pure rfl rfl rfl (fun _ _ => s_geq rfl rfl) (Trc.pure rfl rfl rfl (fun _ _ => s_pickF (v := .bool (decide (x13 ≤ x12))) rfl rfl) (Trc.pure rfl rfl rfl (fun _ _ => s_mv (v := .bool (decide (x13 ≤ x12))) rfl) (Trc.know 35 rfl (dec_false h14) (Trc.pure rfl rfl rfl (fun _ _ => s_idxA Try.underlying63 ty3 rfl rfl (by decide)) (Trc.read rfl rfl rfl (s_load Try.underlying3 rfl rfl (ldI_eq hx15)) (Trc.pure rfl rfl rfl (fun _ _ => s_mv (v := .int .i64 v1) rfl) (Trc.pure rfl rfl rfl (fun _ _ => s_geq rfl rfl) (Trc.pure rfl rfl rfl (fun _ _ => s_pickF (v := .bool (decide (v1 ≤ x15))) rfl rfl) (Trc.pure rfl rfl rfl (fun _ _ => s_mv (v := .bool (decide (v1 ≤ x15))) rfl) (Trc.know 41 rfl (dec_true h16) (Trc.no rfl rfl rfl (Trc.no rfl rfl rfl (Trc.no rfl rfl rfl (Trc.no rfl rfl rfl (Trc.pure rfl rfl rfl (fun _ _ => s_pickT (v := .bool true) rfl rfl) (Trc.pure rfl rfl rfl (fun _ _ => s_mv (v := .bool true) rfl) (Trc.no rfl rfl rfl (Trc.no rfl rfl rfl (Trc.no rfl rfl rfl (Trc.no rfl rfl rfl (Trc.no rfl rfl rfl (Trc.no rfl rfl rfl (Trc.no rfl rfl rfl (Trc.no rfl rfl rfl (Trc.no rfl rfl rfl (Trc.no rfl rfl rfl (Trc.no rfl rfl rfl (Trc.no rfl rfl rfl (Trc.pure rfl rfl rfl (fun _ _ => s_pickT (v := .bool true) rfl rfl) (Trc.nil (trivial))))))))))))))))))))))))))))))))))))))))))))))))) rfl (by decide +kernel) mixed ?_
              refine f_keep [0, 1, 5, 7, 11, 12, 13, 60] ?_
              exact s89_j1 happ _ (fun v1_ v2_ v3_ v4_ v5_ v6_ H_ => ih v1_ v2_ v3_ v4_ v5_ v6_ H_) v1 v2 v3 H.n v4 v5 v6 true H6
            · skip
              refine f_bind ?_; intro x17 hx17
              refine f_bind ?_; intro x18 hx18
              refine f_bind ?_; intro x19 hx19
              refine f_bind ?_; intro p20 hp20
              refine f_if (fun h21 => ?_) (fun h21 => ?_)
              · skip
                refine f_if (fun h22 => ?_) (fun h22 => ?_)
                · skip
                  refine f_ck fun g23 => ?_
                  refine f_bind ?_; intro p24 hp24
                  refine f_draw (Φ := fun _ => True) [0, 1, 0, 0, 0, 1, 0, 1, 0, 0, 0, 0, 1, 0, 1, 0, 0, 0, 0, 1, 0, 0, 0, 0, 0, 1, 2, 0, 0, 0, 0, 0, 0, 0, 0, 0, 0, 0, 0, 2, 0, 0, 0] (Trc.pure rfl rfl rfl (fun _ _ => s_idxA Try.underlying63 ty3 rfl rfl (by decide)) (Trc.read rfl rfl rfl (s_load Try.underlying3 rfl rfl (ldI_eq hx7)) (Trc.pure rfl rfl rfl (fun _ _ => s_lss rfl rfl) (Trc.pure rfl rfl rfl (fun _ _ => s_mv (v := .bool (decide (x7 < 0))) rfl) (Trc.know 21 rfl (dec_false h8) (Trc.pure rfl rfl rfl (fun _ _ => s_idxA Try.underlying63 ty3 rfl rfl (by decide)) (Trc.read rfl rfl rfl (s_load Try.underlying3 rfl rfl (ldI_eq hx9)) (Trc.pure rfl rfl rfl (fun _ _ => s_idxA Try.underlying63 ty3 rfl rfl (by decide)) (Trc.read rfl rfl rfl (s_load Try.underlying3 rfl rfl (ldI_eq hx10)) (Trc.pure rfl rfl rfl (fun _ _ => s_geq rfl rfl) (Trc.pure rfl rfl rfl (fun _ _ => s_pickF (v := .bool (decide (x10 ≤ x9))) rfl rfl) (Trc.pure rfl rfl rfl (fun _ _ => s_mv (v := .bool (decide (x10 ≤ x9))) rfl) (Trc.know 28 rfl (dec_false h11) (Trc.pure rfl rfl rfl (fun _ _ => s_idxA Try.underlying63 ty3 rfl rfl (by decide)) (Trc.read rfl rfl rfl (s_load Try.underlying3 rfl rfl (ldI_eq hx12)) (Trc.pure rfl rfl rfl (fun _ _ => s_idxA Try.underlying63 ty3 rfl rfl (by decide)) (Trc.read rfl rfl rfl (s_load Try.underlying3 rfl rfl (ldI_eq hx13)) (Trc.pure rfl rfl rfl (fun _ _ => s_geq rfl rfl) (Trc.pure rfl rfl rfl (fun _ _ => s_pickF (v := .bool (decide (x13 ≤ x12))) rfl rfl) (Trc.pure rfl rfl rfl (fun _ _ => s_mv (v := .bool (decide (x13 ≤ x12))) rfl) (Trc.know 35 rfl (dec_false h14) (Trc.pure rfl rfl rfl (fun _ _ => s_idxA Try.underlying63 ty3 rfl rfl (by decide)) (Trc.read rfl rfl rfl (s_load Try.underlying3 rfl rfl (ldI_eq hx15)) (Trc.pure rfl rfl rfl (fun _ _ => s_mv (v := .int .i64 v1) rfl) (Trc.pure rfl rfl rfl (fun _ _ => s_geq rfl rfl) (Trc.pure rfl rfl rfl (fun _ _ => s_pickF (v := .bool (decide (v1 ≤ x15))) rfl rfl) (Trc.pure rfl rfl rfl (fun _ _ => s_mv (v := .bool (decide (v1 ≤ x15))) rfl) (Trc.know 41 rfl (dec_false h16) (Trc.pure rfl rfl rfl (fun _ _ => s_mv (v := .map v3) rfl) (Trc.read rfl rfl rfl (s_loads Try.underlying63 rfl ty63 rfl (lds_cons (ldI_eq hx17) (lds_cons (ldI_eq hx18) (lds_cons (ldI_eq hx19) (lds_nil))))) (Trc.eff rfl rfl rfl (trivial) (s_callF rfl ok96 (sim96 happ hp20)) (Trc.pure rfl rfl rfl (fun _ _ => s_not rfl) (Trc.pure rfl rfl rfl (fun _ _ => s_pickF (v := .bool (!p20.1)) rfl rfl) (Trc.pure rfl rfl rfl (fun _ _ => s_mv (v := .bool (!p20.1)) rfl) (Trc.know 47 rfl (bool_notT h21) (Trc.pure rfl rfl rfl (fun _ _ => s_mv (v := .int .i64 v6) rfl) (Trc.pure rfl rfl rfl (fun _ _ => s_gtr rfl rfl) (Trc.pure rfl rfl rfl (fun _ _ => s_mv (v := .bool (decide (0 < v6))) rfl) (Trc.know 50 rfl (dec_true h22) (Trc.pure rfl rfl rfl (fun _ _ => s_mv (v := .sl v2) rfl) (Trc.pure rfl rfl rfl (fun _ _ => s_mv (v := .int .i64 v6) rfl) (Trc.pure rfl rfl rfl (fun _ _ => s_sub rfl rfl) (Trc.pure rfl rfl rfl (fun _ _ => s_idx Try.underlying58 ty63 rfl rfl g23) (Trc.pure rfl rfl rfl (fun _ _ => s_sliceA Try.underlying63 ty3 rfl rfl rfl (by decide)) (Trc.pure rfl rfl rfl (fun _ _ => s_sliceA Try.underlying63 ty3 rfl rfl rfl (by decide)) (Trc.eff rfl rfl rfl (trivial) (s_callF rfl ok50 (sim50 hp24)) (Trc.pure rfl rfl rfl (fun _ _ => s_geq rfl rfl) (Trc.pure rfl rfl rfl (fun _ _ => s_pickT (v := .bool (decide (0 ≤ p24.1))) rfl rfl) (Trc.pure rfl rfl rfl (fun _ _ => s_pickF (v := .bool (decide (0 ≤ p24.1))) rfl rfl) (Trc.nil (trivial))))))))))))))))))))))))))))))))))))))))))))))))))) rfl (by decide +kernel) mixed ?_
                  refine f_keep [0, 1, 5, 7, 11, 12, 13, 60] ?_
                  exact s89_j1 happ _ (fun v1_ v2_ v3_ v4_ v5_ v6_ H_ => ih v1_ v2_ v3_ v4_ v5_ v6_ H_) v1 v2 v3 H.n v4 v5 v6 (decide (0 ≤ p24.1)) p24.2
                · skip
                  refine f_draw (Φ := fun _ => True) [0, 1, 0, 0, 0, 1, 0, 1, 0, 0, 0, 0, 1, 0, 1, 0, 0, 0, 0, 1, 0, 0, 0, 0, 0, 1, 2, 0, 0, 0, 0, 0, 0, 0, 0, 0, 0, 0, 0, 0, 0, 0, 0] (Trc.pure rfl rfl rfl (fun _ _ => s_idxA Try.underlying63 ty3 rfl rfl (by decide)) (Trc.read rfl rfl rfl (s_load Try.underlying3 rfl rfl (ldI_eq hx7)) (Trc.pure rfl rfl rfl (fun _ _ => s_lss rfl rfl) (Trc.pure rfl rfl rfl (fun _ _ => s_mv (v := .bool (decide (x7 < 0))) rfl) (Trc.know 21 rfl (dec_false h8) (Trc.pure rfl rfl rfl (fun _ _ => s_idxA Try.underlying63 ty3 rfl rfl (by decide)) (Trc.read rfl rfl rfl (s_load Try.underlying3 rfl rfl (ldI_eq hx9)) (Trc.pure rfl rfl rfl (fun _ _ => s_idxA Try.underlying63 ty3 rfl rfl (by decide)) (Trc.read rfl rfl rfl (s_load Try.underlying3 rfl rfl (ldI_eq hx10)) (Trc.pure rfl rfl rfl (fun _ _ => s_geq rfl rfl) (Trc.pure rfl rfl rfl (fun _ _ => s_pickF (v := .bool (decide (x10 ≤ x9))) rfl rfl) (Trc.pure rfl rfl rfl (fun _ _ => s_mv (v := .bool (decide (x10 ≤ x9))) rfl) (Trc.know 28 rfl (dec_false h11) (Trc.pure rfl rfl rfl (fun _ _ => s_idxA Try.underlying63 ty3 rfl rfl (by decide)) (Trc.read rfl rfl rfl (s_load Try.underlying3 rfl rfl (ldI_eq hx12)) (Trc.pure rfl rfl rfl (fun _ _ => s_idxA Try.underlying63 ty3 rfl rfl (by decide)) (Trc.read rfl rfl rfl (s_load Try.underlying3 rfl rfl (ldI_eq hx13)) (Trc.pure rfl rfl rfl (fun _ _ => s_geq rfl rfl) (Trc.pure rfl rfl rfl (fun _ _ => s_pickF (v := .bool (decide (x13 ≤ x12))) rfl rfl) (Trc.pure rfl rfl rfl (fun _ _ => s_mv (v := .bool (decide (x13 ≤ x12))) rfl) (Trc.know 35 rfl (dec_false h14) (Trc.pure rfl rfl rfl (fun _ _ => s_idxA Try.underlying63 ty3 rfl rfl (by decide)) (Trc.read rfl rfl rfl (s_load Try.underlying3 rfl rfl (ldI_eq hx15)) (Trc.pure rfl rfl rfl (fun _ _ => s_mv (v := .int .i64 v1) rfl) (Trc.pure rfl rfl rfl (fun _ _ => s_geq rfl rfl) (Trc.pure rfl rfl rfl (fun _ _ => s_pickF (v := .bool (decide (v1 ≤ x15))) rfl rfl) (Trc.pure rfl rfl rfl (fun _ _ => s_mv (v := .bool (decide (v1 ≤ x15))) rfl) (Trc.know 41 rfl (dec_false h16) (Trc.pure rfl rfl rfl (fun _ _ => s_mv (v := .map v3) rfl) (Trc.read rfl rfl rfl (s_loads Try.underlying63 rfl ty63 rfl (lds_cons (ldI_eq hx17) (lds_cons (ldI_eq hx18) (lds_cons (ldI_eq hx19) (lds_nil))))) (Trc.eff rfl rfl rfl (trivial) (s_callF rfl ok96 (sim96 happ hp20)) (Trc.pure rfl rfl rfl (fun _ _ => s_not rfl) (Trc.pure rfl rfl rfl (fun _ _ => s_pickF (v := .bool (!p20.1)) rfl rfl) (Trc.pure rfl rfl rfl (fun _ _ => s_mv (v := .bool (!p20.1)) rfl) (Trc.know 47 rfl (bool_notT h21) (Trc.pure rfl rfl rfl (fun _ _ => s_mv (v := .int .i64 v6) rfl) (Trc.pure rfl rfl rfl (fun _ _ => s_gtr rfl rfl) (Trc.pure rfl rfl rfl (fun _ _ => s_mv (v := .bool (decide (0 < v6))) rfl) (Trc.know 50 rfl (dec_false h22) (Trc.no rfl rfl rfl (Trc.no rfl rfl rfl (Trc.no rfl rfl rfl (Trc.no rfl rfl rfl (Trc.no rfl rfl rfl (Trc.no rfl rfl rfl (Trc.no rfl rfl rfl (Trc.no rfl rfl rfl (Trc.pure rfl rfl rfl (fun _ _ => s_pickF (v := .bool false) rfl rfl) (Trc.pure rfl rfl rfl (fun _ _ => s_pickF (v := .bool false) rfl rfl) (Trc.nil (trivial))))))))))))))))))))))))))))))))))))))))))))))))))) rfl (by decide +kernel) mixed ?_
                  refine f_keep [0, 1, 5, 7, 11, 12, 13, 60] ?_
                  exact s89_j1 happ _ (fun v1_ v2_ v3_ v4_ v5_ v6_ H_ => ih v1_ v2_ v3_ v4_ v5_ v6_ H_) v1 v2 v3 H.n v4 v5 v6 false p20.2
              · skip
                refine f_draw (Φ := fun _ => True) [0, 1, 0, 0, 0, 1, 0, 1, 0, 0, 0, 0, 1, 0, 1, 0, 0, 0, 0, 1, 0, 0, 0, 0, 0, 1, 2, 0, 0, 0, 0, 0, 0, 0, 0, 0, 0, 0, 0, 0, 0, 0, 0] (Trc.pure rfl rfl rfl (fun _ _ => s_idxA Try.underlying63 ty3 rfl rfl (by decide)) (Trc.read rfl rfl rfl (s_load Try.underlying3 rfl rfl (ldI_eq hx7)) (Trc.pure rfl rfl rfl (fun _ _ => s_lss rfl rfl) (Trc.pure rfl rfl rfl (fun _ _ => s_mv (v := .bool (decide (x7 < 0))) rfl) (Trc.know 21 rfl (dec_false h8) (Trc.pure rfl rfl rfl (fun _ _ => s_idxA Try.underlying63 ty3 rfl rfl (by decide)) (Trc.read rfl rfl rfl (s_load Try.underlying3 rfl rfl (ldI_eq hx9)) (Trc.pure rfl rfl rfl (fun _ _ => s_idxA Try.underlying63 ty3 rfl rfl (by decide)) (Trc.read rfl rfl rfl (s_load Try.underlying3 rfl rfl (ldI_eq hx10)) (Trc.pure rfl rfl rfl (fun _ _ => s_geq rfl rfl) (Trc.pure rfl rfl rfl (fun _ _ => s_pickF (v := .bool (decide (x10 ≤ x9))) rfl rfl) (Trc.pure rfl rfl rfl (fun _ _ => s_mv (v := .bool (decide (x10 ≤ x9))) rfl) (Trc.know 28 rfl (dec_false h11) (Trc.pure rfl rfl rfl (fun _ _ => s_idxA Try.underlying63 ty3 rfl rfl (by decide)) (Trc.read rfl rfl rfl (s_load Try.underlying3 rfl rfl (ldI_eq hx12)) (Trc.pure rfl rfl rfl (fun _ _ => s_idxA Try.underlying63 ty3 rfl rfl (by decide)) (Trc.read rfl rfl rfl (s_load Try.underlying3 rfl rfl (ldI_eq hx13)) (Trc.pure rfl rfl rfl (fun _ _ => s_geq rfl rfl) (Trc.pure rfl rfl rfl (fun _ _ => s_pickF (v := .bool (decide (x13 ≤ x12))) rfl rfl) (Trc.pure rfl rfl rfl (fun _ _ => s_mv (v := .bool (decide (x13 ≤ x12))) rfl) (Trc.know 35 rfl (dec_false h14) (Trc.pure rfl rfl rfl (fun _ _ => s_idxA Try.underlying63 ty3 rfl rfl (by decide)) (Trc.read rfl rfl rfl (s_load Try.underlying3 rfl rfl (ldI_eq hx15)) (Trc.pure rfl rfl rfl (fun _ _ => s_mv (v := .int .i64 v1) rfl) (Trc.pure rfl rfl rfl (fun _ _ => s_geq rfl rfl) (Trc.pure rfl rfl rfl (fun _ _ => s_pickF (v := .bool (decide (v1 ≤ x15))) rfl rfl) (Trc.pure rfl rfl rfl (fun _ _ => s_mv (v := .bool (decide (v1 ≤ x15))) rfl) (Trc.know 41 rfl (dec_false h16) (Trc.pure rfl rfl rfl (fun _ _ => s_mv (v := .map v3) rfl) (Trc.read rfl rfl rfl (s_loads Try.underlying63 rfl ty63 rfl (lds_cons (ldI_eq hx17) (lds_cons (ldI_eq hx18) (lds_cons (ldI_eq hx19) (lds_nil))))) (Trc.eff rfl rfl rfl (trivial) (s_callF rfl ok96 (sim96 happ hp20)) (Trc.pure rfl rfl rfl (fun _ _ => s_not rfl) (Trc.pure rfl rfl rfl (fun _ _ => s_pickF (v := .bool (!p20.1)) rfl rfl) (Trc.pure rfl rfl rfl (fun _ _ => s_mv (v := .bool (!p20.1)) rfl) (Trc.know 47 rfl (bool_notF h21) (Trc.no rfl rfl rfl (Trc.no rfl rfl rfl (Trc.no rfl rfl rfl (Trc.no rfl rfl rfl (Trc.no rfl rfl rfl (Trc.no rfl rfl rfl (Trc.no rfl rfl rfl (Trc.no rfl rfl rfl (Trc.no rfl rfl rfl (Trc.no rfl rfl rfl (Trc.no rfl rfl rfl (Trc.no rfl rfl rfl (Trc.pure rfl rfl rfl (fun _ _ => s_pickT (v := .bool true) rfl rfl) (Trc.nil (trivial)))))))))))))))))))))))))))))))))))))))))))))))))) rfl (by decide +kernel) mixed ?_
                refine f_keep [0, 1, 5, 7, 11, 12, 13, 60] ?_
                exact s89_j1 happ _ (fun v1_ v2_ v3_ v4_ v5_ v6_ H_ => ih v1_ v2_ v3_ v4_ v5_ v6_ H_) v1 v2 v3 H.n v4 v5 v6 true p20.2
    · skip
      refine f_know 14 rfl (dec_false h1) ?_
      refine f_condF rfl ?_
      refine f_exit rfl ?_
      refine f_seq ?_
      refine f_region ?_
      refine f_op rfl rfl (s_mv (v := .map v3) rfl) ?_
      refine f_op rfl rfl (s_mv (v := .int .i64 v1) rfl) ?_
      refine o_bind ?_; intro p25 hp25
      refine f_op rfl rfl (s_callF rfl ok95 (sim95 hp25)) ?_
      refine f_op rfl rfl (s_mv (v := .tup [.agg [.int .i64 p25.1.1, .int .i64 p25.1.2.1], .bool p25.1.2.2]) rfl) ?_
      refine f_op rfl rfl (s_extract (r := .agg [.int .i64 p25.1.1, .int .i64 p25.1.2.1]) rfl rfl) ?_
      refine f_op rfl rfl (s_extract (r := .bool p25.1.2.2) rfl rfl) ?_
      refine f_op rfl rfl (s_alloc (zs := [.int .i64 0, .int .i64 0]) ty43 rfl rfl) ?_
      refine o_bind ?_; intro H26 hH26
      refine f_op rfl rfl (s_stores ty43 rfl rfl rfl rfl hH26 (Nat.le_of_eq (sts_mono hH26).symm)) ?_
      refine f_op rfl rfl (s_as (v := .bool p25.1.2.2) rfl) ?_
      refine f_nil ?_
      refine f_seq ?_
      refine f_region ?_
      refine f_op rfl rfl (s_mv (v := .bool p25.1.2.2) rfl) ?_
      refine f_op rfl rfl (s_not rfl) ?_
      refine f_op rfl rfl (s_as (v := .bool (!p25.1.2.2)) rfl) ?_
      refine f_nil ?_
      exact f_ret (.tmp rfl (.nil)) rfl

theorem sim89 {app : App} (happ : AppSim Try.prog app) {a0 : Int} {a1 : Sl} {H : Hp} {p : Bool × Hp} (h : r89 app a0 a1 H = some p) : CallSim Try.prog 89 [.int .i64 a0, .sl a1] H (.bool p.1) p.2 := by
  refine callSim (fn := Try.f89) (ret := ret89) Try.func89 rfl Try.ntmps89 rfl ?_ h
  unfold r89
  refine f_seq ?_
  refine f_region ?_
  refine f_op rfl rfl (s_as (v := .bool false) rfl) ?_
  refine f_nil ?_
  refine f_seq ?_
  refine f_region ?_
  refine f_op rfl rfl (s_makeMap (.arr 2 .i64) rfl) ?_
  refine f_op rfl rfl (s_as (v := .map H.n) rfl) ?_
  refine o_hp ?_; intro H1 hH1
  refine f_nil ?_
  refine f_seq ?_
  refine f_seq ?_
  refine f_region ?_
  refine f_op rfl rfl (s_mv (v := .sl a1) rfl) ?_
  refine f_op rfl rfl (s_lenS rfl Try.underlying58 rfl) ?_
  refine f_op rfl rfl (s_mv (v := .int .i64 0) rfl) ?_
  refine f_nil ?_
  refine f_block ?_
  refine f_loop ?_
  refine f_keep [0, 1, 5, 11, 12, 13] ?_
  exact s89_l0 happ FUEL a0 a1 H.n a1 (a1.len : Int) 0 H1

/- 53 congou/pairs.IsThrees -/
theorem ok53 : FnOk Try.prog 53 := ⟨⟨Try.f53, Try.func53, by kernel_rfl, rfl⟩⟩
theorem sim53 {app : App} (happ : AppSim Try.prog app) {a0 : Int} {a1 : Sl} {H : Hp} {p : (Bool × Int) × Hp} (h : r53 app a0 a1 H = some p) : CallSim Try.prog 53 [.int .i64 a0, .sl a1] H (.tup [.bool p.1.1, .int .i64 p.1.2]) p.2 := by
  refine callSim (fn := Try.f53) (ret := ret53) Try.func53 rfl Try.ntmps53 rfl ?_ h
  unfold r53
  refine f_seq ?_
  refine f_region ?_
  refine f_op rfl rfl (s_as (v := .bool false) rfl) ?_
  refine f_op rfl rfl (s_as (v := .int .i64 0) rfl) ?_
  refine f_nil ?_
  refine f_seq ?_
  refine f_seq ?_
  refine f_region ?_
  refine f_op rfl rfl (s_mv (v := .int .i64 a0) rfl) ?_
  refine o_bind ?_; intro p1 hp1
  refine f_op rfl rfl (s_callF rfl ok88 (sim88 hp1)) ?_
  refine f_op rfl rfl (s_not rfl) ?_
  refine f_nil ?_
  refine f_if (fun h2 => ?_) (fun h2 => ?_)
  · skip
    refine f_know 8 rfl (bool_notT h2) ?_
    refine f_condF rfl ?_
    refine f_skip ?_
    refine f_seq ?_
    refine f_region ?_
    refine f_op rfl rfl (s_mv (v := .int .i64 a0) rfl) ?_
    refine f_op rfl rfl (s_mv (v := .sl a1) rfl) ?_
    refine o_bind ?_; intro p3 hp3
    refine f_op rfl rfl (s_callF rfl ok89 (sim89 happ hp3)) ?_
    refine f_op rfl rfl (s_as (v := .bool p3.1) rfl) ?_
    refine f_op rfl rfl (s_as (v := .int .i64 0) rfl) ?_
    refine f_nil ?_
    exact f_ret (.tmp rfl (.tmp rfl (.nil))) rfl
  · skip
    refine f_know 8 rfl (bool_notF h2) ?_
    refine f_condT rfl ?_
    refine f_seq ?_
    refine f_region ?_
    refine f_op rfl rfl (s_as (v := .bool false) rfl) ?_
    refine f_op rfl rfl (s_as (v := .int .i64 2) rfl) ?_
    refine f_nil ?_
    exact f_ret (.tmp rfl (.tmp rfl (.nil))) rfl

/- 56 congou/pairs.Threes -/
theorem ok56 : FnOk Try.prog 56 := ⟨⟨Try.f56, Try.func56, by kernel_rfl, rfl⟩⟩
theorem sim56 {app : App} (happ : AppSim Try.prog app) {a0 : Int} {H : Hp} {p : (Sl × Int) × Hp} (h : r56 app a0 H = some p) : CallSim Try.prog 56 [.int .i64 a0] H (.tup [.sl p.1.1, .int .i64 p.1.2]) p.2 := by
  refine callSim (fn := Try.f56) (ret := ret56) Try.func56 rfl Try.ntmps56 rfl ?_ h
  unfold r56
  refine f_seq ?_
  refine f_region ?_
  refine f_op rfl rfl (s_box1 (v := .int .i64 a0) rfl rfl) ?_
  refine f_op rfl rfl (s_as (v := .sl ⟨true, 0, 0, 0, 0, 0⟩) rfl) ?_
  refine f_op rfl rfl (s_as (v := .int .i64 0) rfl) ?_
  refine o_hp ?_; intro H1 hH1
  refine f_nil ?_
  refine f_seq ?_
  refine f_seq ?_
  refine f_region ?_
  refine o_bind ?_; intro x2 hx2
  refine f_op rfl rfl (s_load Try.underlying3 rfl rfl (ldI_eq hx2)) ?_
  refine o_bind ?_; intro p3 hp3
  refine f_op rfl rfl (s_callF rfl ok88 (sim88 hp3)) ?_
  refine f_op rfl rfl (s_not rfl) ?_
  refine f_nil ?_
  refine f_if (fun h4 => ?_) (fun h4 => ?_)
  · skip
    refine f_know 9 rfl (bool_notT h4) ?_
    refine f_condF rfl ?_
    refine f_skip ?_
    refine f_seq ?_
    refine f_region ?_
    refine f_op rfl rfl (s_makeMap (.arr 2 .i64) rfl) ?_
    refine f_op rfl rfl (s_alloc (zs := [.nilmap]) ty100 rfl rfl) ?_
    refine o_bind ?_; intro H5 hH5
    refine f_op rfl rfl (s_store (s := 1) ty100 rfl rfl rfl hH5) ?_
    refine f_nil ?_
    refine f_seq ?_
    refine f_region ?_
    refine f_op rfl rfl (s_alloc (zs := [.sl ⟨true, 0, 0, 0, 0, 0⟩]) ty58 rfl rfl) ?_
    refine o_hp ?_; intro H6 hH6
    refine f_nil ?_
    refine f_seq ?_
    refine f_region ?_
    refine f_op rfl rfl (s_alloc (zs := [.nilfn]) ty29 rfl rfl) ?_
    refine o_hp ?_; intro H7 hH7
    refine f_nil ?_
    refine f_seq ?_
    refine f_region ?_
    refine f_op rfl rfl (s_makeFunc rfl rfl) ?_
    refine o_bind ?_; intro H8 hH8
    refine f_op rfl rfl (s_store (s := 1) ty29 rfl rfl rfl hH8) ?_
    refine f_nil ?_
    refine f_seq ?_
    refine f_seq ?_
    refine f_region ?_
    refine o_bind ?_; intro x9 hx9
    refine f_op rfl rfl (s_load Try.underlying29 rfl rfl (ldV_eq hx9)) ?_
    refine o_bind ?_; intro p10 hp10
    refine o_bind ?_; intro x11 hx11
    refine f_op rfl rfl (s_callv happ rfl rfl hp10) ?_
    refine o_know 13 rfl (asB_eq hx11) ?_
    refine f_op rfl rfl (s_not rfl) ?_
    refine f_nil ?_
    refine f_if (fun h12 => ?_) (fun h12 => ?_)
    · skip
      refine f_know 14 rfl (bool_notT h12) ?_
      refine f_condF rfl ?_
      refine f_skip ?_
      refine f_seq ?_
      refine f_region ?_
      refine o_bind ?_; intro x13 hx13
      refine f_op rfl rfl (s_load Try.underlying58 rfl rfl (ldSl_eq hx13)) ?_
      refine f_op rfl rfl (s_as (v := .sl x13) rfl) ?_
      refine f_op rfl rfl (s_as (v := .int .i64 0) rfl) ?_
      refine f_nil ?_
      exact f_ret (.tmp rfl (.tmp rfl (.nil))) rfl
    · skip
      refine f_know 14 rfl (bool_notF h12) ?_
      refine f_condT rfl ?_
      refine f_seq ?_
      refine f_region ?_
      refine f_op rfl rfl (s_as (v := .sl ⟨true, 0, 0, 0, 0, 0⟩) rfl) ?_
      refine f_op rfl rfl (s_as (v := .int .i64 4) rfl) ?_
      refine f_nil ?_
      exact f_ret (.tmp rfl (.tmp rfl (.nil))) rfl
  · skip
    refine f_know 9 rfl (bool_notF h4) ?_
    refine f_condT rfl ?_
    refine f_seq ?_
    refine f_region ?_
    refine f_op rfl rfl (s_as (v := .sl ⟨true, 0, 0, 0, 0, 0⟩) rfl) ?_
    refine f_op rfl rfl (s_as (v := .int .i64 2) rfl) ?_
    refine f_nil ?_
    exact f_ret (.tmp rfl (.tmp rfl (.nil))) rfl

/- 61 slices.Delete[[][3]int,[3]int] -/
theorem ok61 : FnOk Try.prog 61 := ⟨⟨Try.f61, Try.func61, by kernel_rfl, rfl⟩⟩
theorem sim61 {a0 : Sl} {a1 : Int} {a2 : Int} {H : Hp} {p : Sl × Hp} (h : r61 a0 a1 a2 H = some p) : CallSim Try.prog 61 [.sl a0, .int .i64 a1, .int .i64 a2] H (.sl p.1) p.2 := by
  refine callSim (fn := Try.f61) (ret := ret61) Try.func61 rfl Try.ntmps61 rfl ?_ h
  unfold r61
  refine f_seq ?_
  refine f_region ?_
  refine f_op rfl rfl (s_as (v := .sl ⟨true, 0, 0, 0, 0, 0⟩) rfl) ?_
  refine f_nil ?_
  refine f_seq ?_
  refine f_region ?_
  refine f_op rfl rfl (s_mv (v := .sl a0) rfl) ?_
  refine f_op rfl rfl (s_mv (v := .int .i64 a1) rfl) ?_
  refine f_op rfl rfl (s_mv (v := .int .i64 a2) rfl) ?_
  refine f_op rfl rfl (s_mv (v := .sl a0) rfl) ?_
  refine f_op rfl rfl (s_lenS rfl Try.underlying58 rfl) ?_
  refine o_ck fun g1 => ?_
  refine f_op rfl rfl (s_slice3 Try.underlying58 ty63 rfl rfl rfl rfl g1) ?_
  refine f_nil ?_
  refine f_seq ?_
  refine f_seq ?_
  refine f_region ?_
  refine f_op rfl rfl (s_mv (v := .int .i64 a1) rfl) ?_
  refine f_op rfl rfl (s_mv (v := .int .i64 a2) rfl) ?_
  refine f_op rfl rfl (s_eql rfl rfl) ?_
  refine f_nil ?_
  refine f_if (fun h2 => ?_) (fun h2 => ?_)
  · skip
    refine f_know 16 rfl (dec_true h2) ?_
    refine f_condT rfl ?_
    refine f_seq ?_
    refine f_region ?_
    refine f_op rfl rfl (s_mv (v := .sl a0) rfl) ?_
    refine f_op rfl rfl (s_as (v := .sl a0) rfl) ?_
    refine f_nil ?_
    exact f_ret (.tmp rfl (.nil)) rfl
  · skip
    refine f_know 16 rfl (dec_false h2) ?_
    refine f_condF rfl ?_
    refine f_skip ?_
    refine f_seq ?_
    refine f_region ?_
    refine f_op rfl rfl (s_mv (v := .sl a0) rfl) ?_
    refine f_op rfl rfl (s_lenS rfl Try.underlying58 rfl) ?_
    refine f_op rfl rfl (s_as (v := .int .i64 (a0.len : Int)) rfl) ?_
    refine f_nil ?_
    refine f_seq ?_
    refine f_ck fun g3 => ?_
    refine f_ck fun g4 => ?_
    refine f_bind ?_; intro x5 hx5
    refine f_ck fun g6 => ?_
    refine f_bind ?_; intro x7 hx7
    refine f_draw (Φ := fun _ => True) [0, 0, 0, 0, 0, 0, 2, 0] (Trc.pure rfl rfl rfl (fun _ _ => s_mv (v := .sl a0) rfl) (Trc.pure rfl rfl rfl (fun _ _ => s_mv (v := .int .i64 a1) rfl) (Trc.pure rfl rfl rfl (fun _ _ => s_slice Try.underlying58 ty63 rfl rfl rfl g3.1 g3.2) (Trc.pure rfl rfl rfl (fun _ _ => s_mv (v := .sl a0) rfl) (Trc.pure rfl rfl rfl (fun _ _ => s_mv (v := .int .i64 a2) rfl) (Trc.pure rfl rfl rfl (fun _ _ => s_slice Try.underlying58 ty63 rfl rfl rfl g4.1 g4.2) (Trc.eff rfl rfl rfl (trivial) (s_append rfl rfl Try.underlying58 Try.underlying58 ty63 (by decide) rfl (by decide) rfl rfl hx5 g6 hx7) (Trc.pure rfl rfl rfl (fun _ _ => s_as (v := .sl x7.1) rfl) (Trc.nil (trivial)))))))))) rfl (by decide +kernel) mixed ?_
    refine f_seq ?_
    refine f_region ?_
    refine f_op rfl rfl (s_mv (v := .sl x7.1) rfl) ?_
    refine f_op rfl rfl (s_mv (v := .sl x7.1) rfl) ?_
    refine f_op rfl rfl (s_lenS rfl Try.underlying58 rfl) ?_
    refine f_op rfl rfl (s_mv (v := .int .i64 (a0.len : Int)) rfl) ?_
    refine o_ck fun g8 => ?_
    refine f_op rfl rfl (s_slice Try.underlying58 ty63 rfl rfl rfl g8.1 g8.2) ?_
    refine o_bind ?_; intro H9 hH9
    refine f_op rfl rfl (s_clear rfl Try.underlying58 ty63 rfl rfl rfl hH9 (by decide) rfl) ?_
    refine f_nil ?_
    refine f_seq ?_
    refine f_region ?_
    refine f_op rfl rfl (s_mv (v := .sl x7.1) rfl) ?_
    refine f_op rfl rfl (s_as (v := .sl x7.1) rfl) ?_
    refine f_nil ?_
    exact f_ret (.tmp rfl (.nil)) rfl

end Go.Lt.P8
