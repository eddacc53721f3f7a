/- PRINTED BY A PROGRAM OF OURS: what each function that 'ChestNobody' reaches computes on the abstract heap, and that the translated code does just that. Nothing is asked of the input. -/
import Derived.Test.YtnigfapfghgmnaaGreatDoorG8P4
set_option linter.unusedVariables false
set_option linter.unusedSimpArgs false
set_option maxRecDepth 100000
set_option maxHeartbeats 4000000
namespace Go.Lt.P10
open Go Go.Lt Go.Proofs
/- 8 congou/congoulaw10.ChestNobody -/
theorem ok8 : FnOk Tryz.prog 8 := ⟨⟨Tryz.f8, Tryz.func8, by kernel_rfl, rfl⟩⟩
theorem s8_j1 {app : App} (happ : AppSim Tryz.prog app) (kt0 : ByteArray → Int → Int → Sl → Int → Int → Hp → Option (Bool × Hp)) (hkt0 : ∀ (v1 : ByteArray) (v2 : Int) (v3 : Int) (v4 : Sl) (v5 : Int) (v6 : Int) (H : Hp), Fin Tryz.prog Tryz.f8 ret8 118 (todoAt (bodyOf Tryz.f8) [1, 0, 1, 0, 0] []) [(0, .str v1), (1, .int .i64 v2), (2, .int .i64 v3), (19, .sl v4), (20, .int .i64 v5), (21, .int .i64 v6)] H (kt0 v1 v2 v3 v4 v5 v6 H)) (v1 : ByteArray) (v2 : Int) (v3 : Int) (v4 : Sl) (v5 : Int) (v6 : Int) (v7 : Bool) (H : Hp) : Fin Tryz.prog Tryz.f8 ret8 118 (todoAt (bodyOf Tryz.f8) [1, 0, 1, 0, 0, 1, 1, 0, 0, 1, 1, 1, 1, 1, 1] []) [(0, .str v1), (1, .int .i64 v2), (2, .int .i64 v3), (19, .sl v4), (20, .int .i64 v5), (21, .int .i64 v6), (115, .bool v7)] H (r8_j1 app kt0 v1 v2 v3 v4 v5 v6 v7 H) := by
  unfold r8_j1
  refine f_if (fun h1 => ?_) (fun h1 => ?_)
  · skip
    refine f_know 115 rfl (bool_T h1) ?_
    refine f_condT rfl ?_
    refine f_seq ?_
    refine f_region ?_
    refine f_op rfl rfl (s_as (v := .bool false) rfl) ?_
    refine f_nil ?_
    exact f_ret (.tmp rfl (.nil)) rfl
  · skip
    refine f_know 115 rfl (bool_F h1) ?_
    refine f_condF rfl ?_
    refine f_skip ?_
    refine f_inBlock ?_
    refine f_region ?_
    refine f_op rfl rfl (s_add rfl rfl) ?_
    refine f_op rfl rfl (s_mv (v := .int .i64 (w64 (v6 + 1))) rfl) ?_
    refine f_nil ?_
    refine f_inLoop ?_
    refine f_keep [0, 1, 2, 19, 20, 21] ?_
    exact hkt0 v1 v2 v3 v4 v5 (w64 (v6 + 1)) H

theorem s8_l0 {app : App} (happ : AppSim Tryz.prog app) : ∀ (k_ : Nat) (v1 : ByteArray) (v2 : Int) (v3 : Int) (v4 : Sl) (v5 : Int) (v6 : Int) (H : Hp), Fin Tryz.prog Tryz.f8 ret8 118 (todoAt (bodyOf Tryz.f8) [1, 0, 1, 0, 0] []) [(0, .str v1), (1, .int .i64 v2), (2, .int .i64 v3), (19, .sl v4), (20, .int .i64 v5), (21, .int .i64 v6)] H (r8_l0 app k_ v1 v2 v3 v4 v5 v6 H) := by
  intro k_
  induction k_ with
  | zero => intro _ _ _ _ _ _ _; exact f_none
  | succ k_ ih =>
    intro v1 v2 v3 v4 v5 v6 H
    rw [r8_l0]
    refine f_seq ?_
    refine f_region ?_
    refine f_op rfl rfl (s_lss rfl rfl) ?_
    refine f_nil ?_
    refine f_seq ?_
    refine f_if (fun h1 => ?_) (fun h1 => ?_)
    · skip
      refine f_know 22 rfl (dec_true h1) ?_
      refine f_condT rfl ?_
      refine f_skip ?_
      refine f_seq ?_
      refine f_block ?_
      refine f_seq ?_
      refine f_region ?_
      refine o_ck fun g2 => ?_
      refine f_op rfl rfl (s_idx Tryz.underlying57 ty23 rfl rfl g2) ?_
      refine o_bind ?_; intro x3 hx3
      refine f_op rfl rfl (s_load Tryz.underlying23 rfl rfl (ldV_eq hx3)) ?_
      refine f_op rfl rfl (s_as (v := x3) rfl) ?_
      refine f_nil ?_
      refine f_seq ?_
      refine f_region ?_
      refine f_op rfl rfl (s_mv (v := x3) rfl) ?_
      refine f_op rfl rfl (s_mv (v := .str v1) rfl) ?_
      refine o_bind ?_; intro p4 hp4
      refine f_op rfl rfl (s_callF rfl ok18 (sim18 happ hp4)) ?_
      refine f_op rfl rfl (s_mv (v := .tup [.str p4.1.1, .int .i64 p4.1.2]) rfl) ?_
      refine f_op rfl rfl (s_extract (r := .str p4.1.1) rfl rfl) ?_
      refine f_op rfl rfl (s_extract (r := .int .i64 p4.1.2) rfl rfl) ?_
      refine f_op rfl rfl (s_as (v := .str p4.1.1) rfl) ?_
      refine f_op rfl rfl (s_as (v := .int .i64 p4.1.2) rfl) ?_
      refine f_nil ?_
      refine f_seq ?_
      refine f_region ?_
      refine f_op rfl rfl (s_mv (v := x3) rfl) ?_
      refine f_op rfl rfl (s_mv (v := .str v1) rfl) ?_
      refine o_bind ?_; intro p5 hp5
      refine f_op rfl rfl (s_callF rfl ok27 (sim27 happ hp5)) ?_
      refine f_op rfl rfl (s_mv (v := .tup [.str p5.1.1, .int .i64 p5.1.2]) rfl) ?_
      refine f_op rfl rfl (s_extract (r := .str p5.1.1) rfl rfl) ?_
      refine f_op rfl rfl (s_extract (r := .int .i64 p5.1.2) rfl rfl) ?_
      refine f_op rfl rfl (s_as (v := .str p5.1.1) rfl) ?_
      refine f_op rfl rfl (s_as (v := .int .i64 p5.1.2) rfl) ?_
      refine f_nil ?_
      refine f_seq ?_
      refine f_region ?_
      refine f_op rfl rfl (s_mv (v := x3) rfl) ?_
      refine f_op rfl rfl (s_mv (v := .int .i64 v2) rfl) ?_
      refine f_op rfl rfl (s_mv (v := .int .i64 v3) rfl) ?_
      refine o_bind ?_; intro p6 hp6
      refine f_op rfl rfl (s_callF rfl ok11 (sim11 hp6)) ?_
      refine f_op rfl rfl (s_mv (v := .tup [.int .i64 p6.1.1, .int .i64 p6.1.2]) rfl) ?_
      refine f_op rfl rfl (s_extract (r := .int .i64 p6.1.1) rfl rfl) ?_
      refine f_op rfl rfl (s_extract (r := .int .i64 p6.1.2) rfl rfl) ?_
      refine f_op rfl rfl (s_as (v := .int .i64 p6.1.1) rfl) ?_
      refine f_op rfl rfl (s_as (v := .int .i64 p6.1.2) rfl) ?_
      refine f_nil ?_
      refine f_seq ?_
      refine f_region ?_
      refine f_op rfl rfl (s_mv (v := x3) rfl) ?_
      refine f_op rfl rfl (s_mv (v := .int .i64 v2) rfl) ?_
      refine o_bind ?_; intro p7 hp7
      refine f_op rfl rfl (s_callF rfl ok25 (sim25 happ hp7)) ?_
      refine f_op rfl rfl (s_mv (v := .tup [.int .i64 p7.1.1, .int .i64 p7.1.2]) rfl) ?_
      refine f_op rfl rfl (s_extract (r := .int .i64 p7.1.1) rfl rfl) ?_
      refine f_op rfl rfl (s_extract (r := .int .i64 p7.1.2) rfl rfl) ?_
      refine f_op rfl rfl (s_as (v := .int .i64 p7.1.1) rfl) ?_
      refine f_op rfl rfl (s_as (v := .int .i64 p7.1.2) rfl) ?_
      refine f_nil ?_
      refine f_seq ?_
      refine f_region ?_
      refine f_op rfl rfl (s_mv (v := .str p4.1.1) rfl) ?_
      refine f_op rfl rfl (s_neStr rfl rfl) ?_
      refine f_op rfl rfl (s_mv (v := .bool (!(strEq p4.1.1 (ByteArray.mk #[])))) rfl) ?_
      refine o_if (fun h8 => ?_) (fun h8 => ?_)
      · skip
        refine o_know 52 rfl (bool_notT h8) ?_
        refine f_op rfl rfl (s_mv (v := .str p5.1.1) rfl) ?_
        refine f_op rfl rfl (s_neStr rfl rfl) ?_
        refine f_op rfl rfl (s_pickF (v := .bool (!(strEq p5.1.1 (ByteArray.mk #[])))) rfl rfl) ?_
        refine f_op rfl rfl (s_mv (v := .bool (!(strEq p5.1.1 (ByteArray.mk #[])))) rfl) ?_
        refine o_if (fun h9 => ?_) (fun h9 => ?_)
        · skip
          refine o_know 56 rfl (bool_notT h9) ?_
          refine f_op rfl rfl (s_mv (v := .int .i64 p6.1.1) rfl) ?_
          refine f_op rfl rfl (s_neq rfl rfl) ?_
          refine f_op rfl rfl (s_pickF (v := .bool (decide (p6.1.1 ≠ 0))) rfl rfl) ?_
          refine f_op rfl rfl (s_mv (v := .bool (decide (p6.1.1 ≠ 0))) rfl) ?_
          refine o_if (fun h10 => ?_) (fun h10 => ?_)
          · skip
            refine o_know 60 rfl (dec_true h10) ?_
            refine f_no rfl rfl ?_
            refine f_no rfl rfl ?_
            refine f_op rfl rfl (s_pickT (v := .bool true) rfl rfl) ?_
            refine f_op rfl rfl (s_mv (v := .bool true) rfl) ?_
            refine f_no rfl rfl ?_
            refine f_no rfl rfl ?_
            refine f_op rfl rfl (s_pickT (v := .bool true) rfl rfl) ?_
            refine f_op rfl rfl (s_mv (v := .bool true) rfl) ?_
            refine f_no rfl rfl ?_
            refine f_no rfl rfl ?_
            refine f_op rfl rfl (s_pickT (v := .bool true) rfl rfl) ?_
            refine f_op rfl rfl (s_mv (v := .bool true) rfl) ?_
            refine f_no rfl rfl ?_
            refine f_no rfl rfl ?_
            refine f_op rfl rfl (s_pickT (v := .bool true) rfl rfl) ?_
            refine f_op rfl rfl (s_mv (v := .bool true) rfl) ?_
            refine f_no rfl rfl ?_
            refine f_no rfl rfl ?_
            refine f_op rfl rfl (s_pickT (v := .bool true) rfl rfl) ?_
            refine f_op rfl rfl (s_mv (v := .bool true) rfl) ?_
            refine f_no rfl rfl ?_
            refine f_no rfl rfl ?_
            refine f_no rfl rfl ?_
            refine f_no rfl rfl ?_
            refine f_op rfl rfl (s_pickT (v := .bool true) rfl rfl) ?_
            refine f_op rfl rfl (s_mv (v := .bool true) rfl) ?_
            refine f_no rfl rfl ?_
            refine f_no rfl rfl ?_
            refine f_no rfl rfl ?_
            refine f_no rfl rfl ?_
            refine f_op rfl rfl (s_pickT (v := .bool true) rfl rfl) ?_
            refine f_op rfl rfl (s_mv (v := .bool true) rfl) ?_
            refine f_no rfl rfl ?_
            refine f_no rfl rfl ?_
            refine f_no rfl rfl ?_
            refine f_op rfl rfl (s_pickT (v := .bool true) rfl rfl) ?_
            refine f_op rfl rfl (s_mv (v := .bool true) rfl) ?_
            refine f_no rfl rfl ?_
            refine f_no rfl rfl ?_
            refine f_no rfl rfl ?_
            refine f_no rfl rfl ?_
            refine f_no rfl rfl ?_
            refine f_no rfl rfl ?_
            refine f_no rfl rfl ?_
            refine f_no rfl rfl ?_
            refine f_no rfl rfl ?_
            refine f_no rfl rfl ?_
            refine f_no rfl rfl ?_
            refine f_no rfl rfl ?_
            refine f_op rfl rfl (s_pickT (v := .bool true) rfl rfl) ?_
            refine f_op rfl rfl (s_mv (v := .bool true) rfl) ?_
            refine f_no rfl rfl ?_
            refine f_no rfl rfl ?_
            refine f_no rfl rfl ?_
            refine f_op rfl rfl (s_pickT (v := .bool true) rfl rfl) ?_
            refine f_nil ?_
            refine f_keep [0, 1, 2, 19, 20, 21, 115] ?_
            exact s8_j1 happ _ (fun v1_ v2_ v3_ v4_ v5_ v6_ H_ => ih v1_ v2_ v3_ v4_ v5_ v6_ H_) v1 v2 v3 v4 v5 v6 true p7.2
          · skip
            refine o_know 60 rfl (dec_false h10) ?_
            refine f_op rfl rfl (s_mv (v := .int .i64 p7.1.1) rfl) ?_
            refine f_op rfl rfl (s_neq rfl rfl) ?_
            refine f_op rfl rfl (s_pickF (v := .bool (decide (p7.1.1 ≠ 0))) rfl rfl) ?_
            refine f_op rfl rfl (s_mv (v := .bool (decide (p7.1.1 ≠ 0))) rfl) ?_
            refine o_if (fun h11 => ?_) (fun h11 => ?_)
            · skip
              refine o_know 64 rfl (dec_true h11) ?_
              refine f_no rfl rfl ?_
              refine f_no rfl rfl ?_
              refine f_op rfl rfl (s_pickT (v := .bool true) rfl rfl) ?_
              refine f_op rfl rfl (s_mv (v := .bool true) rfl) ?_
              refine f_no rfl rfl ?_
              refine f_no rfl rfl ?_
              refine f_op rfl rfl (s_pickT (v := .bool true) rfl rfl) ?_
              refine f_op rfl rfl (s_mv (v := .bool true) rfl) ?_
              refine f_no rfl rfl ?_
              refine f_no rfl rfl ?_
              refine f_op rfl rfl (s_pickT (v := .bool true) rfl rfl) ?_
              refine f_op rfl rfl (s_mv (v := .bool true) rfl) ?_
              refine f_no rfl rfl ?_
              refine f_no rfl rfl ?_
              refine f_op rfl rfl (s_pickT (v := .bool true) rfl rfl) ?_
              refine f_op rfl rfl (s_mv (v := .bool true) rfl) ?_
              refine f_no rfl rfl ?_
              refine f_no rfl rfl ?_
              refine f_no rfl rfl ?_
              refine f_no rfl rfl ?_
              refine f_op rfl rfl (s_pickT (v := .bool true) rfl rfl) ?_
              refine f_op rfl rfl (s_mv (v := .bool true) rfl) ?_
              refine f_no rfl rfl ?_
              refine f_no rfl rfl ?_
              refine f_no rfl rfl ?_
              refine f_no rfl rfl ?_
              refine f_op rfl rfl (s_pickT (v := .bool true) rfl rfl) ?_
              refine f_op rfl rfl (s_mv (v := .bool true) rfl) ?_
              refine f_no rfl rfl ?_
              refine f_no rfl rfl ?_
              refine f_no rfl rfl ?_
              refine f_op rfl rfl (s_pickT (v := .bool true) rfl rfl) ?_
              refine f_op rfl rfl (s_mv (v := .bool true) rfl) ?_
              refine f_no rfl rfl ?_
              refine f_no rfl rfl ?_
              refine f_no rfl rfl ?_
              refine f_no rfl rfl ?_
              refine f_no rfl rfl ?_
              refine f_no rfl rfl ?_
              refine f_no rfl rfl ?_
              refine f_no rfl rfl ?_
              refine f_no rfl rfl ?_
              refine f_no rfl rfl ?_
              refine f_no rfl rfl ?_
              refine f_no rfl rfl ?_
              refine f_op rfl rfl (s_pickT (v := .bool true) rfl rfl) ?_
              refine f_op rfl rfl (s_mv (v := .bool true) rfl) ?_
              refine f_no rfl rfl ?_
              refine f_no rfl rfl ?_
              refine f_no rfl rfl ?_
              refine f_op rfl rfl (s_pickT (v := .bool true) rfl rfl) ?_
              refine f_nil ?_
              refine f_keep [0, 1, 2, 19, 20, 21, 115] ?_
              exact s8_j1 happ _ (fun v1_ v2_ v3_ v4_ v5_ v6_ H_ => ih v1_ v2_ v3_ v4_ v5_ v6_ H_) v1 v2 v3 v4 v5 v6 true p7.2
            · skip
              refine o_know 64 rfl (dec_false h11) ?_
              refine f_op rfl rfl (s_mv (v := .int .i64 p4.1.2) rfl) ?_
              refine f_op rfl rfl (s_neq rfl rfl) ?_
              refine f_op rfl rfl (s_pickF (v := .bool (decide (p4.1.2 ≠ 1))) rfl rfl) ?_
              refine f_op rfl rfl (s_mv (v := .bool (decide (p4.1.2 ≠ 1))) rfl) ?_
              refine o_if (fun h12 => ?_) (fun h12 => ?_)
              · skip
                refine o_know 68 rfl (dec_true h12) ?_
                refine f_no rfl rfl ?_
                refine f_no rfl rfl ?_
                refine f_op rfl rfl (s_pickT (v := .bool true) rfl rfl) ?_
                refine f_op rfl rfl (s_mv (v := .bool true) rfl) ?_
                refine f_no rfl rfl ?_
                refine f_no rfl rfl ?_
                refine f_op rfl rfl (s_pickT (v := .bool true) rfl rfl) ?_
                refine f_op rfl rfl (s_mv (v := .bool true) rfl) ?_
                refine f_no rfl rfl ?_
                refine f_no rfl rfl ?_
                refine f_op rfl rfl (s_pickT (v := .bool true) rfl rfl) ?_
                refine f_op rfl rfl (s_mv (v := .bool true) rfl) ?_
                refine f_no rfl rfl ?_
                refine f_no rfl rfl ?_
                refine f_no rfl rfl ?_
                refine f_no rfl rfl ?_
                refine f_op rfl rfl (s_pickT (v := .bool true) rfl rfl) ?_
                refine f_op rfl rfl (s_mv (v := .bool true) rfl) ?_
                refine f_no rfl rfl ?_
                refine f_no rfl rfl ?_
                refine f_no rfl rfl ?_
                refine f_no rfl rfl ?_
                refine f_op rfl rfl (s_pickT (v := .bool true) rfl rfl) ?_
                refine f_op rfl rfl (s_mv (v := .bool true) rfl) ?_
                refine f_no rfl rfl ?_
                refine f_no rfl rfl ?_
                refine f_no rfl rfl ?_
                refine f_op rfl rfl (s_pickT (v := .bool true) rfl rfl) ?_
                refine f_op rfl rfl (s_mv (v := .bool true) rfl) ?_
                refine f_no rfl rfl ?_
                refine f_no rfl rfl ?_
                refine f_no rfl rfl ?_
                refine f_no rfl rfl ?_
                refine f_no rfl rfl ?_
                refine f_no rfl rfl ?_
                refine f_no rfl rfl ?_
                refine f_no rfl rfl ?_
                refine f_no rfl rfl ?_
                refine f_no rfl rfl ?_
                refine f_no rfl rfl ?_
                refine f_no rfl rfl ?_
                refine f_op rfl rfl (s_pickT (v := .bool true) rfl rfl) ?_
                refine f_op rfl rfl (s_mv (v := .bool true) rfl) ?_
                refine f_no rfl rfl ?_
                refine f_no rfl rfl ?_
                refine f_no rfl rfl ?_
                refine f_op rfl rfl (s_pickT (v := .bool true) rfl rfl) ?_
                refine f_nil ?_
                refine f_keep [0, 1, 2, 19, 20, 21, 115] ?_
                exact s8_j1 happ _ (fun v1_ v2_ v3_ v4_ v5_ v6_ H_ => ih v1_ v2_ v3_ v4_ v5_ v6_ H_) v1 v2 v3 v4 v5 v6 true p7.2
              · skip
                refine o_know 68 rfl (dec_false h12) ?_
                refine f_op rfl rfl (s_mv (v := .int .i64 p5.1.2) rfl) ?_
                refine f_op rfl rfl (s_neq rfl rfl) ?_
                refine f_op rfl rfl (s_pickF (v := .bool (decide (p5.1.2 ≠ 1))) rfl rfl) ?_
                refine f_op rfl rfl (s_mv (v := .bool (decide (p5.1.2 ≠ 1))) rfl) ?_
                refine o_if (fun h13 => ?_) (fun h13 => ?_)
                · skip
                  refine o_know 72 rfl (dec_true h13) ?_
                  refine f_no rfl rfl ?_
                  refine f_no rfl rfl ?_
                  refine f_op rfl rfl (s_pickT (v := .bool true) rfl rfl) ?_
                  refine f_op rfl rfl (s_mv (v := .bool true) rfl) ?_
                  refine f_no rfl rfl ?_
                  refine f_no rfl rfl ?_
                  refine f_op rfl rfl (s_pickT (v := .bool true) rfl rfl) ?_
                  refine f_op rfl rfl (s_mv (v := .bool true) rfl) ?_
                  refine f_no rfl rfl ?_
                  refine f_no rfl rfl ?_
                  refine f_no rfl rfl ?_
                  refine f_no rfl rfl ?_
                  refine f_op rfl rfl (s_pickT (v := .bool true) rfl rfl) ?_
                  refine f_op rfl rfl (s_mv (v := .bool true) rfl) ?_
                  refine f_no rfl rfl ?_
                  refine f_no rfl rfl ?_
                  refine f_no rfl rfl ?_
                  refine f_no rfl rfl ?_
                  refine f_op rfl rfl (s_pickT (v := .bool true) rfl rfl) ?_
                  refine f_op rfl rfl (s_mv (v := .bool true) rfl) ?_
                  refine f_no rfl rfl ?_
                  refine f_no rfl rfl ?_
                  refine f_no rfl rfl ?_
                  refine f_op rfl rfl (s_pickT (v := .bool true) rfl rfl) ?_
                  refine f_op rfl rfl (s_mv (v := .bool true) rfl) ?_
                  refine f_no rfl rfl ?_
                  refine f_no rfl rfl ?_
                  refine f_no rfl rfl ?_
                  refine f_no rfl rfl ?_
                  refine f_no rfl rfl ?_
                  refine f_no rfl rfl ?_
                  refine f_no rfl rfl ?_
                  refine f_no rfl rfl ?_
                  refine f_no rfl rfl ?_
                  refine f_no rfl rfl ?_
                  refine f_no rfl rfl ?_
                  refine f_no rfl rfl ?_
                  refine f_op rfl rfl (s_pickT (v := .bool true) rfl rfl) ?_
                  refine f_op rfl rfl (s_mv (v := .bool true) rfl) ?_
                  refine f_no rfl rfl ?_
                  refine f_no rfl rfl ?_
                  refine f_no rfl rfl ?_
                  refine f_op rfl rfl (s_pickT (v := .bool true) rfl rfl) ?_
                  refine f_nil ?_
                  refine f_keep [0, 1, 2, 19, 20, 21, 115] ?_
                  exact s8_j1 happ _ (fun v1_ v2_ v3_ v4_ v5_ v6_ H_ => ih v1_ v2_ v3_ v4_ v5_ v6_ H_) v1 v2 v3 v4 v5 v6 true p7.2
                · skip
                  refine o_know 72 rfl (dec_false h13) ?_
                  refine f_op rfl rfl (s_mv (v := .int .i64 p6.1.2) rfl) ?_
                  refine f_op rfl rfl (s_neq rfl rfl) ?_
                  refine f_op rfl rfl (s_pickF (v := .bool (decide (p6.1.2 ≠ 1))) rfl rfl) ?_
                  refine f_op rfl rfl (s_mv (v := .bool (decide (p6.1.2 ≠ 1))) rfl) ?_
                  refine o_if (fun h14 => ?_) (fun h14 => ?_)
                  · skip
                    refine o_know 76 rfl (dec_true h14) ?_
                    refine f_no rfl rfl ?_
                    refine f_no rfl rfl ?_
                    refine f_op rfl rfl (s_pickT (v := .bool true) rfl rfl) ?_
                    refine f_op rfl rfl (s_mv (v := .bool true) rfl) ?_
                    refine f_no rfl rfl ?_
                    refine f_no rfl rfl ?_
                    refine f_no rfl rfl ?_
                    refine f_no rfl rfl ?_
                    refine f_op rfl rfl (s_pickT (v := .bool true) rfl rfl) ?_
                    refine f_op rfl rfl (s_mv (v := .bool true) rfl) ?_
                    refine f_no rfl rfl ?_
                    refine f_no rfl rfl ?_
                    refine f_no rfl rfl ?_
                    refine f_no rfl rfl ?_
                    refine f_op rfl rfl (s_pickT (v := .bool true) rfl rfl) ?_
                    refine f_op rfl rfl (s_mv (v := .bool true) rfl) ?_
                    refine f_no rfl rfl ?_
                    refine f_no rfl rfl ?_
                    refine f_no rfl rfl ?_
                    refine f_op rfl rfl (s_pickT (v := .bool true) rfl rfl) ?_
                    refine f_op rfl rfl (s_mv (v := .bool true) rfl) ?_
                    refine f_no rfl rfl ?_
                    refine f_no rfl rfl ?_
                    refine f_no rfl rfl ?_
                    refine f_no rfl rfl ?_
                    refine f_no rfl rfl ?_
                    refine f_no rfl rfl ?_
                    refine f_no rfl rfl ?_
                    refine f_no rfl rfl ?_
                    refine f_no rfl rfl ?_
                    refine f_no rfl rfl ?_
                    refine f_no rfl rfl ?_
                    refine f_no rfl rfl ?_
                    refine f_op rfl rfl (s_pickT (v := .bool true) rfl rfl) ?_
                    refine f_op rfl rfl (s_mv (v := .bool true) rfl) ?_
                    refine f_no rfl rfl ?_
                    refine f_no rfl rfl ?_
                    refine f_no rfl rfl ?_
                    refine f_op rfl rfl (s_pickT (v := .bool true) rfl rfl) ?_
                    refine f_nil ?_
                    refine f_keep [0, 1, 2, 19, 20, 21, 115] ?_
                    exact s8_j1 happ _ (fun v1_ v2_ v3_ v4_ v5_ v6_ H_ => ih v1_ v2_ v3_ v4_ v5_ v6_ H_) v1 v2 v3 v4 v5 v6 true p7.2
                  · skip
                    refine o_know 76 rfl (dec_false h14) ?_
                    refine f_op rfl rfl (s_mv (v := .int .i64 p7.1.2) rfl) ?_
                    refine f_op rfl rfl (s_neq rfl rfl) ?_
                    refine f_op rfl rfl (s_pickF (v := .bool (decide (p7.1.2 ≠ 1))) rfl rfl) ?_
                    refine f_op rfl rfl (s_mv (v := .bool (decide (p7.1.2 ≠ 1))) rfl) ?_
                    refine o_if (fun h15 => ?_) (fun h15 => ?_)
                    · skip
                      refine o_know 80 rfl (dec_true h15) ?_
                      refine f_no rfl rfl ?_
                      refine f_no rfl rfl ?_
                      refine f_no rfl rfl ?_
                      refine f_no rfl rfl ?_
                      refine f_op rfl rfl (s_pickT (v := .bool true) rfl rfl) ?_
                      refine f_op rfl rfl (s_mv (v := .bool true) rfl) ?_
                      refine f_no rfl rfl ?_
                      refine f_no rfl rfl ?_
                      refine f_no rfl rfl ?_
                      refine f_no rfl rfl ?_
                      refine f_op rfl rfl (s_pickT (v := .bool true) rfl rfl) ?_
                      refine f_op rfl rfl (s_mv (v := .bool true) rfl) ?_
                      refine f_no rfl rfl ?_
                      refine f_no rfl rfl ?_
                      refine f_no rfl rfl ?_
                      refine f_op rfl rfl (s_pickT (v := .bool true) rfl rfl) ?_
                      refine f_op rfl rfl (s_mv (v := .bool true) rfl) ?_
                      refine f_no rfl rfl ?_
                      refine f_no rfl rfl ?_
                      refine f_no rfl rfl ?_
                      refine f_no rfl rfl ?_
                      refine f_no rfl rfl ?_
                      refine f_no rfl rfl ?_
                      refine f_no rfl rfl ?_
                      refine f_no rfl rfl ?_
                      refine f_no rfl rfl ?_
                      refine f_no rfl rfl ?_
                      refine f_no rfl rfl ?_
                      refine f_no rfl rfl ?_
                      refine f_op rfl rfl (s_pickT (v := .bool true) rfl rfl) ?_
                      refine f_op rfl rfl (s_mv (v := .bool true) rfl) ?_
                      refine f_no rfl rfl ?_
                      refine f_no rfl rfl ?_
                      refine f_no rfl rfl ?_
                      refine f_op rfl rfl (s_pickT (v := .bool true) rfl rfl) ?_
                      refine f_nil ?_
                      refine f_keep [0, 1, 2, 19, 20, 21, 115] ?_
                      exact s8_j1 happ _ (fun v1_ v2_ v3_ v4_ v5_ v6_ H_ => ih v1_ v2_ v3_ v4_ v5_ v6_ H_) v1 v2 v3 v4 v5 v6 true p7.2
                    · skip
                      refine o_know 80 rfl (dec_false h15) ?_
                      refine f_op rfl rfl (s_mv (v := x3) rfl) ?_
                      refine f_op rfl rfl (s_mv (v := .int .i64 v2) rfl) ?_
                      refine o_bind ?_; intro p16 hp16
                      refine f_op rfl rfl (s_callF rfl ok10 (sim10 hp16)) ?_
                      refine f_op rfl rfl (s_neq rfl rfl) ?_
                      refine f_op rfl rfl (s_pickF (v := .bool (decide (p16.1 ≠ 1))) rfl rfl) ?_
                      refine f_op rfl rfl (s_mv (v := .bool (decide (p16.1 ≠ 1))) rfl) ?_
                      refine o_if (fun h17 => ?_) (fun h17 => ?_)
                      · skip
                        refine o_know 86 rfl (dec_true h17) ?_
                        refine f_no rfl rfl ?_
                        refine f_no rfl rfl ?_
                        refine f_no rfl rfl ?_
                        refine f_no rfl rfl ?_
                        refine f_op rfl rfl (s_pickT (v := .bool true) rfl rfl) ?_
                        refine f_op rfl rfl (s_mv (v := .bool true) rfl) ?_
                        refine f_no rfl rfl ?_
                        refine f_no rfl rfl ?_
                        refine f_no rfl rfl ?_
                        refine f_op rfl rfl (s_pickT (v := .bool true) rfl rfl) ?_
                        refine f_op rfl rfl (s_mv (v := .bool true) rfl) ?_
                        refine f_no rfl rfl ?_
                        refine f_no rfl rfl ?_
                        refine f_no rfl rfl ?_
                        refine f_no rfl rfl ?_
                        refine f_no rfl rfl ?_
                        refine f_no rfl rfl ?_
                        refine f_no rfl rfl ?_
                        refine f_no rfl rfl ?_
                        refine f_no rfl rfl ?_
                        refine f_no rfl rfl ?_
                        refine f_no rfl rfl ?_
                        refine f_no rfl rfl ?_
                        refine f_op rfl rfl (s_pickT (v := .bool true) rfl rfl) ?_
                        refine f_op rfl rfl (s_mv (v := .bool true) rfl) ?_
                        refine f_no rfl rfl ?_
                        refine f_no rfl rfl ?_
                        refine f_no rfl rfl ?_
                        refine f_op rfl rfl (s_pickT (v := .bool true) rfl rfl) ?_
                        refine f_nil ?_
                        refine f_keep [0, 1, 2, 19, 20, 21, 115] ?_
                        exact s8_j1 happ _ (fun v1_ v2_ v3_ v4_ v5_ v6_ H_ => ih v1_ v2_ v3_ v4_ v5_ v6_ H_) v1 v2 v3 v4 v5 v6 true p16.2
                      · skip
                        refine o_know 86 rfl (dec_false h17) ?_
                        refine f_op rfl rfl (s_mv (v := x3) rfl) ?_
                        refine f_op rfl rfl (s_mv (v := .int .i64 v2) rfl) ?_
                        refine o_bind ?_; intro p18 hp18
                        refine f_op rfl rfl (s_callF rfl ok19 (sim19 hp18)) ?_
                        refine f_op rfl rfl (s_neq rfl rfl) ?_
                        refine f_op rfl rfl (s_pickF (v := .bool (decide (p18.1 ≠ 1))) rfl rfl) ?_
                        refine f_op rfl rfl (s_mv (v := .bool (decide (p18.1 ≠ 1))) rfl) ?_
                        refine o_if (fun h19 => ?_) (fun h19 => ?_)
                        · skip
                          refine o_know 92 rfl (dec_true h19) ?_
                          refine f_no rfl rfl ?_
                          refine f_no rfl rfl ?_
                          refine f_no rfl rfl ?_
                          refine f_op rfl rfl (s_pickT (v := .bool true) rfl rfl) ?_
                          refine f_op rfl rfl (s_mv (v := .bool true) rfl) ?_
                          refine f_no rfl rfl ?_
                          refine f_no rfl rfl ?_
                          refine f_no rfl rfl ?_
                          refine f_no rfl rfl ?_
                          refine f_no rfl rfl ?_
                          refine f_no rfl rfl ?_
                          refine f_no rfl rfl ?_
                          refine f_no rfl rfl ?_
                          refine f_no rfl rfl ?_
                          refine f_no rfl rfl ?_
                          refine f_no rfl rfl ?_
                          refine f_no rfl rfl ?_
                          refine f_op rfl rfl (s_pickT (v := .bool true) rfl rfl) ?_
                          refine f_op rfl rfl (s_mv (v := .bool true) rfl) ?_
                          refine f_no rfl rfl ?_
                          refine f_no rfl rfl ?_
                          refine f_no rfl rfl ?_
                          refine f_op rfl rfl (s_pickT (v := .bool true) rfl rfl) ?_
                          refine f_nil ?_
                          refine f_keep [0, 1, 2, 19, 20, 21, 115] ?_
                          exact s8_j1 happ _ (fun v1_ v2_ v3_ v4_ v5_ v6_ H_ => ih v1_ v2_ v3_ v4_ v5_ v6_ H_) v1 v2 v3 v4 v5 v6 true p18.2
                        · skip
                          refine o_know 92 rfl (dec_false h19) ?_
                          refine f_op rfl rfl (s_mv (v := x3) rfl) ?_
                          refine o_bind ?_; intro p20 hp20
                          refine f_op rfl rfl (s_callF rfl ok15 (sim15 hp20)) ?_
                          refine f_op rfl rfl (s_neq rfl rfl) ?_
                          refine f_op rfl rfl (s_pickF (v := .bool (decide (p20.1 ≠ 0))) rfl rfl) ?_
                          refine f_op rfl rfl (s_mv (v := .bool (decide (p20.1 ≠ 0))) rfl) ?_
                          refine o_if (fun h21 => ?_) (fun h21 => ?_)
                          · skip
                            refine o_know 97 rfl (dec_true h21) ?_
                            refine f_no rfl rfl ?_
                            refine f_no rfl rfl ?_
                            refine f_no rfl rfl ?_
                            refine f_no rfl rfl ?_
                            refine f_no rfl rfl ?_
                            refine f_no rfl rfl ?_
                            refine f_no rfl rfl ?_
                            refine f_no rfl rfl ?_
                            refine f_no rfl rfl ?_
                            refine f_no rfl rfl ?_
                            refine f_no rfl rfl ?_
                            refine f_no rfl rfl ?_
                            refine f_op rfl rfl (s_pickT (v := .bool true) rfl rfl) ?_
                            refine f_op rfl rfl (s_mv (v := .bool true) rfl) ?_
                            refine f_no rfl rfl ?_
                            refine f_no rfl rfl ?_
                            refine f_no rfl rfl ?_
                            refine f_op rfl rfl (s_pickT (v := .bool true) rfl rfl) ?_
                            refine f_nil ?_
                            refine f_keep [0, 1, 2, 19, 20, 21, 115] ?_
                            exact s8_j1 happ _ (fun v1_ v2_ v3_ v4_ v5_ v6_ H_ => ih v1_ v2_ v3_ v4_ v5_ v6_ H_) v1 v2 v3 v4 v5 v6 true p20.2
                          · skip
                            refine o_know 97 rfl (dec_false h21) ?_
                            refine f_op rfl rfl (s_mv (v := x3) rfl) ?_
                            refine o_bind ?_; intro p22 hp22
                            refine f_op rfl rfl (s_callF rfl ok16 (sim16 hp22)) ?_
                            refine f_op rfl rfl (s_lenS rfl Tryz.underlying38 rfl) ?_
                            refine f_op rfl rfl (s_mv (v := x3) rfl) ?_
                            refine o_bind ?_; intro p23 hp23
                            refine f_op rfl rfl (s_callF rfl ok22 (sim22 hp23)) ?_
                            refine f_op rfl rfl (s_lenS rfl Tryz.underlying30 rfl) ?_
                            refine f_op rfl rfl (s_add rfl rfl) ?_
                            refine f_op rfl rfl (s_mv (v := x3) rfl) ?_
                            refine o_bind ?_; intro p24 hp24
                            refine f_op rfl rfl (s_callF rfl ok17 (sim17 hp24)) ?_
                            refine f_op rfl rfl (s_lenS rfl Tryz.underlying40 rfl) ?_
                            refine f_op rfl rfl (s_add rfl rfl) ?_
                            refine f_op rfl rfl (s_neq rfl rfl) ?_
                            refine f_op rfl rfl (s_pickF (v := .bool (decide ((w64 ((w64 ((p22.1.len : Int) + (p23.1.len : Int))) + (p24.1.len : Int))) ≠ 0))) rfl rfl) ?_
                            refine f_op rfl rfl (s_mv (v := .bool (decide ((w64 ((w64 ((p22.1.len : Int) + (p23.1.len : Int))) + (p24.1.len : Int))) ≠ 0))) rfl) ?_
                            refine o_if (fun h25 => ?_) (fun h25 => ?_)
                            · skip
                              refine o_know 111 rfl (dec_true h25) ?_
                              refine f_no rfl rfl ?_
                              refine f_no rfl rfl ?_
                              refine f_no rfl rfl ?_
                              refine f_op rfl rfl (s_pickT (v := .bool true) rfl rfl) ?_
                              refine f_nil ?_
                              refine f_keep [0, 1, 2, 19, 20, 21, 115] ?_
                              exact s8_j1 happ _ (fun v1_ v2_ v3_ v4_ v5_ v6_ H_ => ih v1_ v2_ v3_ v4_ v5_ v6_ H_) v1 v2 v3 v4 v5 v6 true p24.2
                            · skip
                              refine o_know 111 rfl (dec_false h25) ?_
                              refine f_op rfl rfl (s_mv (v := x3) rfl) ?_
                              refine o_bind ?_; intro p26 hp26
                              refine f_op rfl rfl (s_callF rfl ok24 (sim24 hp26)) ?_
                              refine f_op rfl rfl (s_neStr rfl rfl) ?_
                              refine f_op rfl rfl (s_pickF (v := .bool (!(strEq p26.1 (ByteArray.mk #[])))) rfl rfl) ?_
                              refine f_nil ?_
                              refine f_keep [0, 1, 2, 19, 20, 21, 115] ?_
                              exact s8_j1 happ _ (fun v1_ v2_ v3_ v4_ v5_ v6_ H_ => ih v1_ v2_ v3_ v4_ v5_ v6_ H_) v1 v2 v3 v4 v5 v6 (!(strEq p26.1 (ByteArray.mk #[]))) p26.2
        · skip
          refine o_know 56 rfl (bool_notF h9) ?_
          refine f_no rfl rfl ?_
          refine f_no rfl rfl ?_
          refine f_op rfl rfl (s_pickT (v := .bool true) rfl rfl) ?_
          refine f_op rfl rfl (s_mv (v := .bool true) rfl) ?_
          refine f_no rfl rfl ?_
          refine f_no rfl rfl ?_
          refine f_op rfl rfl (s_pickT (v := .bool true) rfl rfl) ?_
          refine f_op rfl rfl (s_mv (v := .bool true) rfl) ?_
          refine f_no rfl rfl ?_
          refine f_no rfl rfl ?_
          refine f_op rfl rfl (s_pickT (v := .bool true) rfl rfl) ?_
          refine f_op rfl rfl (s_mv (v := .bool true) rfl) ?_
          refine f_no rfl rfl ?_
          refine f_no rfl rfl ?_
          refine f_op rfl rfl (s_pickT (v := .bool true) rfl rfl) ?_
          refine f_op rfl rfl (s_mv (v := .bool true) rfl) ?_
          refine f_no rfl rfl ?_
          refine f_no rfl rfl ?_
          refine f_op rfl rfl (s_pickT (v := .bool true) rfl rfl) ?_
          refine f_op rfl rfl (s_mv (v := .bool true) rfl) ?_
          refine f_no rfl rfl ?_
          refine f_no rfl rfl ?_
          refine f_op rfl rfl (s_pickT (v := .bool true) rfl rfl) ?_
          refine f_op rfl rfl (s_mv (v := .bool true) rfl) ?_
          refine f_no rfl rfl ?_
          refine f_no rfl rfl ?_
          refine f_no rfl rfl ?_
          refine f_no rfl rfl ?_
          refine f_op rfl rfl (s_pickT (v := .bool true) rfl rfl) ?_
          refine f_op rfl rfl (s_mv (v := .bool true) rfl) ?_
          refine f_no rfl rfl ?_
          refine f_no rfl rfl ?_
          refine f_no rfl rfl ?_
          refine f_no rfl rfl ?_
          refine f_op rfl rfl (s_pickT (v := .bool true) rfl rfl) ?_
          refine f_op rfl rfl (s_mv (v := .bool true) rfl) ?_
          refine f_no rfl rfl ?_
          refine f_no rfl rfl ?_
          refine f_no rfl rfl ?_
          refine f_op rfl rfl (s_pickT (v := .bool true) rfl rfl) ?_
          refine f_op rfl rfl (s_mv (v := .bool true) rfl) ?_
          refine f_no rfl rfl ?_
          refine f_no rfl rfl ?_
          refine f_no rfl rfl ?_
          refine f_no rfl rfl ?_
          refine f_no rfl rfl ?_
          refine f_no rfl rfl ?_
          refine f_no rfl rfl ?_
          refine f_no rfl rfl ?_
          refine f_no rfl rfl ?_
          refine f_no rfl rfl ?_
          refine f_no rfl rfl ?_
          refine f_no rfl rfl ?_
          refine f_op rfl rfl (s_pickT (v := .bool true) rfl rfl) ?_
          refine f_op rfl rfl (s_mv (v := .bool true) rfl) ?_
          refine f_no rfl rfl ?_
          refine f_no rfl rfl ?_
          refine f_no rfl rfl ?_
          refine f_op rfl rfl (s_pickT (v := .bool true) rfl rfl) ?_
          refine f_nil ?_
          refine f_keep [0, 1, 2, 19, 20, 21, 115] ?_
          exact s8_j1 happ _ (fun v1_ v2_ v3_ v4_ v5_ v6_ H_ => ih v1_ v2_ v3_ v4_ v5_ v6_ H_) v1 v2 v3 v4 v5 v6 true p7.2
      · skip
        refine o_know 52 rfl (bool_notF h8) ?_
        refine f_no rfl rfl ?_
        refine f_no rfl rfl ?_
        refine f_op rfl rfl (s_pickT (v := .bool true) rfl rfl) ?_
        refine f_op rfl rfl (s_mv (v := .bool true) rfl) ?_
        refine f_no rfl rfl ?_
        refine f_no rfl rfl ?_
        refine f_op rfl rfl (s_pickT (v := .bool true) rfl rfl) ?_
        refine f_op rfl rfl (s_mv (v := .bool true) rfl) ?_
        refine f_no rfl rfl ?_
        refine f_no rfl rfl ?_
        refine f_op rfl rfl (s_pickT (v := .bool true) rfl rfl) ?_
        refine f_op rfl rfl (s_mv (v := .bool true) rfl) ?_
        refine f_no rfl rfl ?_
        refine f_no rfl rfl ?_
        refine f_op rfl rfl (s_pickT (v := .bool true) rfl rfl) ?_
        refine f_op rfl rfl (s_mv (v := .bool true) rfl) ?_
        refine f_no rfl rfl ?_
        refine f_no rfl rfl ?_
        refine f_op rfl rfl (s_pickT (v := .bool true) rfl rfl) ?_
        refine f_op rfl rfl (s_mv (v := .bool true) rfl) ?_
        refine f_no rfl rfl ?_
        refine f_no rfl rfl ?_
        refine f_op rfl rfl (s_pickT (v := .bool true) rfl rfl) ?_
        refine f_op rfl rfl (s_mv (v := .bool true) rfl) ?_
        refine f_no rfl rfl ?_
        refine f_no rfl rfl ?_
        refine f_op rfl rfl (s_pickT (v := .bool true) rfl rfl) ?_
        refine f_op rfl rfl (s_mv (v := .bool true) rfl) ?_
        refine f_no rfl rfl ?_
        refine f_no rfl rfl ?_
        refine f_no rfl rfl ?_
        refine f_no rfl rfl ?_
        refine f_op rfl rfl (s_pickT (v := .bool true) rfl rfl) ?_
        refine f_op rfl rfl (s_mv (v := .bool true) rfl) ?_
        refine f_no rfl rfl ?_
        refine f_no rfl rfl ?_
        refine f_no rfl rfl ?_
        refine f_no rfl rfl ?_
        refine f_op rfl rfl (s_pickT (v := .bool true) rfl rfl) ?_
        refine f_op rfl rfl (s_mv (v := .bool true) rfl) ?_
        refine f_no rfl rfl ?_
        refine f_no rfl rfl ?_
        refine f_no rfl rfl ?_
        refine f_op rfl rfl (s_pickT (v := .bool true) rfl rfl) ?_
        refine f_op rfl rfl (s_mv (v := .bool true) rfl) ?_
        refine f_no rfl rfl ?_
        refine f_no rfl rfl ?_
        refine f_no rfl rfl ?_
        refine f_no rfl rfl ?_
        refine f_no rfl rfl ?_
        refine f_no rfl rfl ?_
        refine f_no rfl rfl ?_
        refine f_no rfl rfl ?_
        refine f_no rfl rfl ?_
        refine f_no rfl rfl ?_
        refine f_no rfl rfl ?_
        refine f_no rfl rfl ?_
        refine f_op rfl rfl (s_pickT (v := .bool true) rfl rfl) ?_
        refine f_op rfl rfl (s_mv (v := .bool true) rfl) ?_
        refine f_no rfl rfl ?_
        refine f_no rfl rfl ?_
        refine f_no rfl rfl ?_
        refine f_op rfl rfl (s_pickT (v := .bool true) rfl rfl) ?_
        refine f_nil ?_
        refine f_keep [0, 1, 2, 19, 20, 21, 115] ?_
        exact s8_j1 happ _ (fun v1_ v2_ v3_ v4_ v5_ v6_ H_ => ih v1_ v2_ v3_ v4_ v5_ v6_ H_) v1 v2 v3 v4 v5 v6 true p7.2
    · skip
      refine f_know 22 rfl (dec_false h1) ?_
      refine f_condF rfl ?_
      refine f_exit rfl ?_
      refine f_seq ?_
      refine f_region ?_
      refine o_bind ?_; intro p27 hp27
      refine o_bind ?_; intro x28 hx28
      refine f_op rfl rfl (s_callA happ rfl hp27) ?_
      refine o_know 117 rfl (asB_eq hx28) ?_
      refine f_op rfl rfl (s_as (v := .bool x28) rfl) ?_
      refine f_nil ?_
      exact f_ret (.tmp rfl (.nil)) rfl

theorem sim8 {app : App} (happ : AppSim Tryz.prog app) {a0 : ByteArray} {a1 : Int} {a2 : Int} {H : Hp} {p : Bool × Hp} (h : r8 app a0 a1 a2 H = some p) : CallSim Tryz.prog 8 [.str a0, .int .i64 a1, .int .i64 a2] H (.bool p.1) p.2 := by
  refine callSim (fn := Tryz.f8) (ret := ret8) Tryz.func8 rfl Tryz.ntmps8 rfl ?_ h
  unfold r8
  refine f_seq ?_
  refine f_region ?_
  refine f_op rfl rfl (s_as (v := .bool false) rfl) ?_
  refine f_nil ?_
  refine f_seq ?_
  refine f_seq ?_
  refine f_region ?_
  refine f_op rfl rfl (s_build (cs := [.sl ⟨true, 0, 0, 0, 0, 0⟩, .int .i64 0]) Tryz.underlying56 ty56 rfl pl56 rfl) ?_
  refine f_op rfl rfl (s_box (v := .agg [.sl ⟨true, 0, 0, 0, 0, 0⟩, .int .i64 0]) rfl rfl) ?_
  refine f_op rfl rfl (s_buildSlice (cs := [.nilptr, .ptr H.n 0]) Tryz.underlying57 ty23 (by decide) (by decide) rfl (by decide) rfl) ?_
  refine f_op rfl rfl (s_lenS rfl Tryz.underlying57 rfl) ?_
  refine f_op rfl rfl (s_mv (v := .int .i64 0) rfl) ?_
  refine o_hp ?_; intro H1 hH1
  refine f_nil ?_
  refine f_block ?_
  refine f_loop ?_
  refine f_keep [0, 1, 2, 19, 20, 21] ?_
  exact s8_l0 happ FUEL a0 a1 a2 ⟨false, (H.push (.cells [.sl ⟨true, 0, 0, 0, 0, 0⟩, .int .i64 0] false)).n, 0, 2, 2, 0⟩ ((⟨false, (H.push (.cells [.sl ⟨true, 0, 0, 0, 0, 0⟩, .int .i64 0] false)).n, 0, 2, 2, 0⟩ : Sl).len : Int) 0 H1

/- 101 slices.IndexFunc[[]congou/chest.leaf,congou/chest.leaf] -/
theorem ok101 : FnOk Tryz.prog 101 := ⟨⟨Tryz.f101, Tryz.func101, by kernel_rfl, rfl⟩⟩
theorem s101_l0 {app : App} (happ : AppSim Tryz.prog app) : ∀ (k_ : Nat) (v1 : Sl) (v2 : AV) (v3 : Int) (v4 : Int) (H : Hp), Fin Tryz.prog Tryz.f101 ret101 19 (todoAt (bodyOf Tryz.f101) [1, 0, 1, 0, 0] []) [(0, .sl v1), (1, v2), (7, .int .i64 v3), (8, .int .i64 v4)] H (r101_l0 app k_ v1 v2 v3 v4 H) := by
  intro k_
  induction k_ with
  | zero => intro _ _ _ _ _; exact f_none
  | succ k_ ih =>
    intro v1 v2 v3 v4 H
    rw [r101_l0]
    refine f_seq ?_
    refine f_region ?_
    refine f_op rfl rfl (s_lss rfl rfl) ?_
    refine f_nil ?_
    refine f_seq ?_
    refine f_if (fun h1 => ?_) (fun h1 => ?_)
    · skip
      refine f_know 9 rfl (dec_true h1) ?_
      refine f_condT rfl ?_
      refine f_skip ?_
      refine f_seq ?_
      refine f_block ?_
      refine f_seq ?_
      refine f_region ?_
      refine f_op rfl rfl (s_mv (v := .int .i64 v4) rfl) ?_
      refine f_op rfl rfl (s_as (v := .int .i64 v4) rfl) ?_
      refine f_nil ?_
      refine f_seq ?_
      refine f_region ?_
      refine f_op rfl rfl (s_mv (v := v2) rfl) ?_
      refine f_op rfl rfl (s_mv (v := .sl v1) rfl) ?_
      refine f_op rfl rfl (s_mv (v := .int .i64 v4) rfl) ?_
      refine o_ck fun g2 => ?_
      refine f_op rfl rfl (s_idx Tryz.underlying64 ty93 rfl rfl g2) ?_
      refine o_bind ?_; intro x3 hx3
      refine o_bind ?_; intro x4 hx4
      refine f_op rfl rfl (s_loads Tryz.underlying93 rfl ty93 rfl (lds_cons (ldStr_eq hx3) (lds_cons (ldI_eq hx4) (lds_nil)))) ?_
      refine o_bind ?_; intro p5 hp5
      refine o_bind ?_; intro x6 hx6
      refine f_op rfl rfl (s_callv happ rfl rfl hp5) ?_
      refine o_know 16 rfl (asB_eq hx6) ?_
      refine f_nil ?_
      refine f_if (fun h7 => ?_) (fun h7 => ?_)
      · skip
        refine f_know 16 rfl (bool_T h7) ?_
        refine f_condT rfl ?_
        refine f_seq ?_
        refine f_region ?_
        refine f_op rfl rfl (s_mv (v := .int .i64 v4) rfl) ?_
        refine f_op rfl rfl (s_as (v := .int .i64 v4) rfl) ?_
        refine f_nil ?_
        exact f_ret (.tmp rfl (.nil)) rfl
      · skip
        refine f_know 16 rfl (bool_F h7) ?_
        refine f_condF rfl ?_
        refine f_skip ?_
        refine f_inBlock ?_
        refine f_region ?_
        refine f_op rfl rfl (s_add rfl rfl) ?_
        refine f_op rfl rfl (s_mv (v := .int .i64 (w64 (v4 + 1))) rfl) ?_
        refine f_nil ?_
        refine f_inLoop ?_
        refine f_keep [0, 1, 7, 8] ?_
        exact ih v1 v2 v3 (w64 (v4 + 1)) p5.2
    · skip
      refine f_know 9 rfl (dec_false h1) ?_
      refine f_condF rfl ?_
      refine f_exit rfl ?_
      refine f_seq ?_
      refine f_region ?_
      refine f_op rfl rfl (s_as (v := .int .i64 (-1)) rfl) ?_
      refine f_nil ?_
      exact f_ret (.tmp rfl (.nil)) rfl

theorem sim101 {app : App} (happ : AppSim Tryz.prog app) {a0 : Sl} {a1 : AV} {H : Hp} {p : Int × Hp} (h : r101 app a0 a1 H = some p) : CallSim Tryz.prog 101 [.sl a0, a1] H (.int .i64 p.1) p.2 := by
  refine callSim (fn := Tryz.f101) (ret := ret101) Tryz.func101 rfl Tryz.ntmps101 rfl ?_ h
  unfold r101
  refine f_seq ?_
  refine f_region ?_
  refine f_op rfl rfl (s_as (v := .int .i64 0) rfl) ?_
  refine f_nil ?_
  refine f_seq ?_
  refine f_seq ?_
  refine f_region ?_
  refine f_op rfl rfl (s_mv (v := .sl a0) rfl) ?_
  refine f_op rfl rfl (s_lenS rfl Tryz.underlying64 rfl) ?_
  refine f_op rfl rfl (s_mv (v := .int .i64 0) rfl) ?_
  refine f_nil ?_
  refine f_block ?_
  refine f_loop ?_
  refine f_keep [0, 1, 7, 8] ?_
  exact s101_l0 happ FUEL a0 a1 (a0.len : Int) 0 H

/- 75 (*congou/chest.state).find -/
theorem ok75 : FnOk Tryz.prog 75 := ⟨⟨Tryz.f75, Tryz.func75, by kernel_rfl, rfl⟩⟩
theorem sim75 {app : App} (happ : AppSim Tryz.prog app) {a0b : Nat} {a0o : Nat} {a1 : ByteArray} {H : Hp} {p : Int × Hp} (h : r75 app a0b a0o a1 H = some p) : CallSim Tryz.prog 75 [.ptr a0b a0o, .str a1] H (.int .i64 p.1) p.2 := by
  refine callSim (fn := Tryz.f75) (ret := ret75) Tryz.func75 rfl Tryz.ntmps75 rfl ?_ h
  unfold r75
  refine f_seq ?_
  refine f_region ?_
  refine f_op rfl rfl (s_box1 (v := .str a1) rfl rfl) ?_
  refine f_op rfl rfl (s_as (v := .int .i64 0) rfl) ?_
  refine o_hp ?_; intro H1 hH1
  refine f_nil ?_
  refine f_seq ?_
  refine f_region ?_
  refine f_op rfl rfl (s_mv (v := .ptr a0b a0o) rfl) ?_
  refine f_op rfl rfl (s_nilCheck rfl) ?_
  refine f_op rfl rfl (s_fieldAddr Tryz.underlying69 rfl ty64 rfl) ?_
  refine o_bind ?_; intro x2 hx2
  refine f_op rfl rfl (s_load Tryz.underlying64 rfl rfl (ldSl_eq hx2)) ?_
  refine f_op rfl rfl (s_makeFunc rfl rfl) ?_
  refine o_bind ?_; intro p3 hp3
  refine f_op rfl rfl (s_callF rfl ok101 (sim101 happ hp3)) ?_
  refine f_op rfl rfl (s_as (v := .int .i64 p3.1) rfl) ?_
  refine f_nil ?_
  exact f_ret (.tmp rfl (.nil)) rfl

/- 44 (*congou/chest.state).leaf -/
theorem ok44 : FnOk Tryz.prog 44 := ⟨⟨Tryz.f44, Tryz.func44, by kernel_rfl, rfl⟩⟩
theorem sim44 {app : App} (happ : AppSim Tryz.prog app) {a0b : Nat} {a0o : Nat} {a1_0 : Sl} {a1_1 : Sl} {H : Hp} {p : Int × Hp} (h : r44 app a0b a0o a1_0 a1_1 H = some p) : CallSim Tryz.prog 44 [.ptr a0b a0o, .agg [.sl a1_0, .sl a1_1]] H (.int .i64 p.1) p.2 := by
  refine callSim (fn := Tryz.f44) (ret := ret44) Tryz.func44 rfl Tryz.ntmps44 rfl ?_ h
  unfold r44
  refine f_seq ?_
  refine f_region ?_
  refine f_op rfl rfl (s_box (v := .agg [.sl a1_0, .sl a1_1]) rfl rfl) ?_
  refine f_op rfl rfl (s_as (v := .int .i64 0) rfl) ?_
  refine o_hp ?_; intro H1 hH1
  refine f_nil ?_
  refine f_seq ?_
  refine f_block ?_
  refine f_seq ?_
  refine f_region ?_
  refine f_op rfl rfl (s_mv (v := .ptr a0b a0o) rfl) ?_
  refine f_op rfl rfl (s_fieldAddr Tryz.underlying84 rfl ty38 rfl) ?_
  refine o_bind ?_; intro x2 hx2
  refine f_op rfl rfl (s_load Tryz.underlying38 rfl rfl (ldSl_eq hx2)) ?_
  refine o_ck fun g3 => ?_
  refine f_op rfl rfl (s_idx Tryz.underlying38 ty9 rfl rfl g3) ?_
  refine o_bind ?_; intro x4 hx4
  refine f_op rfl rfl (s_load Tryz.underlying9 rfl rfl (ldStr_eq hx4)) ?_
  refine o_bind ?_; intro p5 hp5
  refine f_op rfl rfl (s_callF rfl ok75 (sim75 happ hp5)) ?_
  refine f_op rfl rfl (s_geq rfl rfl) ?_
  refine f_op rfl rfl (s_as (v := .bool (decide (0 ≤ p5.1))) rfl) ?_
  refine f_nil ?_
  refine f_if (fun h6 => ?_) (fun h6 => ?_)
  · skip
    refine f_know 5 rfl (dec_true h6) ?_
    refine f_condT rfl ?_
    refine f_seq ?_
    refine f_region ?_
    refine f_op rfl rfl (s_as (v := .int .i64 5) rfl) ?_
    refine f_nil ?_
    exact f_ret (.tmp rfl (.nil)) rfl
  · skip
    refine f_know 5 rfl (dec_false h6) ?_
    refine f_condF rfl ?_
    refine f_seq ?_
    refine f_region ?_
    refine f_op rfl rfl (s_fieldAddr Tryz.underlying84 rfl ty30 rfl) ?_
    refine o_bind ?_; intro x7 hx7
    refine f_op rfl rfl (s_load Tryz.underlying30 rfl rfl (ldSl_eq hx7)) ?_
    refine o_ck fun g8 => ?_
    refine f_op rfl rfl (s_idx Tryz.underlying30 ty3 rfl rfl g8) ?_
    refine o_bind ?_; intro x9 hx9
    refine f_op rfl rfl (s_load Tryz.underlying3 rfl rfl (ldI_eq hx9)) ?_
    refine f_op rfl rfl (s_gtr rfl rfl) ?_
    refine f_op rfl rfl (s_as (v := .bool (decide (20 < x9))) rfl) ?_
    refine f_nil ?_
    refine f_if (fun h10 => ?_) (fun h10 => ?_)
    · skip
      refine f_know 13 rfl (dec_true h10) ?_
      refine f_condT rfl ?_
      refine f_seq ?_
      refine f_region ?_
      refine f_op rfl rfl (s_as (v := .int .i64 2) rfl) ?_
      refine f_nil ?_
      exact f_ret (.tmp rfl (.nil)) rfl
    · skip
      refine f_know 13 rfl (dec_false h10) ?_
      refine f_condF rfl ?_
      refine f_seq ?_
      refine f_region ?_
      refine f_op rfl rfl (s_mv (v := .ptr a0b a0o) rfl) ?_
      refine f_op rfl rfl (s_nilCheck rfl) ?_
      refine f_op rfl rfl (s_fieldAddr Tryz.underlying69 rfl ty64 rfl) ?_
      refine o_bind ?_; intro x11 hx11
      refine f_op rfl rfl (s_load Tryz.underlying64 rfl rfl (ldSl_eq hx11)) ?_
      refine f_op rfl rfl (s_lenS rfl Tryz.underlying64 rfl) ?_
      refine f_op rfl rfl (s_eql rfl rfl) ?_
      refine f_op rfl rfl (s_as (v := .bool (decide ((x11.len : Int) = 6))) rfl) ?_
      refine f_nil ?_
      refine f_if (fun h12 => ?_) (fun h12 => ?_)
      · skip
        refine f_know 19 rfl (dec_true h12) ?_
        refine f_condT rfl ?_
        refine f_seq ?_
        refine f_region ?_
        refine f_op rfl rfl (s_as (v := .int .i64 7) rfl) ?_
        refine f_nil ?_
        exact f_ret (.tmp rfl (.nil)) rfl
      · skip
        refine f_know 19 rfl (dec_false h12) ?_
        refine f_condF rfl ?_
        refine f_skip ?_
        refine f_inBlock ?_
        refine f_seq ?_
        refine f_bind ?_; intro x13 hx13
        refine f_bind ?_; intro x14 hx14
        refine f_ck fun g15 => ?_
        refine f_bind ?_; intro x16 hx16
        refine f_bind ?_; intro x17 hx17
        refine f_ck fun g18 => ?_
        refine f_bind ?_; intro x19 hx19
        refine f_bind ?_; intro x20 hx20
        refine f_bind ?_; intro H21 hH21
        refine f_drawF (Φ := fun _ => True) (lim := 1000000) [0, 0, 0, 0, 1, 0, 1, 0, 1, 0, 1, 0, 1, 0, 2, 2, 0, 0, 2] [false, false, false, false, false, false, false, false, false, false, false, false, false, false, true, false, false, false, false] 14 15 (Trc.pure rfl rfl rfl (.inl fun _ => s_mv (v := .ptr a0b a0o) rfl) (Trc.pure rfl rfl rfl (.inl fun _ => s_mv (v := .ptr a0b a0o) rfl) (Trc.pure rfl rfl rfl (.inl fun _ => s_nilCheck rfl) (Trc.pure rfl rfl rfl (.inl fun _ => s_fieldAddr Tryz.underlying69 rfl ty64 rfl) (Trc.read rfl rfl rfl (s_load Tryz.underlying64 rfl rfl (ldSl_eq hx13)) (Trc.pure rfl rfl rfl (.inl fun _ => s_fieldAddr Tryz.underlying84 rfl ty38 rfl) (Trc.read rfl rfl rfl (s_load Tryz.underlying38 rfl rfl (ldSl_eq hx14)) (Trc.pure rfl rfl rfl (.inl fun _ => s_idx Tryz.underlying38 ty9 rfl rfl g15) (Trc.read rfl rfl rfl (s_load Tryz.underlying9 rfl rfl (ldStr_eq hx16)) (Trc.pure rfl rfl rfl (.inl fun _ => s_fieldAddr Tryz.underlying84 rfl ty30 rfl) (Trc.read rfl rfl rfl (s_load Tryz.underlying30 rfl rfl (ldSl_eq hx17)) (Trc.pure rfl rfl rfl (.inl fun _ => s_idx Tryz.underlying30 ty3 rfl rfl g18) (Trc.read rfl rfl rfl (s_load Tryz.underlying3 rfl rfl (ldI_eq hx19)) (Trc.pure rfl rfl rfl (.inl fun _ => s_build (cs := [.str x16, .int .i64 x19]) Tryz.underlying93 ty93 rfl pl93 rfl) (Trc.fl (.s 1) rfl rfl rfl (fun _ => trivial) rfl (by rfl) (fun _ => s_buildSlice (cs := [.str x16, .int .i64 x19]) Tryz.underlying64 ty93 (by decide) (by decide) rfl (by decide) rfl) (Trc.eff rfl rfl rfl (fun _ => trivial) (s_ap rfl rfl Tryz.underlying64 Tryz.underlying64 ty93 rfl rfl rfl rfl rfl rfl rfl hx20) (Trc.pure rfl rfl rfl (.inl fun _ => s_nilCheck rfl) (Trc.pure rfl rfl rfl (.inl fun _ => s_fieldAddr Tryz.underlying69 rfl ty64 rfl) (Trc.eff rfl rfl rfl (fun _ => trivial) (s_store (s := 1) ty64 rfl rfl rfl hH21) (Trc.nil (fun _ => trivial))))))))))))))))))))) rfl rfl (by decide +kernel) mixed ?_
        refine f_seq ?_
        refine f_region ?_
        refine f_op rfl rfl (s_as (v := .int .i64 0) rfl) ?_
        refine f_nil ?_
        exact f_ret (.tmp rfl (.nil)) rfl

/- 51 (*congou/chest.Chest).child$1 -/
theorem ok51 : FnOk Tryz.prog 51 := ⟨⟨Tryz.f51, Tryz.func51, by kernel_rfl, rfl⟩⟩
theorem sim51 {a0_0 : ByteArray} {a0_1 : Int} {a0_2b : Nat} {a0_2o : Nat} {c0 : Nat} {c1 : Nat} {H : Hp} {p : Bool × Hp} (h : r51 a0_0 a0_1 a0_2b a0_2o c0 c1 H = some p) : CallSim Tryz.prog 51 [.agg [.str a0_0, .int .i64 a0_1, .ptr a0_2b a0_2o], .ptr c0 0, .ptr c1 0] H (.bool p.1) p.2 := by
  refine callSim (fn := Tryz.f51) (ret := ret51) Tryz.func51 rfl Tryz.ntmps51 rfl ?_ h
  unfold r51
  refine f_seq ?_
  refine f_region ?_
  refine f_op rfl rfl (s_box (v := .agg [.str a0_0, .int .i64 a0_1, .ptr a0_2b a0_2o]) rfl rfl) ?_
  refine f_op rfl rfl (s_as (v := .bool false) rfl) ?_
  refine o_hp ?_; intro H1 hH1
  refine f_nil ?_
  refine f_seq ?_
  refine f_region ?_
  refine f_op rfl rfl (s_fieldAddr Tryz.underlying71 rfl ty9 rfl) ?_
  refine o_bind ?_; intro x2 hx2
  refine f_op rfl rfl (s_load Tryz.underlying9 rfl rfl (ldStr_eq hx2)) ?_
  refine o_bind ?_; intro x3 hx3
  refine f_op rfl rfl (s_load Tryz.underlying9 rfl rfl (ldStr_eq hx3)) ?_
  refine f_op rfl rfl (s_eqStr rfl rfl) ?_
  refine f_op rfl rfl (s_mv (v := .bool (strEq x2 x3)) rfl) ?_
  refine o_if (fun h4 => ?_) (fun h4 => ?_)
  · skip
    refine o_know 9 rfl (bool_T h4) ?_
    refine f_op rfl rfl (s_fieldAddr Tryz.underlying71 rfl ty3 rfl) ?_
    refine o_bind ?_; intro x5 hx5
    refine f_op rfl rfl (s_load Tryz.underlying3 rfl rfl (ldI_eq hx5)) ?_
    refine o_bind ?_; intro x6 hx6
    refine f_op rfl rfl (s_load Tryz.underlying3 rfl rfl (ldI_eq hx6)) ?_
    refine f_op rfl rfl (s_eql rfl rfl) ?_
    refine f_op rfl rfl (s_pickT (v := .bool (decide (x5 = x6))) rfl rfl) ?_
    refine f_op rfl rfl (s_mv (v := .bool (decide (x5 = x6))) rfl) ?_
    refine o_if (fun h7 => ?_) (fun h7 => ?_)
    · skip
      refine o_know 15 rfl (dec_true h7) ?_
      refine f_op rfl rfl (s_fieldAddr Tryz.underlying71 rfl ty9 rfl) ?_
      refine o_bind ?_; intro x8 hx8
      refine f_op rfl rfl (s_load Tryz.underlying9 rfl rfl (ldStr_eq hx8)) ?_
      refine f_op rfl rfl (s_neStr rfl rfl) ?_
      refine f_op rfl rfl (s_pickT (v := .bool (!(strEq x8 (ByteArray.mk #[])))) rfl rfl) ?_
      refine f_op rfl rfl (s_as (v := .bool (!(strEq x8 (ByteArray.mk #[])))) rfl) ?_
      refine f_nil ?_
      exact f_ret (.tmp rfl (.nil)) rfl
    · skip
      refine o_know 15 rfl (dec_false h7) ?_
      refine f_no rfl rfl ?_
      refine f_no rfl rfl ?_
      refine f_no rfl rfl ?_
      refine f_op rfl rfl (s_pickF (v := .bool false) rfl rfl) ?_
      refine f_op rfl rfl (s_as (v := .bool false) rfl) ?_
      refine f_nil ?_
      exact f_ret (.tmp rfl (.nil)) rfl
  · skip
    refine o_know 9 rfl (bool_F h4) ?_
    refine f_no rfl rfl ?_
    refine f_no rfl rfl ?_
    refine f_no rfl rfl ?_
    refine f_no rfl rfl ?_
    refine f_op rfl rfl (s_pickF (v := .bool false) rfl rfl) ?_
    refine f_op rfl rfl (s_mv (v := .bool false) rfl) ?_
    refine f_no rfl rfl ?_
    refine f_no rfl rfl ?_
    refine f_no rfl rfl ?_
    refine f_op rfl rfl (s_pickF (v := .bool false) rfl rfl) ?_
    refine f_op rfl rfl (s_as (v := .bool false) rfl) ?_
    refine f_nil ?_
    exact f_ret (.tmp rfl (.nil)) rfl

/- 57 congou/chest.numbers -/
theorem ok57 : FnOk Tryz.prog 57 := ⟨⟨Tryz.f57, Tryz.func57, by kernel_rfl, rfl⟩⟩
theorem s57_l0 {app : App} (happ : AppSim Tryz.prog app) : ∀ (k_ : Nat) (v1 : Sl) (v2 : Sl) (v3 : Int) (v4 : Int) (H : Hp), Fin Tryz.prog Tryz.f57 ret57 19 (todoAt (bodyOf Tryz.f57) [1, 1, 0, 1, 0, 0] []) [(3, .sl v1), (6, .sl v2), (7, .int .i64 v3), (8, .int .i64 v4)] H (r57_l0 app k_ v1 v2 v3 v4 H) := by
  intro k_
  induction k_ with
  | zero => intro _ _ _ _ _; exact f_none
  | succ k_ ih =>
    intro v1 v2 v3 v4 H
    rw [r57_l0]
    refine f_seq ?_
    refine f_region ?_
    refine f_op rfl rfl (s_lss rfl rfl) ?_
    refine f_nil ?_
    refine f_seq ?_
    refine f_if (fun h1 => ?_) (fun h1 => ?_)
    · skip
      refine f_know 9 rfl (dec_true h1) ?_
      refine f_condT rfl ?_
      refine f_skip ?_
      refine f_seq ?_
      refine f_block ?_
      refine f_seq ?_
      refine f_region ?_
      refine o_ck fun g2 => ?_
      refine f_op rfl rfl (s_idx Tryz.underlying30 ty3 rfl rfl g2) ?_
      refine o_bind ?_; intro x3 hx3
      refine f_op rfl rfl (s_load Tryz.underlying3 rfl rfl (ldI_eq hx3)) ?_
      refine f_op rfl rfl (s_as (v := .int .i64 x3) rfl) ?_
      refine f_nil ?_
      refine f_region ?_
      refine f_op rfl rfl (s_mv (v := .sl v1) rfl) ?_
      refine f_op rfl rfl (s_mv (v := .int .i64 x3) rfl) ?_
      refine o_bind ?_; intro p4 hp4
      refine f_op rfl rfl (s_callF rfl ok53 (sim53 happ hp4)) ?_
      refine f_op rfl rfl (s_buildSlice (cs := [.str p4.1]) Tryz.underlying38 ty9 (by decide) (by decide) rfl (by decide) rfl) ?_
      refine o_bind ?_; intro x5 hx5
      refine f_op rfl rfl (s_ap rfl rfl Tryz.underlying38 Tryz.underlying38 ty9 rfl rfl rfl rfl rfl rfl rfl hx5) ?_
      refine f_op rfl rfl (s_as (v := .sl x5.1) rfl) ?_
      refine f_nil ?_
      refine f_inBlock ?_
      refine f_region ?_
      refine f_op rfl rfl (s_add rfl rfl) ?_
      refine f_op rfl rfl (s_mv (v := .int .i64 (w64 (v4 + 1))) rfl) ?_
      refine f_nil ?_
      refine f_inLoop ?_
      refine f_keep [3, 6, 7, 8] ?_
      exact ih x5.1 v2 v3 (w64 (v4 + 1)) x5.2
    · skip
      refine f_know 9 rfl (dec_false h1) ?_
      refine f_condF rfl ?_
      refine f_exit rfl ?_
      refine f_seq ?_
      refine f_region ?_
      refine f_op rfl rfl (s_mv (v := .sl v1) rfl) ?_
      refine f_op rfl rfl (s_as (v := .sl v1) rfl) ?_
      refine f_nil ?_
      exact f_ret (.tmp rfl (.nil)) rfl

theorem sim57 {app : App} (happ : AppSim Tryz.prog app) {a0 : Sl} {H : Hp} {p : Sl × Hp} (h : r57 app a0 H = some p) : CallSim Tryz.prog 57 [.sl a0] H (.sl p.1) p.2 := by
  refine callSim (fn := Tryz.f57) (ret := ret57) Tryz.func57 rfl Tryz.ntmps57 rfl ?_ h
  unfold r57
  refine f_seq ?_
  refine f_region ?_
  refine f_op rfl rfl (s_as (v := .sl ⟨true, 0, 0, 0, 0, 0⟩) rfl) ?_
  refine f_nil ?_
  refine f_seq ?_
  refine f_region ?_
  refine f_op rfl rfl (s_as (v := .sl ⟨true, 0, 0, 0, 0, 0⟩) rfl) ?_
  refine f_nil ?_
  refine f_seq ?_
  refine f_seq ?_
  refine f_region ?_
  refine f_op rfl rfl (s_mv (v := .sl a0) rfl) ?_
  refine f_op rfl rfl (s_lenS rfl Tryz.underlying30 rfl) ?_
  refine f_op rfl rfl (s_mv (v := .int .i64 0) rfl) ?_
  refine f_nil ?_
  refine f_block ?_
  refine f_loop ?_
  refine f_keep [3, 6, 7, 8] ?_
  exact s57_l0 happ FUEL ⟨true, 0, 0, 0, 0, 0⟩ a0 (a0.len : Int) 0 H

end Go.Lt.P10
