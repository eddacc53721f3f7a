/- PRINTED BY A PROGRAM OF OURS: what each function that 'ChestNobody' reaches computes on the abstract heap, and that the translated code does just that. Nothing is asked of the input. -/
import Derived.Test.YtnigfapfghgmnaaGreatDoorG8P6
set_option linter.unusedVariables false
set_option linter.unusedSimpArgs false
set_option maxRecDepth 100000
set_option maxHeartbeats 4000000
namespace Go.Lt.P10
open Go Go.Lt Go.Proofs
/- 245 internal/strconv.ParseUint -/
theorem ok245 : FnOk Tryz.prog 245 := ⟨⟨Tryz.f245, Tryz.func245, by kernel_rfl, rfl⟩⟩
theorem s245_j9 (kt0 : Int → Bool → ByteArray → Int → Int → Bool → Int → Sl → Int → Int → Hp → Option ((Int × AV) × Hp)) (hkt0 : ∀ (v1 : Int) (v2 : Bool) (v3 : ByteArray) (v4 : Int) (v5 : Int) (v6 : Bool) (v7 : Int) (v8 : Sl) (v9 : Int) (v10 : Int) (H : Hp), Fin Tryz.prog Tryz.f245 ret245 172 (todoAt (bodyOf Tryz.f245) [1, 1, 1, 1, 1, 1, 1, 1, 1, 1, 1, 0, 1, 0, 0] []) [(1, .int .i64 v1), (8, .bool v2), (9, .str v3), (10, .int .u64 v4), (11, .int .u64 v5), (12, .bool v6), (13, .int .u64 v7), (99, .sl v8), (100, .int .i64 v9), (101, .int .i64 v10)] H (kt0 v1 v2 v3 v4 v5 v6 v7 v8 v9 v10 H)) (v1 : Int) (v2 : Bool) (v3 : ByteArray) (v4 : Int) (v5 : Int) (v6 : Bool) (v7 : Int) (v8 : Sl) (v9 : Int) (v10 : Int) (v11 : Bool) (H : Hp) : Fin Tryz.prog Tryz.f245 ret245 172 (todoAt (bodyOf Tryz.f245) [1, 1, 1, 1, 1, 1, 1, 1, 1, 1, 1, 0, 1, 0, 0, 1, 1, 0, 0, 1, 1, 1, 1, 1, 1, 1, 0, 1] []) [(1, .int .i64 v1), (8, .bool v2), (9, .str v3), (10, .int .u64 v4), (11, .int .u64 v5), (12, .bool v6), (17, .int .u64 v7), (99, .sl v8), (100, .int .i64 v9), (101, .int .i64 v10), (159, .bool v11)] H (r245_j9 kt0 v1 v2 v3 v4 v5 v6 v7 v8 v9 v10 v11 H) := by
  unfold r245_j9
  refine f_if (fun h1 => ?_) (fun h1 => ?_)
  · skip
    refine f_know 159 rfl (bool_T h1) ?_
    refine f_condT rfl ?_
    refine f_seq ?_
    refine f_region ?_
    refine f_op rfl rfl (s_mv (v := .int .u64 v5) rfl) ?_
    exact o_none
  · skip
    refine f_know 159 rfl (bool_F h1) ?_
    refine f_condF rfl ?_
    refine f_skip ?_
    refine f_region ?_
    refine f_op rfl rfl (s_mv (v := .int .u64 v7) rfl) ?_
    refine f_op rfl rfl (s_as (v := .int .u64 v7) rfl) ?_
    refine f_nil ?_
    refine f_inBlock ?_
    refine f_region ?_
    refine f_op rfl rfl (s_add rfl rfl) ?_
    refine f_op rfl rfl (s_mv (v := .int .i64 (w64 (v10 + 1))) rfl) ?_
    refine f_nil ?_
    refine f_inLoop ?_
    refine f_keep [1, 8, 9, 10, 11, 12, 13, 99, 100, 101] ?_
    exact hkt0 v1 v2 v3 v4 v5 v6 v7 v8 v9 (w64 (v10 + 1)) H

theorem s245_j10 (kt0 : Int → Bool → ByteArray → Int → Int → Bool → Int → Sl → Int → Int → Hp → Option ((Int × AV) × Hp)) (hkt0 : ∀ (v1 : Int) (v2 : Bool) (v3 : ByteArray) (v4 : Int) (v5 : Int) (v6 : Bool) (v7 : Int) (v8 : Sl) (v9 : Int) (v10 : Int) (H : Hp), Fin Tryz.prog Tryz.f245 ret245 172 (todoAt (bodyOf Tryz.f245) [1, 1, 1, 1, 1, 1, 1, 1, 1, 1, 1, 0, 1, 0, 0] []) [(1, .int .i64 v1), (8, .bool v2), (9, .str v3), (10, .int .u64 v4), (11, .int .u64 v5), (12, .bool v6), (13, .int .u64 v7), (99, .sl v8), (100, .int .i64 v9), (101, .int .i64 v10)] H (kt0 v1 v2 v3 v4 v5 v6 v7 v8 v9 v10 H)) (v1 : Int) (v2 : Bool) (v3 : ByteArray) (v4 : Int) (v5 : Int) (v6 : Bool) (v7 : Int) (v8 : Int) (v9 : Sl) (v10 : Int) (v11 : Int) (H : Hp) : Fin Tryz.prog Tryz.f245 ret245 172 (todoAt (bodyOf Tryz.f245) [1, 1, 1, 1, 1, 1, 1, 1, 1, 1, 1, 0, 1, 0, 0, 1, 1, 0, 0, 1, 1, 1] []) [(1, .int .i64 v1), (8, .bool v2), (9, .str v3), (10, .int .u64 v4), (11, .int .u64 v5), (12, .bool v6), (13, .int .u64 v7), (16, .int .u8 v8), (99, .sl v9), (100, .int .i64 v10), (101, .int .i64 v11)] H (r245_j10 kt0 v1 v2 v3 v4 v5 v6 v7 v8 v9 v10 v11 H) := by
  unfold r245_j10
  refine f_seq ?_
  refine f_seq ?_
  refine f_region ?_
  refine f_op rfl rfl (s_mv (v := .int .u8 v8) rfl) ?_
  refine f_op rfl rfl (s_mv (v := .int .i64 v1) rfl) ?_
  refine f_op rfl rfl (s_convInt Tryz.underlying3 Tryz.underlying5 rfl) ?_
  refine f_op rfl rfl (s_geq rfl rfl) ?_
  refine f_nil ?_
  refine f_if (fun h1 => ?_) (fun h1 => ?_)
  · skip
    refine f_know 137 rfl (dec_true h1) ?_
    refine f_condT rfl ?_
    refine f_seq ?_
    refine f_region ?_
    exact o_none
  · skip
    refine f_know 137 rfl (dec_false h1) ?_
    refine f_condF rfl ?_
    refine f_skip ?_
    refine f_seq ?_
    refine f_seq ?_
    refine f_region ?_
    refine f_op rfl rfl (s_mv (v := .int .u64 v7) rfl) ?_
    refine f_op rfl rfl (s_mv (v := .int .u64 v4) rfl) ?_
    refine f_op rfl rfl (s_geq rfl rfl) ?_
    refine f_nil ?_
    refine f_if (fun h2 => ?_) (fun h2 => ?_)
    · skip
      refine f_know 141 rfl (dec_true h2) ?_
      refine f_condT rfl ?_
      refine f_seq ?_
      refine f_region ?_
      refine f_op rfl rfl (s_mv (v := .int .u64 v5) rfl) ?_
      exact o_none
    · skip
      refine f_know 141 rfl (dec_false h2) ?_
      refine f_condF rfl ?_
      refine f_skip ?_
      refine f_seq ?_
      refine f_region ?_
      refine f_op rfl rfl (s_mv (v := .int .u64 v7) rfl) ?_
      refine f_op rfl rfl (s_mv (v := .int .i64 v1) rfl) ?_
      refine f_op rfl rfl (s_convInt Tryz.underlying3 Tryz.underlying214 rfl) ?_
      refine f_op rfl rfl (s_mul rfl rfl) ?_
      refine f_op rfl rfl (s_as (v := .int .u64 (IntKind.wrap .u64 (v7 * (IntKind.wrap .u64 (v1))))) rfl) ?_
      refine f_nil ?_
      refine f_seq ?_
      refine f_region ?_
      refine f_op rfl rfl (s_mv (v := .int .u64 (IntKind.wrap .u64 (v7 * (IntKind.wrap .u64 (v1))))) rfl) ?_
      refine f_op rfl rfl (s_mv (v := .int .u8 v8) rfl) ?_
      refine f_op rfl rfl (s_convInt Tryz.underlying5 Tryz.underlying214 rfl) ?_
      refine f_op rfl rfl (s_add rfl rfl) ?_
      refine f_op rfl rfl (s_as (v := .int .u64 (IntKind.wrap .u64 ((IntKind.wrap .u64 (v7 * (IntKind.wrap .u64 (v1)))) + (IntKind.wrap .u64 (v8))))) rfl) ?_
      refine f_nil ?_
      refine f_seq ?_
      refine f_seq ?_
      refine f_region ?_
      refine f_op rfl rfl (s_mv (v := .int .u64 (IntKind.wrap .u64 ((IntKind.wrap .u64 (v7 * (IntKind.wrap .u64 (v1)))) + (IntKind.wrap .u64 (v8))))) rfl) ?_
      refine f_op rfl rfl (s_mv (v := .int .u64 (IntKind.wrap .u64 (v7 * (IntKind.wrap .u64 (v1))))) rfl) ?_
      refine f_op rfl rfl (s_lss rfl rfl) ?_
      refine f_op rfl rfl (s_mv (v := .bool (decide ((IntKind.wrap .u64 ((IntKind.wrap .u64 (v7 * (IntKind.wrap .u64 (v1)))) + (IntKind.wrap .u64 (v8)))) < (IntKind.wrap .u64 (v7 * (IntKind.wrap .u64 (v1))))))) rfl) ?_
      refine o_if (fun h3 => ?_) (fun h3 => ?_)
      · skip
        refine o_know 155 rfl (dec_true h3) ?_
        refine f_no rfl rfl ?_
        refine f_no rfl rfl ?_
        refine f_no rfl rfl ?_
        refine f_op rfl rfl (s_pickT (v := .bool true) rfl rfl) ?_
        refine f_nil ?_
        refine f_keep [1, 8, 9, 10, 11, 12, 17, 99, 100, 101, 159] ?_
        exact s245_j9 _ hkt0 v1 v2 v3 v4 v5 v6 (IntKind.wrap .u64 ((IntKind.wrap .u64 (v7 * (IntKind.wrap .u64 (v1)))) + (IntKind.wrap .u64 (v8)))) v9 v10 v11 true H
      · skip
        refine o_know 155 rfl (dec_false h3) ?_
        refine f_op rfl rfl (s_mv (v := .int .u64 (IntKind.wrap .u64 ((IntKind.wrap .u64 (v7 * (IntKind.wrap .u64 (v1)))) + (IntKind.wrap .u64 (v8))))) rfl) ?_
        refine f_op rfl rfl (s_mv (v := .int .u64 v5) rfl) ?_
        refine f_op rfl rfl (s_gtr rfl rfl) ?_
        refine f_op rfl rfl (s_pickF (v := .bool (decide (v5 < (IntKind.wrap .u64 ((IntKind.wrap .u64 (v7 * (IntKind.wrap .u64 (v1)))) + (IntKind.wrap .u64 (v8))))))) rfl rfl) ?_
        refine f_nil ?_
        refine f_keep [1, 8, 9, 10, 11, 12, 17, 99, 100, 101, 159] ?_
        exact s245_j9 _ hkt0 v1 v2 v3 v4 v5 v6 (IntKind.wrap .u64 ((IntKind.wrap .u64 (v7 * (IntKind.wrap .u64 (v1)))) + (IntKind.wrap .u64 (v8)))) v9 v10 v11 (decide (v5 < (IntKind.wrap .u64 ((IntKind.wrap .u64 (v7 * (IntKind.wrap .u64 (v1)))) + (IntKind.wrap .u64 (v8)))))) H

theorem s245_j11 (kt0 : Int → Bool → ByteArray → Int → Int → Bool → Int → Sl → Int → Int → Hp → Option ((Int × AV) × Hp)) (hkt0 : ∀ (v1 : Int) (v2 : Bool) (v3 : ByteArray) (v4 : Int) (v5 : Int) (v6 : Bool) (v7 : Int) (v8 : Sl) (v9 : Int) (v10 : Int) (H : Hp), Fin Tryz.prog Tryz.f245 ret245 172 (todoAt (bodyOf Tryz.f245) [1, 1, 1, 1, 1, 1, 1, 1, 1, 1, 1, 0, 1, 0, 0] []) [(1, .int .i64 v1), (8, .bool v2), (9, .str v3), (10, .int .u64 v4), (11, .int .u64 v5), (12, .bool v6), (13, .int .u64 v7), (99, .sl v8), (100, .int .i64 v9), (101, .int .i64 v10)] H (kt0 v1 v2 v3 v4 v5 v6 v7 v8 v9 v10 H)) (v1 : Int) (v2 : Bool) (v3 : ByteArray) (v4 : Int) (v5 : Int) (v6 : Bool) (v7 : Int) (v8 : Int) (v9 : Sl) (v10 : Int) (v11 : Int) (v12 : Bool) (H : Hp) : Fin Tryz.prog Tryz.f245 ret245 172 (todoAt (bodyOf Tryz.f245) [1, 1, 1, 1, 1, 1, 1, 1, 1, 1, 1, 0, 1, 0, 0, 1, 1, 0, 0, 1, 1, 0, 0, 1, 1, 1, 1, 1] []) [(1, .int .i64 v1), (8, .bool v2), (9, .str v3), (10, .int .u64 v4), (11, .int .u64 v5), (12, .bool v6), (13, .int .u64 v7), (15, .int .u8 v8), (99, .sl v9), (100, .int .i64 v10), (101, .int .i64 v11), (121, .bool v12)] H (r245_j11 kt0 v1 v2 v3 v4 v5 v6 v7 v8 v9 v10 v11 v12 H) := by
  unfold r245_j11
  refine f_if (fun h1 => ?_) (fun h1 => ?_)
  · skip
    refine f_know 121 rfl (bool_T h1) ?_
    refine f_condT rfl ?_
    refine f_region ?_
    refine f_op rfl rfl (s_mv (v := .int .u8 v8) rfl) ?_
    refine o_bind ?_; intro p2 hp2
    refine f_op rfl rfl (s_callF rfl ok258 (sim258 hp2)) ?_
    refine f_op rfl rfl (s_sub rfl rfl) ?_
    refine f_op rfl rfl (s_add rfl rfl) ?_
    refine f_op rfl rfl (s_as (v := .int .u8 (IntKind.wrap .u8 ((IntKind.wrap .u8 (p2.1 - 97)) + 10))) rfl) ?_
    refine f_nil ?_
    refine f_inBlock ?_
    refine f_keep [1, 8, 9, 10, 11, 12, 13, 16, 99, 100, 101] ?_
    exact s245_j10 _ hkt0 v1 v2 v3 v4 v5 v6 v7 (IntKind.wrap .u8 ((IntKind.wrap .u8 (p2.1 - 97)) + 10)) v9 v10 v11 p2.2
  · skip
    refine f_know 121 rfl (bool_F h1) ?_
    refine f_condF rfl ?_
    refine f_seq ?_
    refine f_region ?_
    exact o_none

theorem s245_j12 (kt0 : Int → Bool → ByteArray → Int → Int → Bool → Int → Sl → Int → Int → Hp → Option ((Int × AV) × Hp)) (hkt0 : ∀ (v1 : Int) (v2 : Bool) (v3 : ByteArray) (v4 : Int) (v5 : Int) (v6 : Bool) (v7 : Int) (v8 : Sl) (v9 : Int) (v10 : Int) (H : Hp), Fin Tryz.prog Tryz.f245 ret245 172 (todoAt (bodyOf Tryz.f245) [1, 1, 1, 1, 1, 1, 1, 1, 1, 1, 1, 0, 1, 0, 0] []) [(1, .int .i64 v1), (8, .bool v2), (9, .str v3), (10, .int .u64 v4), (11, .int .u64 v5), (12, .bool v6), (13, .int .u64 v7), (99, .sl v8), (100, .int .i64 v9), (101, .int .i64 v10)] H (kt0 v1 v2 v3 v4 v5 v6 v7 v8 v9 v10 H)) (v1 : Int) (v2 : Bool) (v3 : ByteArray) (v4 : Int) (v5 : Int) (v6 : Bool) (v7 : Int) (v8 : Int) (v9 : Sl) (v10 : Int) (v11 : Int) (v12 : Bool) (H : Hp) : Fin Tryz.prog Tryz.f245 ret245 172 (todoAt (bodyOf Tryz.f245) [1, 1, 1, 1, 1, 1, 1, 1, 1, 1, 1, 0, 1, 0, 0, 1, 1, 0, 0, 1, 1, 0, 0, 1, 1, 1] []) [(1, .int .i64 v1), (8, .bool v2), (9, .str v3), (10, .int .u64 v4), (11, .int .u64 v5), (12, .bool v6), (13, .int .u64 v7), (15, .int .u8 v8), (99, .sl v9), (100, .int .i64 v10), (101, .int .i64 v11), (112, .bool v12)] H (r245_j12 kt0 v1 v2 v3 v4 v5 v6 v7 v8 v9 v10 v11 v12 H) := by
  unfold r245_j12
  refine f_if (fun h1 => ?_) (fun h1 => ?_)
  · skip
    refine f_know 112 rfl (bool_T h1) ?_
    refine f_condT rfl ?_
    refine f_region ?_
    refine f_op rfl rfl (s_mv (v := .int .u8 v8) rfl) ?_
    refine f_op rfl rfl (s_sub rfl rfl) ?_
    refine f_op rfl rfl (s_as (v := .int .u8 (IntKind.wrap .u8 (v8 - 48))) rfl) ?_
    refine f_nil ?_
    refine f_inBlock ?_
    refine f_keep [1, 8, 9, 10, 11, 12, 13, 16, 99, 100, 101] ?_
    exact s245_j10 _ hkt0 v1 v2 v3 v4 v5 v6 v7 (IntKind.wrap .u8 (v8 - 48)) v9 v10 v11 H
  · skip
    refine f_know 112 rfl (bool_F h1) ?_
    refine f_condF rfl ?_
    refine f_seq ?_
    refine f_region ?_
    refine f_op rfl rfl (s_mv (v := .int .u8 v8) rfl) ?_
    refine o_bind ?_; intro p2 hp2
    refine f_op rfl rfl (s_callF rfl ok258 (sim258 hp2)) ?_
    refine f_op rfl rfl (s_leq rfl rfl) ?_
    refine f_op rfl rfl (s_mv (v := .bool (decide (97 ≤ p2.1))) rfl) ?_
    refine o_if (fun h3 => ?_) (fun h3 => ?_)
    · skip
      refine o_know 125 rfl (dec_true h3) ?_
      refine f_op rfl rfl (s_mv (v := .int .u8 v8) rfl) ?_
      refine o_bind ?_; intro p4 hp4
      refine f_op rfl rfl (s_callF rfl ok258 (sim258 hp4)) ?_
      refine f_op rfl rfl (s_leq rfl rfl) ?_
      refine f_op rfl rfl (s_pickT (v := .bool (decide (p4.1 ≤ 122))) rfl rfl) ?_
      refine f_op rfl rfl (s_as (v := .bool (decide (p4.1 ≤ 122))) rfl) ?_
      refine f_nil ?_
      refine f_keep [1, 8, 9, 10, 11, 12, 13, 15, 99, 100, 101, 121] ?_
      exact s245_j11 _ hkt0 v1 v2 v3 v4 v5 v6 v7 v8 v9 v10 v11 (decide (p4.1 ≤ 122)) p4.2
    · skip
      refine o_know 125 rfl (dec_false h3) ?_
      refine f_no rfl rfl ?_
      refine f_no rfl rfl ?_
      refine f_no rfl rfl ?_
      refine f_op rfl rfl (s_pickF (v := .bool false) rfl rfl) ?_
      refine f_op rfl rfl (s_as (v := .bool false) rfl) ?_
      refine f_nil ?_
      refine f_keep [1, 8, 9, 10, 11, 12, 13, 15, 99, 100, 101, 121] ?_
      exact s245_j11 _ hkt0 v1 v2 v3 v4 v5 v6 v7 v8 v9 v10 v11 false p2.2

theorem s245_j13 (kt0 : Int → Bool → ByteArray → Int → Int → Bool → Int → Sl → Int → Int → Hp → Option ((Int × AV) × Hp)) (hkt0 : ∀ (v1 : Int) (v2 : Bool) (v3 : ByteArray) (v4 : Int) (v5 : Int) (v6 : Bool) (v7 : Int) (v8 : Sl) (v9 : Int) (v10 : Int) (H : Hp), Fin Tryz.prog Tryz.f245 ret245 172 (todoAt (bodyOf Tryz.f245) [1, 1, 1, 1, 1, 1, 1, 1, 1, 1, 1, 0, 1, 0, 0] []) [(1, .int .i64 v1), (8, .bool v2), (9, .str v3), (10, .int .u64 v4), (11, .int .u64 v5), (12, .bool v6), (13, .int .u64 v7), (99, .sl v8), (100, .int .i64 v9), (101, .int .i64 v10)] H (kt0 v1 v2 v3 v4 v5 v6 v7 v8 v9 v10 H)) (v1 : Int) (v2 : Bool) (v3 : ByteArray) (v4 : Int) (v5 : Int) (v6 : Bool) (v7 : Int) (v8 : Int) (v9 : Sl) (v10 : Int) (v11 : Int) (v12 : Bool) (H : Hp) : Fin Tryz.prog Tryz.f245 ret245 172 (todoAt (bodyOf Tryz.f245) [1, 1, 1, 1, 1, 1, 1, 1, 1, 1, 1, 0, 1, 0, 0, 1, 1, 0, 0, 1, 1, 0, 0, 1] []) [(1, .int .i64 v1), (8, .bool v2), (9, .str v3), (10, .int .u64 v4), (11, .int .u64 v5), (12, .bool v6), (13, .int .u64 v7), (15, .int .u8 v8), (99, .sl v9), (100, .int .i64 v10), (101, .int .i64 v11), (106, .bool v12)] H (r245_j13 kt0 v1 v2 v3 v4 v5 v6 v7 v8 v9 v10 v11 v12 H) := by
  unfold r245_j13
  refine f_if (fun h1 => ?_) (fun h1 => ?_)
  · skip
    refine f_know 106 rfl (bool_T h1) ?_
    refine f_condT rfl ?_
    refine f_seq ?_
    refine f_region ?_
    refine f_op rfl rfl (s_as (v := .bool true) rfl) ?_
    refine f_nil ?_
    refine f_exit rfl ?_
    refine f_region ?_
    refine f_op rfl rfl (s_add rfl rfl) ?_
    refine f_op rfl rfl (s_mv (v := .int .i64 (w64 (v11 + 1))) rfl) ?_
    refine f_nil ?_
    refine f_inLoop ?_
    refine f_keep [1, 8, 9, 10, 11, 12, 13, 99, 100, 101] ?_
    exact hkt0 v1 v2 v3 v4 v5 true v7 v9 v10 (w64 (v11 + 1)) H
  · skip
    refine f_know 106 rfl (bool_F h1) ?_
    refine f_condF rfl ?_
    refine f_seq ?_
    refine f_region ?_
    refine f_op rfl rfl (s_mv (v := .int .u8 v8) rfl) ?_
    refine f_op rfl rfl (s_leq rfl rfl) ?_
    refine f_op rfl rfl (s_mv (v := .bool (decide (48 ≤ v8))) rfl) ?_
    refine o_if (fun h2 => ?_) (fun h2 => ?_)
    · skip
      refine o_know 115 rfl (dec_true h2) ?_
      refine f_op rfl rfl (s_mv (v := .int .u8 v8) rfl) ?_
      refine f_op rfl rfl (s_leq rfl rfl) ?_
      refine f_op rfl rfl (s_pickT (v := .bool (decide (v8 ≤ 57))) rfl rfl) ?_
      refine f_op rfl rfl (s_as (v := .bool (decide (v8 ≤ 57))) rfl) ?_
      refine f_nil ?_
      refine f_keep [1, 8, 9, 10, 11, 12, 13, 15, 99, 100, 101, 112] ?_
      exact s245_j12 _ hkt0 v1 v2 v3 v4 v5 v6 v7 v8 v9 v10 v11 (decide (v8 ≤ 57)) H
    · skip
      refine o_know 115 rfl (dec_false h2) ?_
      refine f_no rfl rfl ?_
      refine f_no rfl rfl ?_
      refine f_op rfl rfl (s_pickF (v := .bool false) rfl rfl) ?_
      refine f_op rfl rfl (s_as (v := .bool false) rfl) ?_
      refine f_nil ?_
      refine f_keep [1, 8, 9, 10, 11, 12, 13, 15, 99, 100, 101, 112] ?_
      exact s245_j12 _ hkt0 v1 v2 v3 v4 v5 v6 v7 v8 v9 v10 v11 false H

theorem s245_j14 (v1 : Int) (v2 : Bool) (H : Hp) : Fin Tryz.prog Tryz.f245 ret245 172 (todoAt (bodyOf Tryz.f245) [1, 1, 1, 1, 1, 1, 1, 1, 1, 1, 1, 1, 0, 1] []) [(13, .int .u64 v1), (169, .bool v2)] H (r245_j14 v1 v2 H) := by
  unfold r245_j14
  refine f_if (fun h1 => ?_) (fun h1 => ?_)
  · skip
    refine f_know 169 rfl (bool_T h1) ?_
    refine f_condT rfl ?_
    refine f_seq ?_
    refine f_region ?_
    exact o_none
  · skip
    refine f_know 169 rfl (bool_F h1) ?_
    refine f_condF rfl ?_
    refine f_skip ?_
    refine f_seq ?_
    refine f_region ?_
    refine f_op rfl rfl (s_mv (v := .int .u64 v1) rfl) ?_
    refine f_op rfl rfl (s_as (v := .int .u64 v1) rfl) ?_
    refine f_op rfl rfl (s_as (v := .niliface) rfl) ?_
    refine f_nil ?_
    exact f_ret (.tmp rfl (.tmp rfl (.nil))) rfl

theorem s245_l0 : ∀ (k_ : Nat) (v1 : Int) (v2 : Bool) (v3 : ByteArray) (v4 : Int) (v5 : Int) (v6 : Bool) (v7 : Int) (v8 : Sl) (v9 : Int) (v10 : Int) (H : Hp), Fin Tryz.prog Tryz.f245 ret245 172 (todoAt (bodyOf Tryz.f245) [1, 1, 1, 1, 1, 1, 1, 1, 1, 1, 1, 0, 1, 0, 0] []) [(1, .int .i64 v1), (8, .bool v2), (9, .str v3), (10, .int .u64 v4), (11, .int .u64 v5), (12, .bool v6), (13, .int .u64 v7), (99, .sl v8), (100, .int .i64 v9), (101, .int .i64 v10)] H (r245_l0 k_ v1 v2 v3 v4 v5 v6 v7 v8 v9 v10 H) := by
  intro k_
  induction k_ with
  | zero => intro _ _ _ _ _ _ _ _ _ _ _; exact f_none
  | succ k_ ih =>
    intro v1 v2 v3 v4 v5 v6 v7 v8 v9 v10 H
    rw [r245_l0]
    refine f_seq ?_
    refine f_region ?_
    refine f_op rfl rfl (s_lss rfl rfl) ?_
    refine f_nil ?_
    refine f_seq ?_
    refine f_if (fun h1 => ?_) (fun h1 => ?_)
    · skip
      refine f_know 102 rfl (dec_true h1) ?_
      refine f_condT rfl ?_
      refine f_skip ?_
      refine f_seq ?_
      refine f_block ?_
      refine f_seq ?_
      refine f_region ?_
      refine o_ck fun g2 => ?_
      refine f_op rfl rfl (s_idx Tryz.underlying40 ty5 rfl rfl g2) ?_
      refine o_bind ?_; intro x3 hx3
      refine f_op rfl rfl (s_load Tryz.underlying5 rfl rfl (ldI_eq hx3)) ?_
      refine f_op rfl rfl (s_as (v := .int .u8 x3) rfl) ?_
      refine f_nil ?_
      refine f_seq ?_
      refine f_region ?_
      refine f_op rfl rfl (s_as (v := .int .u8 0) rfl) ?_
      refine f_nil ?_
      refine f_seq ?_
      refine f_block ?_
      refine f_seq ?_
      refine f_region ?_
      refine f_op rfl rfl (s_mv (v := .int .u8 x3) rfl) ?_
      refine f_op rfl rfl (s_eql rfl rfl) ?_
      refine f_op rfl rfl (s_mv (v := .bool (decide (x3 = 95))) rfl) ?_
      refine o_if (fun h4 => ?_) (fun h4 => ?_)
      · skip
        refine o_know 109 rfl (dec_true h4) ?_
        refine f_op rfl rfl (s_mv (v := .bool v2) rfl) ?_
        refine f_op rfl rfl (s_pickT (v := .bool v2) rfl rfl) ?_
        refine f_op rfl rfl (s_as (v := .bool v2) rfl) ?_
        refine f_nil ?_
        refine f_keep [1, 8, 9, 10, 11, 12, 13, 15, 99, 100, 101, 106] ?_
        exact s245_j13 _ (fun v1_ v2_ v3_ v4_ v5_ v6_ v7_ v8_ v9_ v10_ H_ => ih v1_ v2_ v3_ v4_ v5_ v6_ v7_ v8_ v9_ v10_ H_) v1 v2 v3 v4 v5 v6 v7 x3 v8 v9 v10 v2 H
      · skip
        refine o_know 109 rfl (dec_false h4) ?_
        refine f_no rfl rfl ?_
        refine f_op rfl rfl (s_pickF (v := .bool false) rfl rfl) ?_
        refine f_op rfl rfl (s_as (v := .bool false) rfl) ?_
        refine f_nil ?_
        refine f_keep [1, 8, 9, 10, 11, 12, 13, 15, 99, 100, 101, 106] ?_
        exact s245_j13 _ (fun v1_ v2_ v3_ v4_ v5_ v6_ v7_ v8_ v9_ v10_ H_ => ih v1_ v2_ v3_ v4_ v5_ v6_ v7_ v8_ v9_ v10_ H_) v1 v2 v3 v4 v5 v6 v7 x3 v8 v9 v10 false H
    · skip
      refine f_know 102 rfl (dec_false h1) ?_
      refine f_condF rfl ?_
      refine f_exit rfl ?_
      refine f_seq ?_
      refine f_seq ?_
      refine f_region ?_
      refine f_op rfl rfl (s_mv (v := .bool v6) rfl) ?_
      refine f_op rfl rfl (s_mv (v := .bool v6) rfl) ?_
      refine o_if (fun h5 => ?_) (fun h5 => ?_)
      · skip
        refine o_know 165 rfl (bool_T h5) ?_
        refine f_op rfl rfl (s_mv (v := .str v3) rfl) ?_
        refine o_bind ?_; intro p6 hp6
        refine f_op rfl rfl (s_callF rfl ok259 (sim259 hp6)) ?_
        refine f_op rfl rfl (s_not rfl) ?_
        refine f_op rfl rfl (s_pickT (v := .bool (!p6.1)) rfl rfl) ?_
        refine f_nil ?_
        refine f_keep [13, 169] ?_
        exact s245_j14 v7 (!p6.1) p6.2
      · skip
        refine o_know 165 rfl (bool_F h5) ?_
        refine f_no rfl rfl ?_
        refine f_no rfl rfl ?_
        refine f_no rfl rfl ?_
        refine f_op rfl rfl (s_pickF (v := .bool false) rfl rfl) ?_
        refine f_nil ?_
        refine f_keep [13, 169] ?_
        exact s245_j14 v7 false H

theorem s245_j1 (v1 : ByteArray) (v2 : Int) (v3 : Int) (v4 : Bool) (v5 : ByteArray) (v6 : Int) (H : Hp) : Fin Tryz.prog Tryz.f245 ret245 172 (todoAt (bodyOf Tryz.f245) [1, 1, 1, 1, 1, 1, 1, 1] []) [(0, .str v1), (1, .int .i64 v2), (2, .int .i64 v3), (8, .bool v4), (9, .str v5), (10, .int .u64 v6)] H (r245_j1 v1 v2 v3 v4 v5 v6 H) := by
  unfold r245_j1
  refine f_seq ?_
  refine f_region ?_
  refine f_op rfl rfl (s_mv (v := .int .i64 v3) rfl) ?_
  refine f_op rfl rfl (s_convInt Tryz.underlying3 Tryz.underlying27 rfl) ?_
  refine o_ck fun g1 => ?_
  refine f_op rfl rfl (s_shl rfl rfl g1) ?_
  refine f_op rfl rfl (s_sub rfl rfl) ?_
  refine f_op rfl rfl (s_as (v := .int .u64 (IntKind.wrap .u64 ((shlOf .u64 1 (IntKind.wrap .u64 (v3))) - 1))) rfl) ?_
  refine f_nil ?_
  refine f_seq ?_
  refine f_region ?_
  refine f_op rfl rfl (s_as (v := .bool false) rfl) ?_
  refine f_nil ?_
  refine f_seq ?_
  refine f_region ?_
  refine f_op rfl rfl (s_as (v := .int .u64 0) rfl) ?_
  refine f_nil ?_
  refine f_seq ?_
  refine f_seq ?_
  refine f_region ?_
  refine f_op rfl rfl (s_mv (v := .str v1) rfl) ?_
  refine f_op rfl rfl (s_strBytes Tryz.underlying9 Tryz.underlying40 Tryz.underlying5 rfl) ?_
  refine f_op rfl rfl (s_lenS rfl Tryz.underlying40 rfl) ?_
  refine f_op rfl rfl (s_mv (v := .int .i64 0) rfl) ?_
  refine o_hp ?_; intro H2 hH2
  refine f_nil ?_
  refine f_block ?_
  refine f_loop ?_
  refine f_keep [1, 8, 9, 10, 11, 12, 13, 99, 100, 101] ?_
  exact s245_l0 FUEL v2 v4 v5 v6 (IntKind.wrap .u64 ((shlOf .u64 1 (IntKind.wrap .u64 (v3))) - 1)) false 0 ⟨false, H.n, 0, v1.size, v1.size, 1⟩ ((⟨false, H.n, 0, v1.size, v1.size, 1⟩ : Sl).len : Int) 0 H2

theorem s245_j8 (v1 : ByteArray) (v2 : Int) (v3 : Int) (v4 : Bool) (v5 : ByteArray) (H : Hp) : Fin Tryz.prog Tryz.f245 ret245 172 (todoAt (bodyOf Tryz.f245) [1, 1, 1, 1, 1, 1] []) [(0, .str v1), (1, .int .i64 v2), (2, .int .i64 v3), (8, .bool v4), (9, .str v5)] H (r245_j8 v1 v2 v3 v4 v5 H) := by
  unfold r245_j8
  refine f_seq ?_
  refine f_region ?_
  refine f_op rfl rfl (s_as (v := .int .u64 0) rfl) ?_
  refine f_nil ?_
  refine f_seq ?_
  refine f_seq ?_
  refine f_region ?_
  refine f_op rfl rfl (s_mv (v := .int .i64 v2) rfl) ?_
  refine f_nil ?_
  refine f_block ?_
  refine f_seq ?_
  refine f_region ?_
  refine f_op rfl rfl (s_eql rfl rfl) ?_
  refine f_op rfl rfl (s_as (v := .bool (decide (v2 = 10))) rfl) ?_
  refine f_nil ?_
  refine f_if (fun h1 => ?_) (fun h1 => ?_)
  · skip
    refine f_know 90 rfl (dec_true h1) ?_
    refine f_condT rfl ?_
    refine f_region ?_
    refine f_op rfl rfl (s_as (v := .int .u64 1844674407370955162) rfl) ?_
    refine f_nil ?_
    refine f_inBlock ?_
    refine f_keep [0, 1, 2, 8, 9, 10] ?_
    exact s245_j1 v1 v2 v3 v4 v5 1844674407370955162 H
  · skip
    refine f_know 90 rfl (dec_false h1) ?_
    refine f_condF rfl ?_
    refine f_seq ?_
    refine f_region ?_
    refine f_op rfl rfl (s_eql rfl rfl) ?_
    refine f_op rfl rfl (s_as (v := .bool (decide (v2 = 16))) rfl) ?_
    refine f_nil ?_
    refine f_if (fun h2 => ?_) (fun h2 => ?_)
    · skip
      refine f_know 92 rfl (dec_true h2) ?_
      refine f_condT rfl ?_
      refine f_region ?_
      refine f_op rfl rfl (s_as (v := .int .u64 1152921504606846976) rfl) ?_
      refine f_nil ?_
      refine f_inBlock ?_
      refine f_keep [0, 1, 2, 8, 9, 10] ?_
      exact s245_j1 v1 v2 v3 v4 v5 1152921504606846976 H
    · skip
      refine f_know 92 rfl (dec_false h2) ?_
      refine f_condF rfl ?_
      refine f_region ?_
      refine f_op rfl rfl (s_mv (v := .int .i64 v2) rfl) ?_
      refine f_op rfl rfl (s_convInt Tryz.underlying3 Tryz.underlying214 rfl) ?_
      refine o_ck fun g3 => ?_
      refine f_op rfl rfl (s_quo rfl rfl g3) ?_
      refine f_op rfl rfl (s_add rfl rfl) ?_
      refine f_op rfl rfl (s_as (v := .int .u64 (IntKind.wrap .u64 ((IntKind.wrap .u64 (Int.tdiv 18446744073709551615 (IntKind.wrap .u64 (v2)))) + 1))) rfl) ?_
      refine f_nil ?_
      refine f_inBlock ?_
      refine f_keep [0, 1, 2, 8, 9, 10] ?_
      exact s245_j1 v1 v2 v3 v4 v5 (IntKind.wrap .u64 ((IntKind.wrap .u64 (Int.tdiv 18446744073709551615 (IntKind.wrap .u64 (v2)))) + 1)) H

theorem s245_j2 (v1 : ByteArray) (v2 : Int) (v3 : Int) (v4 : Bool) (v5 : ByteArray) (v6 : Bool) (H : Hp) : Fin Tryz.prog Tryz.f245 ret245 172 (todoAt (bodyOf Tryz.f245) [1, 1, 1, 1, 1, 0, 1, 1, 1] []) [(0, .str v1), (1, .int .i64 v2), (2, .int .i64 v3), (8, .bool v4), (9, .str v5), (83, .bool v6)] H (r245_j2 v1 v2 v3 v4 v5 v6 H) := by
  unfold r245_j2
  refine f_if (fun h1 => ?_) (fun h1 => ?_)
  · skip
    refine f_know 83 rfl (bool_T h1) ?_
    refine f_condT rfl ?_
    refine f_seq ?_
    refine f_region ?_
    exact o_none
  · skip
    refine f_know 83 rfl (bool_F h1) ?_
    refine f_condF rfl ?_
    refine f_skip ?_
    refine f_keep [0, 1, 2, 8, 9] ?_
    exact s245_j8 v1 v2 v3 v4 v5 H

theorem s245_j3 (v1 : ByteArray) (v2 : Int) (v3 : Int) (v4 : Bool) (v5 : ByteArray) (H : Hp) : Fin Tryz.prog Tryz.f245 ret245 172 (todoAt (bodyOf Tryz.f245) [1, 1, 1, 1, 1] []) [(0, .str v1), (1, .int .i64 v2), (2, .int .i64 v3), (8, .bool v4), (9, .str v5)] H (r245_j3 v1 v2 v3 v4 v5 H) := by
  unfold r245_j3
  refine f_seq ?_
  refine f_seq ?_
  refine f_region ?_
  refine f_op rfl rfl (s_mv (v := .int .i64 v3) rfl) ?_
  refine f_op rfl rfl (s_eql rfl rfl) ?_
  refine f_nil ?_
  refine f_if (fun h1 => ?_) (fun h1 => ?_)
  · skip
    refine f_know 77 rfl (dec_true h1) ?_
    refine f_condT rfl ?_
    refine f_region ?_
    refine f_op rfl rfl (s_as (v := .int .i64 64) rfl) ?_
    refine f_nil ?_
    refine f_keep [0, 1, 2, 8, 9] ?_
    exact s245_j8 v1 v2 64 v4 v5 H
  · skip
    refine f_know 77 rfl (dec_false h1) ?_
    refine f_condF rfl ?_
    refine f_seq ?_
    refine f_region ?_
    refine f_op rfl rfl (s_mv (v := .int .i64 v3) rfl) ?_
    refine f_op rfl rfl (s_lss rfl rfl) ?_
    refine f_op rfl rfl (s_mv (v := .bool (decide (v3 < 0))) rfl) ?_
    refine o_if (fun h2 => ?_) (fun h2 => ?_)
    · skip
      refine o_know 80 rfl (dec_true h2) ?_
      refine f_no rfl rfl ?_
      refine f_no rfl rfl ?_
      refine f_op rfl rfl (s_pickT (v := .bool true) rfl rfl) ?_
      refine f_nil ?_
      refine f_keep [0, 1, 2, 8, 9, 83] ?_
      exact s245_j2 v1 v2 v3 v4 v5 true H
    · skip
      refine o_know 80 rfl (dec_false h2) ?_
      refine f_op rfl rfl (s_mv (v := .int .i64 v3) rfl) ?_
      refine f_op rfl rfl (s_gtr rfl rfl) ?_
      refine f_op rfl rfl (s_pickF (v := .bool (decide (64 < v3))) rfl rfl) ?_
      refine f_nil ?_
      refine f_keep [0, 1, 2, 8, 9, 83] ?_
      exact s245_j2 v1 v2 v3 v4 v5 (decide (64 < v3)) H

theorem s245_j7 (v1 : ByteArray) (v2 : Int) (v3 : Bool) (v4 : ByteArray) (v5 : Bool) (H : Hp) : Fin Tryz.prog Tryz.f245 ret245 172 (todoAt (bodyOf Tryz.f245) [1, 1, 1, 1, 0, 0, 1, 1, 1, 0, 1, 1, 0, 0, 1, 1, 1, 1, 1] []) [(0, .str v1), (2, .int .i64 v2), (8, .bool v3), (9, .str v4), (64, .bool v5)] H (r245_j7 v1 v2 v3 v4 v5 H) := by
  unfold r245_j7
  refine f_if (fun h1 => ?_) (fun h1 => ?_)
  · skip
    refine f_know 64 rfl (bool_T h1) ?_
    refine f_condT rfl ?_
    refine f_seq ?_
    refine f_region ?_
    refine f_op rfl rfl (s_as (v := .int .i64 16) rfl) ?_
    refine f_nil ?_
    refine f_region ?_
    refine f_op rfl rfl (s_mv (v := .str v1) rfl) ?_
    refine o_ck fun g2 => ?_
    refine f_op rfl rfl (s_sliceStr Tryz.underlying9 rfl rfl rfl g2) ?_
    refine f_op rfl rfl (s_as (v := .str (v1.extract (2 : Int).toNat ((v1.size : Int) : Int).toNat)) rfl) ?_
    refine f_nil ?_
    refine f_inBlock ?_
    refine f_inBlock ?_
    refine f_keep [0, 1, 2, 8, 9] ?_
    exact s245_j3 (v1.extract (2 : Int).toNat ((v1.size : Int) : Int).toNat) 16 v2 v3 v4 H
  · skip
    refine f_know 64 rfl (bool_F h1) ?_
    refine f_condF rfl ?_
    refine f_seq ?_
    refine f_region ?_
    refine f_op rfl rfl (s_as (v := .int .i64 8) rfl) ?_
    refine f_nil ?_
    refine f_region ?_
    refine f_op rfl rfl (s_mv (v := .str v1) rfl) ?_
    refine o_ck fun g3 => ?_
    refine f_op rfl rfl (s_sliceStr Tryz.underlying9 rfl rfl rfl g3) ?_
    refine f_op rfl rfl (s_as (v := .str (v1.extract (1 : Int).toNat ((v1.size : Int) : Int).toNat)) rfl) ?_
    refine f_nil ?_
    refine f_inBlock ?_
    refine f_inBlock ?_
    refine f_keep [0, 1, 2, 8, 9] ?_
    exact s245_j3 (v1.extract (1 : Int).toNat ((v1.size : Int) : Int).toNat) 8 v2 v3 v4 H

theorem s245_j6 (v1 : ByteArray) (v2 : Int) (v3 : Bool) (v4 : ByteArray) (v5 : Bool) (H : Hp) : Fin Tryz.prog Tryz.f245 ret245 172 (todoAt (bodyOf Tryz.f245) [1, 1, 1, 1, 0, 0, 1, 1, 1, 0, 1, 1, 0, 0, 1, 1, 1] []) [(0, .str v1), (2, .int .i64 v2), (8, .bool v3), (9, .str v4), (52, .bool v5)] H (r245_j6 v1 v2 v3 v4 v5 H) := by
  unfold r245_j6
  refine f_if (fun h1 => ?_) (fun h1 => ?_)
  · skip
    refine f_know 52 rfl (bool_T h1) ?_
    refine f_condT rfl ?_
    refine f_seq ?_
    refine f_region ?_
    refine f_op rfl rfl (s_as (v := .int .i64 8) rfl) ?_
    refine f_nil ?_
    refine f_region ?_
    refine f_op rfl rfl (s_mv (v := .str v1) rfl) ?_
    refine o_ck fun g2 => ?_
    refine f_op rfl rfl (s_sliceStr Tryz.underlying9 rfl rfl rfl g2) ?_
    refine f_op rfl rfl (s_as (v := .str (v1.extract (2 : Int).toNat ((v1.size : Int) : Int).toNat)) rfl) ?_
    refine f_nil ?_
    refine f_inBlock ?_
    refine f_inBlock ?_
    refine f_keep [0, 1, 2, 8, 9] ?_
    exact s245_j3 (v1.extract (2 : Int).toNat ((v1.size : Int) : Int).toNat) 8 v2 v3 v4 H
  · skip
    refine f_know 52 rfl (bool_F h1) ?_
    refine f_condF rfl ?_
    refine f_seq ?_
    refine f_region ?_
    refine f_op rfl rfl (s_mv (v := .str v1) rfl) ?_
    refine f_op rfl rfl (s_lenStr rfl Tryz.underlying9 rfl) ?_
    refine f_op rfl rfl (s_geq rfl rfl) ?_
    refine f_op rfl rfl (s_mv (v := .bool (decide (3 ≤ (v1.size : Int)))) rfl) ?_
    refine o_if (fun h3 => ?_) (fun h3 => ?_)
    · skip
      refine o_know 68 rfl (dec_true h3) ?_
      refine f_op rfl rfl (s_mv (v := .str v1) rfl) ?_
      refine o_ck fun g4 => ?_
      refine f_op rfl rfl (s_indexStr Tryz.underlying9 rfl rfl g4) ?_
      refine o_bind ?_; intro p5 hp5
      refine f_op rfl rfl (s_callF rfl ok258 (sim258 hp5)) ?_
      refine f_op rfl rfl (s_eql rfl rfl) ?_
      refine f_op rfl rfl (s_pickT (v := .bool (decide (p5.1 = 120))) rfl rfl) ?_
      refine f_op rfl rfl (s_as (v := .bool (decide (p5.1 = 120))) rfl) ?_
      refine f_nil ?_
      refine f_keep [0, 2, 8, 9, 64] ?_
      exact s245_j7 v1 v2 v3 v4 (decide (p5.1 = 120)) p5.2
    · skip
      refine o_know 68 rfl (dec_false h3) ?_
      refine f_no rfl rfl ?_
      refine f_no rfl rfl ?_
      refine f_no rfl rfl ?_
      refine f_no rfl rfl ?_
      refine f_op rfl rfl (s_pickF (v := .bool false) rfl rfl) ?_
      refine f_op rfl rfl (s_as (v := .bool false) rfl) ?_
      refine f_nil ?_
      refine f_keep [0, 2, 8, 9, 64] ?_
      exact s245_j7 v1 v2 v3 v4 false H

theorem s245_j4 (v1 : ByteArray) (v2 : Int) (v3 : Bool) (v4 : ByteArray) (v5 : Bool) (H : Hp) : Fin Tryz.prog Tryz.f245 ret245 172 (todoAt (bodyOf Tryz.f245) [1, 1, 1, 1, 0, 0, 1, 1, 1, 0, 1, 1, 0, 0, 1] []) [(0, .str v1), (2, .int .i64 v2), (8, .bool v3), (9, .str v4), (40, .bool v5)] H (r245_j4 v1 v2 v3 v4 v5 H) := by
  unfold r245_j4
  refine f_if (fun h1 => ?_) (fun h1 => ?_)
  · skip
    refine f_know 40 rfl (bool_T h1) ?_
    refine f_condT rfl ?_
    refine f_seq ?_
    refine f_region ?_
    refine f_op rfl rfl (s_as (v := .int .i64 2) rfl) ?_
    refine f_nil ?_
    refine f_region ?_
    refine f_op rfl rfl (s_mv (v := .str v1) rfl) ?_
    refine o_ck fun g2 => ?_
    refine f_op rfl rfl (s_sliceStr Tryz.underlying9 rfl rfl rfl g2) ?_
    refine f_op rfl rfl (s_as (v := .str (v1.extract (2 : Int).toNat ((v1.size : Int) : Int).toNat)) rfl) ?_
    refine f_nil ?_
    refine f_inBlock ?_
    refine f_inBlock ?_
    refine f_keep [0, 1, 2, 8, 9] ?_
    exact s245_j3 (v1.extract (2 : Int).toNat ((v1.size : Int) : Int).toNat) 2 v2 v3 v4 H
  · skip
    refine f_know 40 rfl (bool_F h1) ?_
    refine f_condF rfl ?_
    refine f_seq ?_
    refine f_region ?_
    refine f_op rfl rfl (s_mv (v := .str v1) rfl) ?_
    refine f_op rfl rfl (s_lenStr rfl Tryz.underlying9 rfl) ?_
    refine f_op rfl rfl (s_geq rfl rfl) ?_
    refine f_op rfl rfl (s_mv (v := .bool (decide (3 ≤ (v1.size : Int)))) rfl) ?_
    refine o_if (fun h3 => ?_) (fun h3 => ?_)
    · skip
      refine o_know 56 rfl (dec_true h3) ?_
      refine f_op rfl rfl (s_mv (v := .str v1) rfl) ?_
      refine o_ck fun g4 => ?_
      refine f_op rfl rfl (s_indexStr Tryz.underlying9 rfl rfl g4) ?_
      refine o_bind ?_; intro p5 hp5
      refine f_op rfl rfl (s_callF rfl ok258 (sim258 hp5)) ?_
      refine f_op rfl rfl (s_eql rfl rfl) ?_
      refine f_op rfl rfl (s_pickT (v := .bool (decide (p5.1 = 111))) rfl rfl) ?_
      refine f_op rfl rfl (s_as (v := .bool (decide (p5.1 = 111))) rfl) ?_
      refine f_nil ?_
      refine f_keep [0, 2, 8, 9, 52] ?_
      exact s245_j6 v1 v2 v3 v4 (decide (p5.1 = 111)) p5.2
    · skip
      refine o_know 56 rfl (dec_false h3) ?_
      refine f_no rfl rfl ?_
      refine f_no rfl rfl ?_
      refine f_no rfl rfl ?_
      refine f_no rfl rfl ?_
      refine f_op rfl rfl (s_pickF (v := .bool false) rfl rfl) ?_
      refine f_op rfl rfl (s_as (v := .bool false) rfl) ?_
      refine f_nil ?_
      refine f_keep [0, 2, 8, 9, 52] ?_
      exact s245_j6 v1 v2 v3 v4 false H

theorem s245_j5 (v1 : ByteArray) (v2 : Int) (v3 : Int) (v4 : Bool) (v5 : ByteArray) (v6 : Bool) (H : Hp) : Fin Tryz.prog Tryz.f245 ret245 172 (todoAt (bodyOf Tryz.f245) [1, 1, 1, 1, 0, 0, 1] []) [(0, .str v1), (1, .int .i64 v2), (2, .int .i64 v3), (8, .bool v4), (9, .str v5), (25, .bool v6)] H (r245_j5 v1 v2 v3 v4 v5 v6 H) := by
  unfold r245_j5
  refine f_if (fun h1 => ?_) (fun h1 => ?_)
  · skip
    refine f_know 25 rfl (bool_T h1) ?_
    refine f_condT rfl ?_
    refine f_skip ?_
    refine f_inBlock ?_
    refine f_keep [0, 1, 2, 8, 9] ?_
    exact s245_j3 v1 v2 v3 v4 v5 H
  · skip
    refine f_know 25 rfl (bool_F h1) ?_
    refine f_condF rfl ?_
    refine f_seq ?_
    refine f_region ?_
    refine f_op rfl rfl (s_mv (v := .int .i64 v2) rfl) ?_
    refine f_op rfl rfl (s_eql rfl rfl) ?_
    refine f_op rfl rfl (s_as (v := .bool (decide (v2 = 0))) rfl) ?_
    refine f_nil ?_
    refine f_if (fun h2 => ?_) (fun h2 => ?_)
    · skip
      refine f_know 32 rfl (dec_true h2) ?_
      refine f_condT rfl ?_
      refine f_seq ?_
      refine f_region ?_
      refine f_op rfl rfl (s_as (v := .int .i64 10) rfl) ?_
      refine f_nil ?_
      refine f_seq ?_
      refine f_region ?_
      refine f_op rfl rfl (s_mv (v := .str v1) rfl) ?_
      refine o_ck fun g3 => ?_
      refine f_op rfl rfl (s_indexStr Tryz.underlying9 rfl rfl g3) ?_
      refine f_op rfl rfl (s_eql rfl rfl) ?_
      refine f_nil ?_
      refine f_if (fun h4 => ?_) (fun h4 => ?_)
      · skip
        refine f_know 37 rfl (dec_true h4) ?_
        refine f_condT rfl ?_
        refine f_block ?_
        refine f_seq ?_
        refine f_region ?_
        refine f_op rfl rfl (s_mv (v := .str v1) rfl) ?_
        refine f_op rfl rfl (s_lenStr rfl Tryz.underlying9 rfl) ?_
        refine f_op rfl rfl (s_geq rfl rfl) ?_
        refine f_op rfl rfl (s_mv (v := .bool (decide (3 ≤ (v1.size : Int)))) rfl) ?_
        refine o_if (fun h5 => ?_) (fun h5 => ?_)
        · skip
          refine o_know 44 rfl (dec_true h5) ?_
          refine f_op rfl rfl (s_mv (v := .str v1) rfl) ?_
          refine o_ck fun g6 => ?_
          refine f_op rfl rfl (s_indexStr Tryz.underlying9 rfl rfl g6) ?_
          refine o_bind ?_; intro p7 hp7
          refine f_op rfl rfl (s_callF rfl ok258 (sim258 hp7)) ?_
          refine f_op rfl rfl (s_eql rfl rfl) ?_
          refine f_op rfl rfl (s_pickT (v := .bool (decide (p7.1 = 98))) rfl rfl) ?_
          refine f_op rfl rfl (s_as (v := .bool (decide (p7.1 = 98))) rfl) ?_
          refine f_nil ?_
          refine f_keep [0, 2, 8, 9, 40] ?_
          exact s245_j4 v1 v3 v4 v5 (decide (p7.1 = 98)) p7.2
        · skip
          refine o_know 44 rfl (dec_false h5) ?_
          refine f_no rfl rfl ?_
          refine f_no rfl rfl ?_
          refine f_no rfl rfl ?_
          refine f_no rfl rfl ?_
          refine f_op rfl rfl (s_pickF (v := .bool false) rfl rfl) ?_
          refine f_op rfl rfl (s_as (v := .bool false) rfl) ?_
          refine f_nil ?_
          refine f_keep [0, 2, 8, 9, 40] ?_
          exact s245_j4 v1 v3 v4 v5 false H
      · skip
        refine f_know 37 rfl (dec_false h4) ?_
        refine f_condF rfl ?_
        refine f_skip ?_
        refine f_inBlock ?_
        refine f_keep [0, 1, 2, 8, 9] ?_
        exact s245_j3 v1 10 v3 v4 v5 H
    · skip
      refine f_know 32 rfl (dec_false h2) ?_
      refine f_condF rfl ?_
      refine f_seq ?_
      refine f_region ?_
      exact o_none

theorem sim245 {a0 : ByteArray} {a1 : Int} {a2 : Int} {H : Hp} {p : (Int × AV) × Hp} (h : r245 a0 a1 a2 H = some p) : CallSim Tryz.prog 245 [.str a0, .int .i64 a1, .int .i64 a2] H (.tup [.int .u64 p.1.1, p.1.2]) p.2 := by
  refine callSim (fn := Tryz.f245) (ret := ret245) Tryz.func245 rfl Tryz.ntmps245 rfl ?_ h
  unfold r245
  refine f_seq ?_
  refine f_region ?_
  refine f_op rfl rfl (s_as (v := .int .u64 0) rfl) ?_
  refine f_op rfl rfl (s_as (v := .niliface) rfl) ?_
  refine f_nil ?_
  refine f_seq ?_
  refine f_seq ?_
  refine f_region ?_
  refine f_op rfl rfl (s_mv (v := .str a0) rfl) ?_
  refine f_op rfl rfl (s_eqStr rfl rfl) ?_
  refine f_nil ?_
  refine f_if (fun h1 => ?_) (fun h1 => ?_)
  · skip
    refine f_know 19 rfl (bool_T h1) ?_
    refine f_condT rfl ?_
    refine f_seq ?_
    refine f_region ?_
    exact o_none
  · skip
    refine f_know 19 rfl (bool_F h1) ?_
    refine f_condF rfl ?_
    refine f_skip ?_
    refine f_seq ?_
    refine f_region ?_
    refine f_op rfl rfl (s_mv (v := .int .i64 a1) rfl) ?_
    refine f_op rfl rfl (s_eql rfl rfl) ?_
    refine f_op rfl rfl (s_as (v := .bool (decide (a1 = 0))) rfl) ?_
    refine f_nil ?_
    refine f_seq ?_
    refine f_region ?_
    refine f_op rfl rfl (s_mv (v := .str a0) rfl) ?_
    refine f_op rfl rfl (s_as (v := .str a0) rfl) ?_
    refine f_nil ?_
    refine f_seq ?_
    refine f_block ?_
    refine f_seq ?_
    refine f_region ?_
    refine f_op rfl rfl (s_mv (v := .int .i64 a1) rfl) ?_
    refine f_op rfl rfl (s_leq rfl rfl) ?_
    refine f_op rfl rfl (s_mv (v := .bool (decide (2 ≤ a1))) rfl) ?_
    refine o_if (fun h2 => ?_) (fun h2 => ?_)
    · skip
      refine o_know 28 rfl (dec_true h2) ?_
      refine f_op rfl rfl (s_mv (v := .int .i64 a1) rfl) ?_
      refine f_op rfl rfl (s_leq rfl rfl) ?_
      refine f_op rfl rfl (s_pickT (v := .bool (decide (a1 ≤ 36))) rfl rfl) ?_
      refine f_op rfl rfl (s_as (v := .bool (decide (a1 ≤ 36))) rfl) ?_
      refine f_nil ?_
      refine f_keep [0, 1, 2, 8, 9, 25] ?_
      exact s245_j5 a0 a1 a2 (decide (a1 = 0)) a0 (decide (a1 ≤ 36)) H
    · skip
      refine o_know 28 rfl (dec_false h2) ?_
      refine f_no rfl rfl ?_
      refine f_no rfl rfl ?_
      refine f_op rfl rfl (s_pickF (v := .bool false) rfl rfl) ?_
      refine f_op rfl rfl (s_as (v := .bool false) rfl) ?_
      refine f_nil ?_
      refine f_keep [0, 1, 2, 8, 9, 25] ?_
      exact s245_j5 a0 a1 a2 (decide (a1 = 0)) a0 false H

/- 247 errors.New -/
theorem ok247 : FnOk Tryz.prog 247 := ⟨⟨Tryz.f247, Tryz.func247, by kernel_rfl, rfl⟩⟩
theorem sim247 {a0 : ByteArray} {H : Hp} {p : AV × Hp} (h : r247 a0 H = some p) : CallSim Tryz.prog 247 [.str a0] H (p.1) p.2 := by
  refine callSim (fn := Tryz.f247) (ret := ret247) Tryz.func247 rfl Tryz.ntmps247 rfl ?_ h
  unfold r247
  refine f_seq ?_
  refine f_region ?_
  refine f_op rfl rfl (s_as (v := .niliface) rfl) ?_
  refine f_nil ?_
  refine f_seq ?_
  refine f_region ?_
  refine f_op rfl rfl (s_mv (v := .str a0) rfl) ?_
  refine f_op rfl rfl (s_build (cs := [.str a0]) Tryz.underlying298 ty298 rfl pl298 rfl) ?_
  refine f_op rfl rfl (s_box (v := .agg [.str a0]) rfl rfl) ?_
  exact o_none

end Go.Lt.P10
