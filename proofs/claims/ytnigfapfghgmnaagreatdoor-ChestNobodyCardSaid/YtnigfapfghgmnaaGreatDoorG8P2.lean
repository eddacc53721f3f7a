/- PRINTED BY A PROGRAM OF OURS: what each function that 'ChestNobody' reaches computes on the abstract heap, and that the translated code does just that. Nothing is asked of the input. -/
import Derived.Test.YtnigfapfghgmnaaGreatDoorG8P1
set_option linter.unusedVariables false
set_option linter.unusedSimpArgs false
set_option maxRecDepth 100000
set_option maxHeartbeats 4000000
namespace Go.Lt.P10
open Go Go.Lt Go.Proofs
/- 167 internal/strconv.formatBase10 -/
theorem ok167 : FnOk Tryz.prog 167 := ⟨⟨Tryz.f167, Tryz.func167, by kernel_rfl, rfl⟩⟩
theorem s167_j1 (v1 : Sl) (v2 : Int) (v3 : Int) (H : Hp) : Fin Tryz.prog Tryz.f167 ret167 167 (todoAt (bodyOf Tryz.f167) [1, 1, 1, 1, 1] []) [(0, .sl v1), (4, .int .i64 v2), (12, .int .u32 v3)] H (r167_j1 v1 v2 v3 H) := by
  unfold r167_j1
  refine f_seq ?_
  refine f_region ?_
  refine f_op rfl rfl (s_mv (v := .int .i64 v2) rfl) ?_
  refine f_op rfl rfl (s_gtr rfl rfl) ?_
  refine f_nil ?_
  refine f_if (fun h1 => ?_) (fun h1 => ?_)
  · skip
    refine f_know 161 rfl (dec_true h1) ?_
    refine f_condT rfl ?_
    refine f_region ?_
    refine f_op rfl rfl (s_mv (v := .sl v1) rfl) ?_
    refine f_op rfl rfl (s_mv (v := .int .u32 v3) rfl) ?_
    refine f_op rfl rfl (s_add rfl rfl) ?_
    refine f_op rfl rfl (s_convInt Tryz.underlying251 Tryz.underlying5 rfl) ?_
    refine o_ck fun g2 => ?_
    refine f_op rfl rfl (s_idx Tryz.underlying40 ty5 rfl rfl g2) ?_
    refine o_bind ?_; intro H3 hH3
    refine f_op rfl rfl (s_store (s := 1) ty5 rfl rfl rfl hH3) ?_
    refine f_nil ?_
    exact f_end (.nil) rfl
  · skip
    refine f_know 161 rfl (dec_false h1) ?_
    refine f_condF rfl ?_
    refine f_skip ?_
    exact f_end (.nil) rfl

theorem s167_j2 (v1 : Sl) (v2 : Int) (v3 : Int) (H : Hp) : Fin Tryz.prog Tryz.f167 ret167 167 (todoAt (bodyOf Tryz.f167) [1, 1, 1, 1] []) [(0, .sl v1), (4, .int .i64 v2), (12, .int .u32 v3)] H (r167_j2 v1 v2 v3 H) := by
  unfold r167_j2
  refine f_seq ?_
  refine f_seq ?_
  refine f_region ?_
  refine f_op rfl rfl (s_mv (v := .int .i64 v2) rfl) ?_
  refine f_op rfl rfl (s_geq rfl rfl) ?_
  refine f_nil ?_
  refine f_if (fun h1 => ?_) (fun h1 => ?_)
  · skip
    refine f_know 139 rfl (dec_true h1) ?_
    refine f_condT rfl ?_
    refine f_seq ?_
    refine f_region ?_
    refine f_op rfl rfl (s_mv (v := .int .u32 v3) rfl) ?_
    refine f_op rfl rfl (s_rem rfl rfl (by decide)) ?_
    refine f_op rfl rfl (s_mul rfl rfl) ?_
    refine f_op rfl rfl (s_as (v := .int .u32 (IntKind.wrap .u32 ((Int.tmod v3 100) * 2))) rfl) ?_
    refine f_nil ?_
    refine f_seq ?_
    refine f_region ?_
    refine f_op rfl rfl (s_mv (v := .int .u32 v3) rfl) ?_
    refine f_op rfl rfl (s_quo rfl rfl (by decide)) ?_
    refine f_op rfl rfl (s_as (v := .int .u32 (IntKind.wrap .u32 (Int.tdiv v3 100))) rfl) ?_
    refine f_nil ?_
    refine f_seq ?_
    refine f_ck fun g2 => ?_
    refine f_ck fun g3 => ?_
    refine f_ck fun g4 => ?_
    refine f_bind ?_; intro H5 hH5
    refine f_ck fun g6 => ?_
    refine f_bind ?_; intro H7 hH7
    refine f_draw (Φ := fun _ => True) (lim := 1000000) [0, 0, 0, 0, 0, 0, 0, 0, 0, 0, 0, 0, 2, 0, 2] (Trc.pure rfl rfl rfl (.inl fun _ => s_mv (v := .sl v1) rfl) (Trc.pure rfl rfl rfl (.inl fun _ => s_mv (v := .int .i64 v2) rfl) (Trc.pure rfl rfl rfl (.inl fun _ => s_sub rfl rfl) (Trc.pure rfl rfl rfl (.inl fun _ => s_mv (v := .sl v1) rfl) (Trc.pure rfl rfl rfl (.inl fun _ => s_mv (v := .int .i64 v2) rfl) (Trc.pure rfl rfl rfl (.inl fun _ => s_sub rfl rfl) (Trc.pure rfl rfl rfl (.inl fun _ => s_mv (v := .int .u32 (IntKind.wrap .u32 ((Int.tmod v3 100) * 2))) rfl) (Trc.pure rfl rfl rfl (.inl fun _ => s_add rfl rfl) (Trc.pure rfl rfl rfl (.inl fun _ => s_indexStr Tryz.underlying9 rfl rfl g2) (Trc.pure rfl rfl rfl (.inl fun _ => s_mv (v := .int .u32 (IntKind.wrap .u32 ((Int.tmod v3 100) * 2))) rfl) (Trc.pure rfl rfl rfl (.inl fun _ => s_indexStr Tryz.underlying9 rfl rfl g3) (Trc.pure rfl rfl rfl (.inl fun _ => s_idx Tryz.underlying40 ty5 rfl rfl g4) (Trc.eff rfl rfl rfl (fun _ => trivial) (s_store (s := 1) ty5 rfl rfl rfl hH5) (Trc.pure rfl rfl rfl (.inl fun _ => s_idx Tryz.underlying40 ty5 rfl rfl g6) (Trc.eff rfl rfl rfl (fun _ => trivial) (s_store (s := 1) ty5 rfl rfl rfl hH7) (Trc.nil (fun _ => trivial))))))))))))))))) rfl (by decide +kernel) mixed ?_
    refine f_region ?_
    refine f_op rfl rfl (s_mv (v := .int .i64 v2) rfl) ?_
    refine f_op rfl rfl (s_sub rfl rfl) ?_
    refine f_op rfl rfl (s_as (v := .int .i64 (w64 (v2 - 2))) rfl) ?_
    refine f_nil ?_
    refine f_keep [0, 4, 12] ?_
    exact s167_j1 v1 (w64 (v2 - 2)) (IntKind.wrap .u32 (Int.tdiv v3 100)) H7
  · skip
    refine f_know 139 rfl (dec_false h1) ?_
    refine f_condF rfl ?_
    refine f_skip ?_
    refine f_keep [0, 4, 12] ?_
    exact s167_j1 v1 v2 v3 H

theorem s167_l0 : ∀ (k_ : Nat) (v1 : Sl) (v2 : Int) (v3 : Int) (H : Hp), Fin Tryz.prog Tryz.f167 ret167 167 (todoAt (bodyOf Tryz.f167) [1, 0, 0, 0] []) [(0, .sl v1), (1, .int .u64 v2), (4, .int .i64 v3)] H (r167_l0 k_ v1 v2 v3 H) := by
  intro k_
  induction k_ with
  | zero => intro _ _ _ _; exact f_none
  | succ k_ ih =>
    intro v1 v2 v3 H
    rw [r167_l0]
    refine f_seq ?_
    refine f_seq ?_
    refine f_region ?_
    refine f_op rfl rfl (s_mv (v := .int .i64 v3) rfl) ?_
    refine f_op rfl rfl (s_geq rfl rfl) ?_
    refine f_nil ?_
    refine f_if (fun h1 => ?_) (fun h1 => ?_)
    · skip
      refine f_know 20 rfl (dec_true h1) ?_
      refine f_condT rfl ?_
      refine f_skip ?_
      refine f_block ?_
      refine f_seq ?_
      refine f_region ?_
      refine f_op rfl rfl (s_mv (v := .int .u64 v2) rfl) ?_
      refine f_op rfl rfl (s_rem rfl rfl (by decide)) ?_
      refine f_op rfl rfl (s_convInt Tryz.underlying214 Tryz.underlying251 rfl) ?_
      refine f_op rfl rfl (s_as (v := .int .u32 (IntKind.wrap .u32 (Int.tmod v2 100000000))) rfl) ?_
      refine f_nil ?_
      refine f_seq ?_
      refine f_region ?_
      refine f_op rfl rfl (s_mv (v := .int .u64 v2) rfl) ?_
      refine f_op rfl rfl (s_quo rfl rfl (by decide)) ?_
      refine f_op rfl rfl (s_as (v := .int .u64 (IntKind.wrap .u64 (Int.tdiv v2 100000000))) rfl) ?_
      refine f_nil ?_
      refine f_seq ?_
      refine f_region ?_
      refine f_op rfl rfl (s_mv (v := .int .u32 (IntKind.wrap .u32 (Int.tmod v2 100000000))) rfl) ?_
      refine f_op rfl rfl (s_quo rfl rfl (by decide)) ?_
      refine f_op rfl rfl (s_mv (v := .int .u32 (IntKind.wrap .u32 (Int.tmod v2 100000000))) rfl) ?_
      refine f_op rfl rfl (s_rem rfl rfl (by decide)) ?_
      refine f_op rfl rfl (s_as (v := .int .u32 (IntKind.wrap .u32 (Int.tdiv (IntKind.wrap .u32 (Int.tmod v2 100000000)) 10000))) rfl) ?_
      refine f_op rfl rfl (s_as (v := .int .u32 (Int.tmod (IntKind.wrap .u32 (Int.tmod v2 100000000)) 10000)) rfl) ?_
      refine f_nil ?_
      refine f_seq ?_
      refine f_region ?_
      refine f_op rfl rfl (s_mv (v := .int .u32 (Int.tmod (IntKind.wrap .u32 (Int.tmod v2 100000000)) 10000)) rfl) ?_
      refine f_op rfl rfl (s_quo rfl rfl (by decide)) ?_
      refine f_op rfl rfl (s_mul rfl rfl) ?_
      refine f_op rfl rfl (s_mv (v := .int .u32 (Int.tmod (IntKind.wrap .u32 (Int.tmod v2 100000000)) 10000)) rfl) ?_
      refine f_op rfl rfl (s_rem rfl rfl (by decide)) ?_
      refine f_op rfl rfl (s_mul rfl rfl) ?_
      refine f_op rfl rfl (s_as (v := .int .u32 (IntKind.wrap .u32 ((IntKind.wrap .u32 (Int.tdiv (Int.tmod (IntKind.wrap .u32 (Int.tmod v2 100000000)) 10000) 100)) * 2))) rfl) ?_
      refine f_op rfl rfl (s_as (v := .int .u32 (IntKind.wrap .u32 ((Int.tmod (Int.tmod (IntKind.wrap .u32 (Int.tmod v2 100000000)) 10000) 100) * 2))) rfl) ?_
      refine f_nil ?_
      refine f_seq ?_
      refine f_region ?_
      refine f_op rfl rfl (s_mv (v := .int .u32 (IntKind.wrap .u32 (Int.tdiv (IntKind.wrap .u32 (Int.tmod v2 100000000)) 10000))) rfl) ?_
      refine f_op rfl rfl (s_quo rfl rfl (by decide)) ?_
      refine f_op rfl rfl (s_mul rfl rfl) ?_
      refine f_op rfl rfl (s_mv (v := .int .u32 (IntKind.wrap .u32 (Int.tdiv (IntKind.wrap .u32 (Int.tmod v2 100000000)) 10000))) rfl) ?_
      refine f_op rfl rfl (s_rem rfl rfl (by decide)) ?_
      refine f_op rfl rfl (s_mul rfl rfl) ?_
      refine f_op rfl rfl (s_as (v := .int .u32 (IntKind.wrap .u32 ((IntKind.wrap .u32 (Int.tdiv (IntKind.wrap .u32 (Int.tdiv (IntKind.wrap .u32 (Int.tmod v2 100000000)) 10000)) 100)) * 2))) rfl) ?_
      refine f_op rfl rfl (s_as (v := .int .u32 (IntKind.wrap .u32 ((Int.tmod (IntKind.wrap .u32 (Int.tdiv (IntKind.wrap .u32 (Int.tmod v2 100000000)) 10000)) 100) * 2))) rfl) ?_
      refine f_nil ?_
      refine f_seq ?_
      refine f_ck fun g2 => ?_
      refine f_ck fun g3 => ?_
      refine f_ck fun g4 => ?_
      refine f_bind ?_; intro H5 hH5
      refine f_ck fun g6 => ?_
      refine f_bind ?_; intro H7 hH7
      refine f_draw (Φ := fun _ => True) (lim := 1000000) [0, 0, 0, 0, 0, 0, 0, 0, 0, 0, 0, 0, 2, 0, 2] (Trc.pure rfl rfl rfl (.inl fun _ => s_mv (v := .sl v1) rfl) (Trc.pure rfl rfl rfl (.inl fun _ => s_mv (v := .int .i64 v3) rfl) (Trc.pure rfl rfl rfl (.inl fun _ => s_sub rfl rfl) (Trc.pure rfl rfl rfl (.inl fun _ => s_mv (v := .sl v1) rfl) (Trc.pure rfl rfl rfl (.inl fun _ => s_mv (v := .int .i64 v3) rfl) (Trc.pure rfl rfl rfl (.inl fun _ => s_sub rfl rfl) (Trc.pure rfl rfl rfl (.inl fun _ => s_mv (v := .int .u32 (IntKind.wrap .u32 ((Int.tmod (Int.tmod (IntKind.wrap .u32 (Int.tmod v2 100000000)) 10000) 100) * 2))) rfl) (Trc.pure rfl rfl rfl (.inl fun _ => s_add rfl rfl) (Trc.pure rfl rfl rfl (.inl fun _ => s_indexStr Tryz.underlying9 rfl rfl g2) (Trc.pure rfl rfl rfl (.inl fun _ => s_mv (v := .int .u32 (IntKind.wrap .u32 ((Int.tmod (Int.tmod (IntKind.wrap .u32 (Int.tmod v2 100000000)) 10000) 100) * 2))) rfl) (Trc.pure rfl rfl rfl (.inl fun _ => s_indexStr Tryz.underlying9 rfl rfl g3) (Trc.pure rfl rfl rfl (.inl fun _ => s_idx Tryz.underlying40 ty5 rfl rfl g4) (Trc.eff rfl rfl rfl (fun _ => trivial) (s_store (s := 1) ty5 rfl rfl rfl hH5) (Trc.pure rfl rfl rfl (.inl fun _ => s_idx Tryz.underlying40 ty5 rfl rfl g6) (Trc.eff rfl rfl rfl (fun _ => trivial) (s_store (s := 1) ty5 rfl rfl rfl hH7) (Trc.nil (fun _ => trivial))))))))))))))))) rfl (by decide +kernel) mixed ?_
      refine f_seq ?_
      refine f_ck fun g8 => ?_
      refine f_ck fun g9 => ?_
      refine f_ck fun g10 => ?_
      refine f_bind ?_; intro H11 hH11
      refine f_ck fun g12 => ?_
      refine f_bind ?_; intro H13 hH13
      refine f_draw (Φ := fun _ => True) (lim := 1000000) [0, 0, 0, 0, 0, 0, 0, 0, 0, 0, 0, 0, 2, 0, 2] (Trc.pure rfl rfl rfl (.inl fun _ => s_mv (v := .sl v1) rfl) (Trc.pure rfl rfl rfl (.inl fun _ => s_mv (v := .int .i64 v3) rfl) (Trc.pure rfl rfl rfl (.inl fun _ => s_sub rfl rfl) (Trc.pure rfl rfl rfl (.inl fun _ => s_mv (v := .sl v1) rfl) (Trc.pure rfl rfl rfl (.inl fun _ => s_mv (v := .int .i64 v3) rfl) (Trc.pure rfl rfl rfl (.inl fun _ => s_sub rfl rfl) (Trc.pure rfl rfl rfl (.inl fun _ => s_mv (v := .int .u32 (IntKind.wrap .u32 ((IntKind.wrap .u32 (Int.tdiv (Int.tmod (IntKind.wrap .u32 (Int.tmod v2 100000000)) 10000) 100)) * 2))) rfl) (Trc.pure rfl rfl rfl (.inl fun _ => s_add rfl rfl) (Trc.pure rfl rfl rfl (.inl fun _ => s_indexStr Tryz.underlying9 rfl rfl g8) (Trc.pure rfl rfl rfl (.inl fun _ => s_mv (v := .int .u32 (IntKind.wrap .u32 ((IntKind.wrap .u32 (Int.tdiv (Int.tmod (IntKind.wrap .u32 (Int.tmod v2 100000000)) 10000) 100)) * 2))) rfl) (Trc.pure rfl rfl rfl (.inl fun _ => s_indexStr Tryz.underlying9 rfl rfl g9) (Trc.pure rfl rfl rfl (.inl fun _ => s_idx Tryz.underlying40 ty5 rfl rfl g10) (Trc.eff rfl rfl rfl (fun _ => trivial) (s_store (s := 1) ty5 rfl rfl rfl hH11) (Trc.pure rfl rfl rfl (.inl fun _ => s_idx Tryz.underlying40 ty5 rfl rfl g12) (Trc.eff rfl rfl rfl (fun _ => trivial) (s_store (s := 1) ty5 rfl rfl rfl hH13) (Trc.nil (fun _ => trivial))))))))))))))))) rfl (by decide +kernel) mixed ?_
      refine f_seq ?_
      refine f_ck fun g14 => ?_
      refine f_ck fun g15 => ?_
      refine f_ck fun g16 => ?_
      refine f_bind ?_; intro H17 hH17
      refine f_ck fun g18 => ?_
      refine f_bind ?_; intro H19 hH19
      refine f_draw (Φ := fun _ => True) (lim := 1000000) [0, 0, 0, 0, 0, 0, 0, 0, 0, 0, 0, 0, 2, 0, 2] (Trc.pure rfl rfl rfl (.inl fun _ => s_mv (v := .sl v1) rfl) (Trc.pure rfl rfl rfl (.inl fun _ => s_mv (v := .int .i64 v3) rfl) (Trc.pure rfl rfl rfl (.inl fun _ => s_sub rfl rfl) (Trc.pure rfl rfl rfl (.inl fun _ => s_mv (v := .sl v1) rfl) (Trc.pure rfl rfl rfl (.inl fun _ => s_mv (v := .int .i64 v3) rfl) (Trc.pure rfl rfl rfl (.inl fun _ => s_sub rfl rfl) (Trc.pure rfl rfl rfl (.inl fun _ => s_mv (v := .int .u32 (IntKind.wrap .u32 ((Int.tmod (IntKind.wrap .u32 (Int.tdiv (IntKind.wrap .u32 (Int.tmod v2 100000000)) 10000)) 100) * 2))) rfl) (Trc.pure rfl rfl rfl (.inl fun _ => s_add rfl rfl) (Trc.pure rfl rfl rfl (.inl fun _ => s_indexStr Tryz.underlying9 rfl rfl g14) (Trc.pure rfl rfl rfl (.inl fun _ => s_mv (v := .int .u32 (IntKind.wrap .u32 ((Int.tmod (IntKind.wrap .u32 (Int.tdiv (IntKind.wrap .u32 (Int.tmod v2 100000000)) 10000)) 100) * 2))) rfl) (Trc.pure rfl rfl rfl (.inl fun _ => s_indexStr Tryz.underlying9 rfl rfl g15) (Trc.pure rfl rfl rfl (.inl fun _ => s_idx Tryz.underlying40 ty5 rfl rfl g16) (Trc.eff rfl rfl rfl (fun _ => trivial) (s_store (s := 1) ty5 rfl rfl rfl hH17) (Trc.pure rfl rfl rfl (.inl fun _ => s_idx Tryz.underlying40 ty5 rfl rfl g18) (Trc.eff rfl rfl rfl (fun _ => trivial) (s_store (s := 1) ty5 rfl rfl rfl hH19) (Trc.nil (fun _ => trivial))))))))))))))))) rfl (by decide +kernel) mixed ?_
      refine f_seq ?_
      refine f_ck fun g20 => ?_
      refine f_ck fun g21 => ?_
      refine f_ck fun g22 => ?_
      refine f_bind ?_; intro H23 hH23
      refine f_ck fun g24 => ?_
      refine f_bind ?_; intro H25 hH25
      refine f_draw (Φ := fun _ => True) (lim := 1000000) [0, 0, 0, 0, 0, 0, 0, 0, 0, 0, 0, 0, 2, 0, 2] (Trc.pure rfl rfl rfl (.inl fun _ => s_mv (v := .sl v1) rfl) (Trc.pure rfl rfl rfl (.inl fun _ => s_mv (v := .int .i64 v3) rfl) (Trc.pure rfl rfl rfl (.inl fun _ => s_sub rfl rfl) (Trc.pure rfl rfl rfl (.inl fun _ => s_mv (v := .sl v1) rfl) (Trc.pure rfl rfl rfl (.inl fun _ => s_mv (v := .int .i64 v3) rfl) (Trc.pure rfl rfl rfl (.inl fun _ => s_sub rfl rfl) (Trc.pure rfl rfl rfl (.inl fun _ => s_mv (v := .int .u32 (IntKind.wrap .u32 ((IntKind.wrap .u32 (Int.tdiv (IntKind.wrap .u32 (Int.tdiv (IntKind.wrap .u32 (Int.tmod v2 100000000)) 10000)) 100)) * 2))) rfl) (Trc.pure rfl rfl rfl (.inl fun _ => s_add rfl rfl) (Trc.pure rfl rfl rfl (.inl fun _ => s_indexStr Tryz.underlying9 rfl rfl g20) (Trc.pure rfl rfl rfl (.inl fun _ => s_mv (v := .int .u32 (IntKind.wrap .u32 ((IntKind.wrap .u32 (Int.tdiv (IntKind.wrap .u32 (Int.tdiv (IntKind.wrap .u32 (Int.tmod v2 100000000)) 10000)) 100)) * 2))) rfl) (Trc.pure rfl rfl rfl (.inl fun _ => s_indexStr Tryz.underlying9 rfl rfl g21) (Trc.pure rfl rfl rfl (.inl fun _ => s_idx Tryz.underlying40 ty5 rfl rfl g22) (Trc.eff rfl rfl rfl (fun _ => trivial) (s_store (s := 1) ty5 rfl rfl rfl hH23) (Trc.pure rfl rfl rfl (.inl fun _ => s_idx Tryz.underlying40 ty5 rfl rfl g24) (Trc.eff rfl rfl rfl (fun _ => trivial) (s_store (s := 1) ty5 rfl rfl rfl hH25) (Trc.nil (fun _ => trivial))))))))))))))))) rfl (by decide +kernel) mixed ?_
      refine f_region ?_
      refine f_op rfl rfl (s_mv (v := .int .i64 v3) rfl) ?_
      refine f_op rfl rfl (s_sub rfl rfl) ?_
      refine f_op rfl rfl (s_as (v := .int .i64 (w64 (v3 - 8))) rfl) ?_
      refine f_nil ?_
      refine f_inBlock ?_
      refine f_inLoop ?_
      refine f_keep [0, 1, 4] ?_
      exact ih v1 (IntKind.wrap .u64 (Int.tdiv v2 100000000)) (w64 (v3 - 8)) H25
    · skip
      refine f_know 20 rfl (dec_false h1) ?_
      refine f_condF rfl ?_
      refine f_exit rfl ?_
      refine f_seq ?_
      refine f_region ?_
      refine f_op rfl rfl (s_mv (v := .int .u64 v2) rfl) ?_
      refine f_op rfl rfl (s_convInt Tryz.underlying214 Tryz.underlying251 rfl) ?_
      refine f_op rfl rfl (s_as (v := .int .u32 (IntKind.wrap .u32 (v2))) rfl) ?_
      refine f_nil ?_
      refine f_seq ?_
      refine f_seq ?_
      refine f_region ?_
      refine f_op rfl rfl (s_mv (v := .int .i64 v3) rfl) ?_
      refine f_op rfl rfl (s_geq rfl rfl) ?_
      refine f_nil ?_
      refine f_if (fun h26 => ?_) (fun h26 => ?_)
      · skip
        refine f_know 99 rfl (dec_true h26) ?_
        refine f_condT rfl ?_
        refine f_seq ?_
        refine f_region ?_
        refine f_op rfl rfl (s_mv (v := .int .u32 (IntKind.wrap .u32 (v2))) rfl) ?_
        refine f_op rfl rfl (s_rem rfl rfl (by decide)) ?_
        refine f_op rfl rfl (s_as (v := .int .u32 (Int.tmod (IntKind.wrap .u32 (v2)) 10000)) rfl) ?_
        refine f_nil ?_
        refine f_seq ?_
        refine f_region ?_
        refine f_op rfl rfl (s_mv (v := .int .u32 (IntKind.wrap .u32 (v2))) rfl) ?_
        refine f_op rfl rfl (s_quo rfl rfl (by decide)) ?_
        refine f_op rfl rfl (s_as (v := .int .u32 (IntKind.wrap .u32 (Int.tdiv (IntKind.wrap .u32 (v2)) 10000))) rfl) ?_
        refine f_nil ?_
        refine f_seq ?_
        refine f_region ?_
        refine f_op rfl rfl (s_mv (v := .int .u32 (Int.tmod (IntKind.wrap .u32 (v2)) 10000)) rfl) ?_
        refine f_op rfl rfl (s_quo rfl rfl (by decide)) ?_
        refine f_op rfl rfl (s_mul rfl rfl) ?_
        refine f_op rfl rfl (s_mv (v := .int .u32 (Int.tmod (IntKind.wrap .u32 (v2)) 10000)) rfl) ?_
        refine f_op rfl rfl (s_rem rfl rfl (by decide)) ?_
        refine f_op rfl rfl (s_mul rfl rfl) ?_
        refine f_op rfl rfl (s_as (v := .int .u32 (IntKind.wrap .u32 ((IntKind.wrap .u32 (Int.tdiv (Int.tmod (IntKind.wrap .u32 (v2)) 10000) 100)) * 2))) rfl) ?_
        refine f_op rfl rfl (s_as (v := .int .u32 (IntKind.wrap .u32 ((Int.tmod (Int.tmod (IntKind.wrap .u32 (v2)) 10000) 100) * 2))) rfl) ?_
        refine f_nil ?_
        refine f_seq ?_
        refine f_ck fun g27 => ?_
        refine f_ck fun g28 => ?_
        refine f_ck fun g29 => ?_
        refine f_bind ?_; intro H30 hH30
        refine f_ck fun g31 => ?_
        refine f_bind ?_; intro H32 hH32
        refine f_draw (Φ := fun _ => True) (lim := 1000000) [0, 0, 0, 0, 0, 0, 0, 0, 0, 0, 0, 0, 2, 0, 2] (Trc.pure rfl rfl rfl (.inl fun _ => s_mv (v := .sl v1) rfl) (Trc.pure rfl rfl rfl (.inl fun _ => s_mv (v := .int .i64 v3) rfl) (Trc.pure rfl rfl rfl (.inl fun _ => s_sub rfl rfl) (Trc.pure rfl rfl rfl (.inl fun _ => s_mv (v := .sl v1) rfl) (Trc.pure rfl rfl rfl (.inl fun _ => s_mv (v := .int .i64 v3) rfl) (Trc.pure rfl rfl rfl (.inl fun _ => s_sub rfl rfl) (Trc.pure rfl rfl rfl (.inl fun _ => s_mv (v := .int .u32 (IntKind.wrap .u32 ((Int.tmod (Int.tmod (IntKind.wrap .u32 (v2)) 10000) 100) * 2))) rfl) (Trc.pure rfl rfl rfl (.inl fun _ => s_add rfl rfl) (Trc.pure rfl rfl rfl (.inl fun _ => s_indexStr Tryz.underlying9 rfl rfl g27) (Trc.pure rfl rfl rfl (.inl fun _ => s_mv (v := .int .u32 (IntKind.wrap .u32 ((Int.tmod (Int.tmod (IntKind.wrap .u32 (v2)) 10000) 100) * 2))) rfl) (Trc.pure rfl rfl rfl (.inl fun _ => s_indexStr Tryz.underlying9 rfl rfl g28) (Trc.pure rfl rfl rfl (.inl fun _ => s_idx Tryz.underlying40 ty5 rfl rfl g29) (Trc.eff rfl rfl rfl (fun _ => trivial) (s_store (s := 1) ty5 rfl rfl rfl hH30) (Trc.pure rfl rfl rfl (.inl fun _ => s_idx Tryz.underlying40 ty5 rfl rfl g31) (Trc.eff rfl rfl rfl (fun _ => trivial) (s_store (s := 1) ty5 rfl rfl rfl hH32) (Trc.nil (fun _ => trivial))))))))))))))))) rfl (by decide +kernel) mixed ?_
        refine f_seq ?_
        refine f_ck fun g33 => ?_
        refine f_ck fun g34 => ?_
        refine f_ck fun g35 => ?_
        refine f_bind ?_; intro H36 hH36
        refine f_ck fun g37 => ?_
        refine f_bind ?_; intro H38 hH38
        refine f_draw (Φ := fun _ => True) (lim := 1000000) [0, 0, 0, 0, 0, 0, 0, 0, 0, 0, 0, 0, 2, 0, 2] (Trc.pure rfl rfl rfl (.inl fun _ => s_mv (v := .sl v1) rfl) (Trc.pure rfl rfl rfl (.inl fun _ => s_mv (v := .int .i64 v3) rfl) (Trc.pure rfl rfl rfl (.inl fun _ => s_sub rfl rfl) (Trc.pure rfl rfl rfl (.inl fun _ => s_mv (v := .sl v1) rfl) (Trc.pure rfl rfl rfl (.inl fun _ => s_mv (v := .int .i64 v3) rfl) (Trc.pure rfl rfl rfl (.inl fun _ => s_sub rfl rfl) (Trc.pure rfl rfl rfl (.inl fun _ => s_mv (v := .int .u32 (IntKind.wrap .u32 ((IntKind.wrap .u32 (Int.tdiv (Int.tmod (IntKind.wrap .u32 (v2)) 10000) 100)) * 2))) rfl) (Trc.pure rfl rfl rfl (.inl fun _ => s_add rfl rfl) (Trc.pure rfl rfl rfl (.inl fun _ => s_indexStr Tryz.underlying9 rfl rfl g33) (Trc.pure rfl rfl rfl (.inl fun _ => s_mv (v := .int .u32 (IntKind.wrap .u32 ((IntKind.wrap .u32 (Int.tdiv (Int.tmod (IntKind.wrap .u32 (v2)) 10000) 100)) * 2))) rfl) (Trc.pure rfl rfl rfl (.inl fun _ => s_indexStr Tryz.underlying9 rfl rfl g34) (Trc.pure rfl rfl rfl (.inl fun _ => s_idx Tryz.underlying40 ty5 rfl rfl g35) (Trc.eff rfl rfl rfl (fun _ => trivial) (s_store (s := 1) ty5 rfl rfl rfl hH36) (Trc.pure rfl rfl rfl (.inl fun _ => s_idx Tryz.underlying40 ty5 rfl rfl g37) (Trc.eff rfl rfl rfl (fun _ => trivial) (s_store (s := 1) ty5 rfl rfl rfl hH38) (Trc.nil (fun _ => trivial))))))))))))))))) rfl (by decide +kernel) mixed ?_
        refine f_region ?_
        refine f_op rfl rfl (s_mv (v := .int .i64 v3) rfl) ?_
        refine f_op rfl rfl (s_sub rfl rfl) ?_
        refine f_op rfl rfl (s_as (v := .int .i64 (w64 (v3 - 4))) rfl) ?_
        refine f_nil ?_
        refine f_keep [0, 4, 12] ?_
        exact s167_j2 v1 (w64 (v3 - 4)) (IntKind.wrap .u32 (Int.tdiv (IntKind.wrap .u32 (v2)) 10000)) H38
      · skip
        refine f_know 99 rfl (dec_false h26) ?_
        refine f_condF rfl ?_
        refine f_skip ?_
        refine f_keep [0, 4, 12] ?_
        exact s167_j2 v1 v3 (IntKind.wrap .u32 (v2)) H

theorem sim167 {a0 : Sl} {a1 : Int} {H : Hp} {p : Unit × Hp} (h : r167 a0 a1 H = some p) : CallSim Tryz.prog 167 [.sl a0, .int .u64 a1] H (.tup []) p.2 := by
  refine callSim (fn := Tryz.f167) (ret := ret167) Tryz.func167 rfl Tryz.ntmps167 rfl ?_ h
  unfold r167
  refine f_seq ?_
  refine f_region ?_
  refine f_op rfl rfl (s_mv (v := .sl a0) rfl) ?_
  refine f_op rfl rfl (s_lenS rfl Tryz.underlying40 rfl) ?_
  refine f_op rfl rfl (s_as (v := .int .i64 (a0.len : Int)) rfl) ?_
  refine f_nil ?_
  refine f_seq ?_
  refine f_block ?_
  refine f_loop ?_
  refine f_keep [0, 1, 4] ?_
  exact s167_l0 FUEL a0 a1 (a0.len : Int) H

/- 229 internal/strconv.isPowerOfTwo -/
theorem ok229 : FnOk Tryz.prog 229 := ⟨⟨Tryz.f229, Tryz.func229, by kernel_rfl, rfl⟩⟩
theorem sim229 {a0 : Int} {H : Hp} {p : Bool × Hp} (h : r229 a0 H = some p) : CallSim Tryz.prog 229 [.int .i64 a0] H (.bool p.1) p.2 := by
  refine callSim (fn := Tryz.f229) (ret := ret229) Tryz.func229 rfl Tryz.ntmps229 rfl ?_ h
  unfold r229
  refine f_seq ?_
  refine f_region ?_
  refine f_op rfl rfl (s_as (v := .bool false) rfl) ?_
  refine f_nil ?_
  refine f_seq ?_
  refine f_region ?_
  refine f_op rfl rfl (s_mv (v := .int .i64 a0) rfl) ?_
  refine f_op rfl rfl (s_mv (v := .int .i64 a0) rfl) ?_
  refine f_op rfl rfl (s_sub rfl rfl) ?_
  refine f_op rfl rfl (s_and rfl rfl) ?_
  refine f_op rfl rfl (s_eql rfl rfl) ?_
  refine f_op rfl rfl (s_as (v := .bool (decide ((bitsOf .and .i64 a0 (w64 (a0 - 1))) = 0))) rfl) ?_
  refine f_nil ?_
  exact f_ret (.tmp rfl (.nil)) rfl

/- 248 math/bits.TrailingZeros32 -/
theorem ok248 : FnOk Tryz.prog 248 := ⟨⟨Tryz.f248, Tryz.func248, by kernel_rfl, rfl⟩⟩
theorem sim248 {a0 : Int} {H : Hp} {p : Int × Hp} (h : r248 a0 H = some p) : CallSim Tryz.prog 248 [.int .u32 a0] H (.int .i64 p.1) p.2 := by
  refine callSim (fn := Tryz.f248) (ret := ret248) Tryz.func248 rfl Tryz.ntmps248 rfl ?_ h
  unfold r248
  refine f_seq ?_
  refine f_region ?_
  refine f_op rfl rfl (s_as (v := .int .i64 0) rfl) ?_
  refine f_nil ?_
  refine f_seq ?_
  refine f_seq ?_
  refine f_region ?_
  refine f_op rfl rfl (s_mv (v := .int .u32 a0) rfl) ?_
  refine f_op rfl rfl (s_eql rfl rfl) ?_
  refine f_nil ?_
  refine f_if (fun h1 => ?_) (fun h1 => ?_)
  · skip
    refine f_know 4 rfl (dec_true h1) ?_
    refine f_condT rfl ?_
    refine f_seq ?_
    refine f_region ?_
    refine f_op rfl rfl (s_as (v := .int .i64 32) rfl) ?_
    refine f_nil ?_
    exact f_ret (.tmp rfl (.nil)) rfl
  · skip
    refine f_know 4 rfl (dec_false h1) ?_
    refine f_condF rfl ?_
    refine f_skip ?_
    refine f_seq ?_
    refine f_region ?_
    refine f_op rfl rfl (s_mv (v := .int .u32 a0) rfl) ?_
    refine f_op rfl rfl (s_mv (v := .int .u32 a0) rfl) ?_
    refine f_op rfl rfl (s_neg rfl) ?_
    refine f_op rfl rfl (s_and rfl rfl) ?_
    refine f_op rfl rfl (s_mul rfl rfl) ?_
    refine f_op rfl rfl (s_shr rfl rfl (by decide)) ?_
    exact o_none

/- 249 math/bits.TrailingZeros64 -/
theorem ok249 : FnOk Tryz.prog 249 := ⟨⟨Tryz.f249, Tryz.func249, by kernel_rfl, rfl⟩⟩
theorem sim249 {a0 : Int} {H : Hp} {p : Int × Hp} (h : r249 a0 H = some p) : CallSim Tryz.prog 249 [.int .u64 a0] H (.int .i64 p.1) p.2 := by
  refine callSim (fn := Tryz.f249) (ret := ret249) Tryz.func249 rfl Tryz.ntmps249 rfl ?_ h
  unfold r249
  refine f_seq ?_
  refine f_region ?_
  refine f_op rfl rfl (s_as (v := .int .i64 0) rfl) ?_
  refine f_nil ?_
  refine f_seq ?_
  refine f_seq ?_
  refine f_region ?_
  refine f_op rfl rfl (s_mv (v := .int .u64 a0) rfl) ?_
  refine f_op rfl rfl (s_eql rfl rfl) ?_
  refine f_nil ?_
  refine f_if (fun h1 => ?_) (fun h1 => ?_)
  · skip
    refine f_know 4 rfl (dec_true h1) ?_
    refine f_condT rfl ?_
    refine f_seq ?_
    refine f_region ?_
    refine f_op rfl rfl (s_as (v := .int .i64 64) rfl) ?_
    refine f_nil ?_
    exact f_ret (.tmp rfl (.nil)) rfl
  · skip
    refine f_know 4 rfl (dec_false h1) ?_
    refine f_condF rfl ?_
    refine f_skip ?_
    refine f_seq ?_
    refine f_region ?_
    refine f_op rfl rfl (s_mv (v := .int .u64 a0) rfl) ?_
    refine f_op rfl rfl (s_mv (v := .int .u64 a0) rfl) ?_
    refine f_op rfl rfl (s_neg rfl) ?_
    refine f_op rfl rfl (s_and rfl rfl) ?_
    refine f_op rfl rfl (s_mul rfl rfl) ?_
    refine f_op rfl rfl (s_shr rfl rfl (by decide)) ?_
    exact o_none

/- 230 math/bits.TrailingZeros -/
theorem ok230 : FnOk Tryz.prog 230 := ⟨⟨Tryz.f230, Tryz.func230, by kernel_rfl, rfl⟩⟩
theorem sim230 {a0 : Int} {H : Hp} {p : Int × Hp} (h : r230 a0 H = some p) : CallSim Tryz.prog 230 [.int .u64 a0] H (.int .i64 p.1) p.2 := by
  refine callSim (fn := Tryz.f230) (ret := ret230) Tryz.func230 rfl Tryz.ntmps230 rfl ?_ h
  unfold r230
  refine f_seq ?_
  refine f_region ?_
  refine f_op rfl rfl (s_as (v := .int .i64 0) rfl) ?_
  refine f_nil ?_
  refine f_seq ?_
  refine f_condF rfl ?_
  refine f_skip ?_
  refine f_seq ?_
  refine f_region ?_
  refine f_op rfl rfl (s_mv (v := .int .u64 a0) rfl) ?_
  refine o_bind ?_; intro p1 hp1
  refine f_op rfl rfl (s_callF rfl ok249 (sim249 hp1)) ?_
  refine f_op rfl rfl (s_as (v := .int .i64 p1.1) rfl) ?_
  refine f_nil ?_
  exact f_ret (.tmp rfl (.nil)) rfl

/- 168 internal/strconv.formatBits -/
theorem ok168 : FnOk Tryz.prog 168 := ⟨⟨Tryz.f168, Tryz.func168, by kernel_rfl, rfl⟩⟩
theorem s168_j4 (v1 : Sl) (v2 : Bool) (v3 : Sl) (v4 : ByteArray) (v5 : Nat) (v6 : Int) (H : Hp) : Fin Tryz.prog Tryz.f168 ret168 102 (todoAt (bodyOf Tryz.f168) [1, 1, 1, 1, 1, 1, 1] []) [(0, .sl v1), (4, .bool v2), (10, .sl v3), (11, .str v4), (12, .ptr v5 0), (13, .int .i64 v6)] H (r168_j4 v1 v2 v3 v4 v5 v6 H) := by
  unfold r168_j4
  refine f_seq ?_
  refine f_seq ?_
  refine f_region ?_
  refine f_op rfl rfl (s_mv (v := .bool v2) rfl) ?_
  refine f_nil ?_
  refine f_if (fun h1 => ?_) (fun h1 => ?_)
  · skip
    refine f_know 94 rfl (bool_T h1) ?_
    refine f_condT rfl ?_
    refine f_seq ?_
    refine f_region ?_
    refine f_op rfl rfl (s_mv (v := .sl v1) rfl) ?_
    refine f_op rfl rfl (s_mv (v := .int .i64 v6) rfl) ?_
    refine o_ck fun g2 => ?_
    refine f_op rfl rfl (s_sliceA Tryz.underlying264 ty5 rfl rfl rfl g2) ?_
    refine o_bind ?_; intro x3 hx3
    refine o_ck fun g4 => ?_
    refine o_bind ?_; intro x5 hx5
    refine f_op rfl rfl (s_append rfl rfl Tryz.underlying40 Tryz.underlying40 ty5 (by decide) rfl (by decide) rfl rfl hx3 g4 hx5) ?_
    refine f_op rfl rfl (s_as (v := .sl x5.1) rfl) ?_
    refine f_nil ?_
    exact f_ret (.tmp rfl (.tmp rfl (.nil))) rfl
  · skip
    refine f_know 94 rfl (bool_F h1) ?_
    refine f_condF rfl ?_
    refine f_skip ?_
    refine f_seq ?_
    refine f_region ?_
    refine f_op rfl rfl (s_mv (v := .int .i64 v6) rfl) ?_
    refine o_ck fun g6 => ?_
    refine f_op rfl rfl (s_sliceA Tryz.underlying264 ty5 rfl rfl rfl g6) ?_
    exact o_none

theorem s168_j5 (v1 : Sl) (v2 : Bool) (v3 : Bool) (v4 : Sl) (v5 : ByteArray) (v6 : Nat) (v7 : Int) (H : Hp) : Fin Tryz.prog Tryz.f168 ret168 102 (todoAt (bodyOf Tryz.f168) [1, 1, 1, 1, 1, 1] []) [(0, .sl v1), (3, .bool v2), (4, .bool v3), (10, .sl v4), (11, .str v5), (12, .ptr v6 0), (13, .int .i64 v7)] H (r168_j5 v1 v2 v3 v4 v5 v6 v7 H) := by
  unfold r168_j5
  refine f_seq ?_
  refine f_seq ?_
  refine f_region ?_
  refine f_op rfl rfl (s_mv (v := .bool v2) rfl) ?_
  refine f_nil ?_
  refine f_if (fun h1 => ?_) (fun h1 => ?_)
  · skip
    refine f_know 89 rfl (bool_T h1) ?_
    refine f_condT rfl ?_
    refine f_seq ?_
    refine f_region ?_
    refine f_op rfl rfl (s_mv (v := .int .i64 v7) rfl) ?_
    refine f_op rfl rfl (s_sub rfl rfl) ?_
    refine f_op rfl rfl (s_as (v := .int .i64 (w64 (v7 - 1))) rfl) ?_
    refine f_nil ?_
    refine f_region ?_
    refine f_op rfl rfl (s_mv (v := .int .i64 (w64 (v7 - 1))) rfl) ?_
    refine o_ck fun g2 => ?_
    refine f_op rfl rfl (s_idxA Tryz.underlying264 ty5 rfl rfl g2) ?_
    refine o_bind ?_; intro H3 hH3
    refine f_op rfl rfl (s_store (s := 1) ty5 rfl rfl rfl hH3) ?_
    refine f_nil ?_
    refine f_keep [0, 4, 10, 11, 12, 13] ?_
    exact s168_j4 v1 v3 v4 v5 v6 (w64 (v7 - 1)) H3
  · skip
    refine f_know 89 rfl (bool_F h1) ?_
    refine f_condF rfl ?_
    refine f_skip ?_
    refine f_keep [0, 4, 10, 11, 12, 13] ?_
    exact s168_j4 v1 v3 v4 v5 v6 v7 H

theorem s168_l1 : ∀ (k_ : Nat) (v1 : Sl) (v2 : Int) (v3 : Bool) (v4 : Bool) (v5 : Sl) (v6 : ByteArray) (v7 : Nat) (v8 : Int) (v9 : Int) (v10 : Int) (v11 : Int) (H : Hp), Fin Tryz.prog Tryz.f168 ret168 102 (todoAt (bodyOf Tryz.f168) [1, 1, 1, 1, 1, 0, 1, 0, 1, 1, 1, 0, 0, 0] []) [(0, .sl v1), (1, .int .u64 v2), (3, .bool v3), (4, .bool v4), (10, .sl v5), (11, .str v6), (12, .ptr v7 0), (13, .int .i64 v8), (14, .int .u64 v9), (15, .int .u64 v10), (16, .int .u64 v11)] H (r168_l1 k_ v1 v2 v3 v4 v5 v6 v7 v8 v9 v10 v11 H) := by
  intro k_
  induction k_ with
  | zero => intro _ _ _ _ _ _ _ _ _ _ _ _; exact f_none
  | succ k_ ih =>
    intro v1 v2 v3 v4 v5 v6 v7 v8 v9 v10 v11 H
    rw [r168_l1]
    refine f_seq ?_
    refine f_seq ?_
    refine f_region ?_
    refine f_op rfl rfl (s_mv (v := .int .u64 v2) rfl) ?_
    refine f_op rfl rfl (s_mv (v := .int .u64 v10) rfl) ?_
    refine f_op rfl rfl (s_geq rfl rfl) ?_
    refine f_nil ?_
    refine f_if (fun h1 => ?_) (fun h1 => ?_)
    · skip
      refine f_know 46 rfl (dec_true h1) ?_
      refine f_condT rfl ?_
      refine f_skip ?_
      refine f_block ?_
      refine f_seq ?_
      refine f_region ?_
      refine f_op rfl rfl (s_mv (v := .int .i64 v8) rfl) ?_
      refine f_op rfl rfl (s_sub rfl rfl) ?_
      refine f_op rfl rfl (s_as (v := .int .i64 (w64 (v8 - 1))) rfl) ?_
      refine f_nil ?_
      refine f_seq ?_
      refine f_region ?_
      refine f_op rfl rfl (s_mv (v := .int .i64 (w64 (v8 - 1))) rfl) ?_
      refine f_op rfl rfl (s_mv (v := .int .u64 v2) rfl) ?_
      refine f_op rfl rfl (s_mv (v := .int .u64 v11) rfl) ?_
      refine f_op rfl rfl (s_and rfl rfl) ?_
      refine o_ck fun g2 => ?_
      refine f_op rfl rfl (s_indexStr Tryz.underlying9 rfl rfl g2) ?_
      refine o_ck fun g3 => ?_
      refine f_op rfl rfl (s_idxA Tryz.underlying264 ty5 rfl rfl g3) ?_
      refine o_bind ?_; intro H4 hH4
      refine f_op rfl rfl (s_store (s := 1) ty5 rfl rfl rfl hH4) ?_
      refine f_nil ?_
      refine f_region ?_
      refine f_op rfl rfl (s_mv (v := .int .u64 v2) rfl) ?_
      refine f_op rfl rfl (s_mv (v := .int .u64 v9) rfl) ?_
      refine o_ck fun g5 => ?_
      refine f_op rfl rfl (s_shr rfl rfl g5) ?_
      refine f_op rfl rfl (s_as (v := .int .u64 (shrOf .u64 v2 v9)) rfl) ?_
      refine f_nil ?_
      refine f_inBlock ?_
      refine f_inLoop ?_
      refine f_keep [0, 1, 3, 4, 10, 11, 12, 13, 14, 15, 16] ?_
      exact ih v1 (shrOf .u64 v2 v9) v3 v4 v5 v6 v7 (w64 (v8 - 1)) v9 v10 v11 H4
    · skip
      refine f_know 46 rfl (dec_false h1) ?_
      refine f_condF rfl ?_
      refine f_exit rfl ?_
      refine f_seq ?_
      refine f_region ?_
      refine f_op rfl rfl (s_mv (v := .int .i64 v8) rfl) ?_
      refine f_op rfl rfl (s_sub rfl rfl) ?_
      refine f_op rfl rfl (s_as (v := .int .i64 (w64 (v8 - 1))) rfl) ?_
      refine f_nil ?_
      refine f_region ?_
      refine f_op rfl rfl (s_mv (v := .int .i64 (w64 (v8 - 1))) rfl) ?_
      refine f_op rfl rfl (s_mv (v := .int .u64 v2) rfl) ?_
      refine o_ck fun g6 => ?_
      refine f_op rfl rfl (s_indexStr Tryz.underlying9 rfl rfl g6) ?_
      refine o_ck fun g7 => ?_
      refine f_op rfl rfl (s_idxA Tryz.underlying264 ty5 rfl rfl g7) ?_
      refine o_bind ?_; intro H8 hH8
      refine f_op rfl rfl (s_store (s := 1) ty5 rfl rfl rfl hH8) ?_
      refine f_nil ?_
      refine f_keep [0, 3, 4, 10, 11, 12, 13] ?_
      exact s168_j5 v1 v3 v4 v5 v6 v7 (w64 (v8 - 1)) H8

theorem s168_l2 : ∀ (k_ : Nat) (v1 : Sl) (v2 : Int) (v3 : Bool) (v4 : Bool) (v5 : Sl) (v6 : ByteArray) (v7 : Nat) (v8 : Int) (v9 : Int) (H : Hp), Fin Tryz.prog Tryz.f168 ret168 102 (todoAt (bodyOf Tryz.f168) [1, 1, 1, 1, 1, 0, 1, 1, 1, 0, 0, 0] []) [(0, .sl v1), (1, .int .u64 v2), (3, .bool v3), (4, .bool v4), (10, .sl v5), (11, .str v6), (12, .ptr v7 0), (13, .int .i64 v8), (17, .int .u64 v9)] H (r168_l2 k_ v1 v2 v3 v4 v5 v6 v7 v8 v9 H) := by
  intro k_
  induction k_ with
  | zero => intro _ _ _ _ _ _ _ _ _ _; exact f_none
  | succ k_ ih =>
    intro v1 v2 v3 v4 v5 v6 v7 v8 v9 H
    rw [r168_l2]
    refine f_seq ?_
    refine f_seq ?_
    refine f_region ?_
    refine f_op rfl rfl (s_mv (v := .int .u64 v2) rfl) ?_
    refine f_op rfl rfl (s_mv (v := .int .u64 v9) rfl) ?_
    refine f_op rfl rfl (s_geq rfl rfl) ?_
    refine f_nil ?_
    refine f_if (fun h1 => ?_) (fun h1 => ?_)
    · skip
      refine f_know 68 rfl (dec_true h1) ?_
      refine f_condT rfl ?_
      refine f_skip ?_
      refine f_block ?_
      refine f_seq ?_
      refine f_region ?_
      refine f_op rfl rfl (s_mv (v := .int .i64 v8) rfl) ?_
      refine f_op rfl rfl (s_sub rfl rfl) ?_
      refine f_op rfl rfl (s_as (v := .int .i64 (w64 (v8 - 1))) rfl) ?_
      refine f_nil ?_
      refine f_seq ?_
      refine f_region ?_
      refine f_op rfl rfl (s_mv (v := .int .u64 v2) rfl) ?_
      refine f_op rfl rfl (s_mv (v := .int .u64 v9) rfl) ?_
      refine o_ck fun g2 => ?_
      refine f_op rfl rfl (s_quo rfl rfl g2) ?_
      refine f_op rfl rfl (s_as (v := .int .u64 (IntKind.wrap .u64 (Int.tdiv v2 v9))) rfl) ?_
      refine f_nil ?_
      refine f_seq ?_
      refine f_region ?_
      refine f_op rfl rfl (s_mv (v := .int .i64 (w64 (v8 - 1))) rfl) ?_
      refine f_op rfl rfl (s_mv (v := .int .u64 v2) rfl) ?_
      refine f_op rfl rfl (s_mv (v := .int .u64 (IntKind.wrap .u64 (Int.tdiv v2 v9))) rfl) ?_
      refine f_op rfl rfl (s_mv (v := .int .u64 v9) rfl) ?_
      refine f_op rfl rfl (s_mul rfl rfl) ?_
      refine f_op rfl rfl (s_sub rfl rfl) ?_
      refine o_ck fun g3 => ?_
      refine f_op rfl rfl (s_indexStr Tryz.underlying9 rfl rfl g3) ?_
      refine o_ck fun g4 => ?_
      refine f_op rfl rfl (s_idxA Tryz.underlying264 ty5 rfl rfl g4) ?_
      refine o_bind ?_; intro H5 hH5
      refine f_op rfl rfl (s_store (s := 1) ty5 rfl rfl rfl hH5) ?_
      refine f_nil ?_
      refine f_region ?_
      refine f_op rfl rfl (s_mv (v := .int .u64 (IntKind.wrap .u64 (Int.tdiv v2 v9))) rfl) ?_
      refine f_op rfl rfl (s_as (v := .int .u64 (IntKind.wrap .u64 (Int.tdiv v2 v9))) rfl) ?_
      refine f_nil ?_
      refine f_inBlock ?_
      refine f_inLoop ?_
      refine f_keep [0, 1, 3, 4, 10, 11, 12, 13, 17] ?_
      exact ih v1 (IntKind.wrap .u64 (Int.tdiv v2 v9)) v3 v4 v5 v6 v7 (w64 (v8 - 1)) v9 H5
    · skip
      refine f_know 68 rfl (dec_false h1) ?_
      refine f_condF rfl ?_
      refine f_exit rfl ?_
      refine f_seq ?_
      refine f_region ?_
      refine f_op rfl rfl (s_mv (v := .int .i64 v8) rfl) ?_
      refine f_op rfl rfl (s_sub rfl rfl) ?_
      refine f_op rfl rfl (s_as (v := .int .i64 (w64 (v8 - 1))) rfl) ?_
      refine f_nil ?_
      refine f_region ?_
      refine f_op rfl rfl (s_mv (v := .int .i64 (w64 (v8 - 1))) rfl) ?_
      refine f_op rfl rfl (s_mv (v := .int .u64 v2) rfl) ?_
      refine o_ck fun g6 => ?_
      refine f_op rfl rfl (s_indexStr Tryz.underlying9 rfl rfl g6) ?_
      refine o_ck fun g7 => ?_
      refine f_op rfl rfl (s_idxA Tryz.underlying264 ty5 rfl rfl g7) ?_
      refine o_bind ?_; intro H8 hH8
      refine f_op rfl rfl (s_store (s := 1) ty5 rfl rfl rfl hH8) ?_
      refine f_nil ?_
      refine f_keep [0, 3, 4, 10, 11, 12, 13] ?_
      exact s168_j5 v1 v3 v4 v5 v6 v7 (w64 (v8 - 1)) H8

theorem s168_j3 (v1 : Sl) (v2 : Int) (v3 : Int) (v4 : Bool) (v5 : Bool) (v6 : Sl) (v7 : ByteArray) (v8 : Nat) (v9 : Int) (H : Hp) : Fin Tryz.prog Tryz.f168 ret168 102 (todoAt (bodyOf Tryz.f168) [1, 1, 1, 1, 1] []) [(0, .sl v1), (1, .int .u64 v2), (2, .int .i64 v3), (3, .bool v4), (4, .bool v5), (10, .sl v6), (11, .str v7), (12, .ptr v8 0), (13, .int .i64 v9)] H (r168_j3 v1 v2 v3 v4 v5 v6 v7 v8 v9 H) := by
  unfold r168_j3
  refine f_seq ?_
  refine f_seq ?_
  refine f_region ?_
  refine f_op rfl rfl (s_mv (v := .int .i64 v3) rfl) ?_
  refine o_bind ?_; intro p1 hp1
  refine f_op rfl rfl (s_callF rfl ok229 (sim229 hp1)) ?_
  refine f_nil ?_
  refine f_if (fun h2 => ?_) (fun h2 => ?_)
  · skip
    refine f_know 34 rfl (bool_T h2) ?_
    refine f_condT rfl ?_
    refine f_seq ?_
    refine f_region ?_
    refine f_op rfl rfl (s_mv (v := .int .i64 v3) rfl) ?_
    refine f_op rfl rfl (s_convInt Tryz.underlying3 Tryz.underlying27 rfl) ?_
    refine o_bind ?_; intro p3 hp3
    refine f_op rfl rfl (s_callF rfl ok230 (sim230 hp3)) ?_
    refine f_op rfl rfl (s_convInt Tryz.underlying3 Tryz.underlying27 rfl) ?_
    refine f_op rfl rfl (s_as (v := .int .u64 (IntKind.wrap .u64 (p3.1))) rfl) ?_
    refine f_nil ?_
    refine f_seq ?_
    refine f_region ?_
    refine f_op rfl rfl (s_mv (v := .int .i64 v3) rfl) ?_
    refine f_op rfl rfl (s_convInt Tryz.underlying3 Tryz.underlying214 rfl) ?_
    refine f_op rfl rfl (s_as (v := .int .u64 (IntKind.wrap .u64 (v3))) rfl) ?_
    refine f_nil ?_
    refine f_seq ?_
    refine f_region ?_
    refine f_op rfl rfl (s_mv (v := .int .i64 v3) rfl) ?_
    refine f_op rfl rfl (s_convInt Tryz.underlying3 Tryz.underlying27 rfl) ?_
    refine f_op rfl rfl (s_sub rfl rfl) ?_
    refine f_op rfl rfl (s_as (v := .int .u64 (IntKind.wrap .u64 ((IntKind.wrap .u64 (v3)) - 1))) rfl) ?_
    refine f_nil ?_
    refine f_seq ?_
    refine f_block ?_
    refine f_loop ?_
    refine f_keep [0, 1, 3, 4, 10, 11, 12, 13, 14, 15, 16] ?_
    exact s168_l1 FUEL v1 v2 v4 v5 v6 v7 v8 v9 (IntKind.wrap .u64 (p3.1)) (IntKind.wrap .u64 (v3)) (IntKind.wrap .u64 ((IntKind.wrap .u64 (v3)) - 1)) p3.2
  · skip
    refine f_know 34 rfl (bool_F h2) ?_
    refine f_condF rfl ?_
    refine f_seq ?_
    refine f_region ?_
    refine f_op rfl rfl (s_mv (v := .int .i64 v3) rfl) ?_
    refine f_op rfl rfl (s_convInt Tryz.underlying3 Tryz.underlying214 rfl) ?_
    refine f_op rfl rfl (s_as (v := .int .u64 (IntKind.wrap .u64 (v3))) rfl) ?_
    refine f_nil ?_
    refine f_seq ?_
    refine f_block ?_
    refine f_loop ?_
    refine f_keep [0, 1, 3, 4, 10, 11, 12, 13, 17] ?_
    exact s168_l2 FUEL v1 v2 v4 v5 v6 v7 v8 v9 (IntKind.wrap .u64 (v3)) p1.2

theorem s168_j0 (v1 : Sl) (v2 : Int) (v3 : Int) (v4 : Bool) (v5 : Bool) (v6 : Sl) (v7 : ByteArray) (v8 : Bool) (H : Hp) : Fin Tryz.prog Tryz.f168 ret168 102 (todoAt (bodyOf Tryz.f168) [1, 0, 1] []) [(0, .sl v1), (1, .int .u64 v2), (2, .int .i64 v3), (3, .bool v4), (4, .bool v5), (10, .sl v6), (11, .str v7), (28, .bool v8)] H (r168_j0 v1 v2 v3 v4 v5 v6 v7 v8 H) := by
  unfold r168_j0
  refine f_if (fun h1 => ?_) (fun h1 => ?_)
  · skip
    refine f_know 28 rfl (bool_T h1) ?_
    refine f_condT rfl ?_
    refine f_region ?_
    exact o_none
  · skip
    refine f_know 28 rfl (bool_F h1) ?_
    refine f_condF rfl ?_
    refine f_skip ?_
    refine f_seq ?_
    refine f_region ?_
    refine f_op rfl rfl (s_alloc (zs := [.int .u8 0, .int .u8 0, .int .u8 0, .int .u8 0, .int .u8 0, .int .u8 0, .int .u8 0, .int .u8 0, .int .u8 0, .int .u8 0, .int .u8 0, .int .u8 0, .int .u8 0, .int .u8 0, .int .u8 0, .int .u8 0, .int .u8 0, .int .u8 0, .int .u8 0, .int .u8 0, .int .u8 0, .int .u8 0, .int .u8 0, .int .u8 0, .int .u8 0, .int .u8 0, .int .u8 0, .int .u8 0, .int .u8 0, .int .u8 0, .int .u8 0, .int .u8 0, .int .u8 0, .int .u8 0, .int .u8 0, .int .u8 0, .int .u8 0, .int .u8 0, .int .u8 0, .int .u8 0, .int .u8 0, .int .u8 0, .int .u8 0, .int .u8 0, .int .u8 0, .int .u8 0, .int .u8 0, .int .u8 0, .int .u8 0, .int .u8 0, .int .u8 0, .int .u8 0, .int .u8 0, .int .u8 0, .int .u8 0, .int .u8 0, .int .u8 0, .int .u8 0, .int .u8 0, .int .u8 0, .int .u8 0, .int .u8 0, .int .u8 0, .int .u8 0, .int .u8 0]) ty264 rfl rfl) ?_
    refine o_hp ?_; intro H2 hH2
    refine f_nil ?_
    refine f_seq ?_
    refine f_region ?_
    refine f_op rfl rfl (s_as (v := .int .i64 65) rfl) ?_
    refine f_nil ?_
    refine f_seq ?_
    refine f_seq ?_
    refine f_region ?_
    refine f_op rfl rfl (s_mv (v := .bool v4) rfl) ?_
    refine f_nil ?_
    refine f_if (fun h3 => ?_) (fun h3 => ?_)
    · skip
      refine f_know 30 rfl (bool_T h3) ?_
      refine f_condT rfl ?_
      refine f_region ?_
      refine f_op rfl rfl (s_mv (v := .int .u64 v2) rfl) ?_
      refine f_op rfl rfl (s_neg rfl) ?_
      refine f_op rfl rfl (s_as (v := .int .u64 (IntKind.wrap .u64 (0 - v2))) rfl) ?_
      refine f_nil ?_
      refine f_know 3 rfl (bool_T h3) ?_
      refine f_keep [0, 1, 2, 3, 4, 10, 11, 12, 13] ?_
      exact s168_j3 v1 (IntKind.wrap .u64 (0 - v2)) v3 true v5 v6 v7 H.n 65 H2
    · skip
      refine f_know 30 rfl (bool_F h3) ?_
      refine f_condF rfl ?_
      refine f_skip ?_
      refine f_know 3 rfl (bool_F h3) ?_
      refine f_keep [0, 1, 2, 3, 4, 10, 11, 12, 13] ?_
      exact s168_j3 v1 v2 v3 false v5 v6 v7 H.n 65 H2

theorem sim168 {a0 : Sl} {a1 : Int} {a2 : Int} {a3 : Bool} {a4 : Bool} {H : Hp} {p : (Sl × ByteArray) × Hp} (h : r168 a0 a1 a2 a3 a4 H = some p) : CallSim Tryz.prog 168 [.sl a0, .int .u64 a1, .int .i64 a2, .bool a3, .bool a4] H (.tup [.sl p.1.1, .str p.1.2]) p.2 := by
  refine callSim (fn := Tryz.f168) (ret := ret168) Tryz.func168 rfl Tryz.ntmps168 rfl ?_ h
  unfold r168
  refine f_seq ?_
  refine f_region ?_
  refine f_op rfl rfl (s_as (v := .sl ⟨true, 0, 0, 0, 0, 0⟩) rfl) ?_
  refine f_op rfl rfl (s_as (v := .str (ByteArray.mk #[])) rfl) ?_
  refine f_nil ?_
  refine f_seq ?_
  refine f_seq ?_
  refine f_region ?_
  refine f_op rfl rfl (s_mv (v := .int .i64 a2) rfl) ?_
  refine f_op rfl rfl (s_lss rfl rfl) ?_
  refine f_op rfl rfl (s_mv (v := .bool (decide (a2 < 2))) rfl) ?_
  refine o_if (fun h1 => ?_) (fun h1 => ?_)
  · skip
    refine o_know 21 rfl (dec_true h1) ?_
    refine f_no rfl rfl ?_
    refine f_no rfl rfl ?_
    refine f_op rfl rfl (s_pickT (v := .bool true) rfl rfl) ?_
    refine f_op rfl rfl (s_mv (v := .bool true) rfl) ?_
    refine f_no rfl rfl ?_
    refine f_no rfl rfl ?_
    refine f_op rfl rfl (s_pickT (v := .bool true) rfl rfl) ?_
    refine f_nil ?_
    refine f_keep [0, 1, 2, 3, 4, 10, 11, 28] ?_
    exact s168_j0 a0 a1 a2 a3 a4 ⟨true, 0, 0, 0, 0, 0⟩ (ByteArray.mk #[]) true H
  · skip
    refine o_know 21 rfl (dec_false h1) ?_
    refine f_op rfl rfl (s_mv (v := .int .i64 a2) rfl) ?_
    refine f_op rfl rfl (s_eql rfl rfl) ?_
    refine f_op rfl rfl (s_pickF (v := .bool (decide (a2 = 10))) rfl rfl) ?_
    refine f_op rfl rfl (s_mv (v := .bool (decide (a2 = 10))) rfl) ?_
    refine o_if (fun h2 => ?_) (fun h2 => ?_)
    · skip
      refine o_know 25 rfl (dec_true h2) ?_
      refine f_no rfl rfl ?_
      refine f_no rfl rfl ?_
      refine f_op rfl rfl (s_pickT (v := .bool true) rfl rfl) ?_
      refine f_nil ?_
      refine f_keep [0, 1, 2, 3, 4, 10, 11, 28] ?_
      exact s168_j0 a0 a1 a2 a3 a4 ⟨true, 0, 0, 0, 0, 0⟩ (ByteArray.mk #[]) true H
    · skip
      refine o_know 25 rfl (dec_false h2) ?_
      refine f_op rfl rfl (s_mv (v := .int .i64 a2) rfl) ?_
      refine f_op rfl rfl (s_gtr rfl rfl) ?_
      refine f_op rfl rfl (s_pickF (v := .bool (decide (36 < a2))) rfl rfl) ?_
      refine f_nil ?_
      refine f_keep [0, 1, 2, 3, 4, 10, 11, 28] ?_
      exact s168_j0 a0 a1 a2 a3 a4 ⟨true, 0, 0, 0, 0, 0⟩ (ByteArray.mk #[]) (decide (36 < a2)) H

/- 113 internal/strconv.FormatInt -/
theorem ok113 : FnOk Tryz.prog 113 := ⟨⟨Tryz.f113, Tryz.func113, by kernel_rfl, rfl⟩⟩
theorem s113_j0 {app : App} (happ : AppSim Tryz.prog app) (v1 : Int) (v2 : Nat) (v3 : Int) (H : Hp) : Fin Tryz.prog Tryz.f113 ret113 54 (todoAt (bodyOf Tryz.f113) [1, 0, 1, 0, 1, 1, 1, 1] []) [(0, .int .i64 v1), (5, .ptr v2 0), (6, .int .u64 v3)] H (r113_j0 app v1 v2 v3 H) := by
  unfold r113_j0
  refine f_seq ?_
  refine f_region ?_
  refine f_op rfl rfl (s_mv (v := .int .u64 v3) rfl) ?_
  refine o_bind ?_; intro p1 hp1
  refine o_bind ?_; intro x2 hx2
  refine f_op rfl rfl (s_callA happ rfl hp1) ?_
  refine o_know 27 rfl (asI_eq hx2) ?_
  refine f_op rfl rfl (s_as (v := .int .i64 x2) rfl) ?_
  refine f_nil ?_
  refine f_seq ?_
  refine f_region ?_
  refine f_op rfl rfl (s_mv (v := .int .i64 x2) rfl) ?_
  refine f_op rfl rfl (s_add rfl rfl) ?_
  refine o_ck fun g3 => ?_
  refine f_op rfl rfl (s_sliceA Tryz.underlying213 ty5 rfl rfl rfl g3) ?_
  refine f_op rfl rfl (s_mv (v := .int .u64 v3) rfl) ?_
  refine o_bind ?_; intro p4 hp4
  refine f_op rfl rfl (s_callA happ rfl hp4) ?_
  refine f_nil ?_
  refine f_seq ?_
  refine f_seq ?_
  refine f_region ?_
  refine f_op rfl rfl (s_mv (v := .int .i64 v1) rfl) ?_
  refine f_op rfl rfl (s_lss rfl rfl) ?_
  refine f_nil ?_
  refine f_if (fun h5 => ?_) (fun h5 => ?_)
  · skip
    refine f_know 34 rfl (dec_true h5) ?_
    refine f_condT rfl ?_
    refine f_seq ?_
    refine f_region ?_
    refine f_op rfl rfl (s_idxA Tryz.underlying213 ty5 rfl rfl (by decide)) ?_
    refine o_bind ?_; intro H6 hH6
    refine f_op rfl rfl (s_store (s := 1) ty5 rfl rfl rfl hH6) ?_
    refine f_nil ?_
    refine f_seq ?_
    refine f_region ?_
    refine f_op rfl rfl (s_mv (v := .int .i64 x2) rfl) ?_
    refine f_op rfl rfl (s_add rfl rfl) ?_
    refine o_ck fun g7 => ?_
    refine f_op rfl rfl (s_sliceA Tryz.underlying213 ty5 rfl rfl rfl g7) ?_
    exact o_none
  · skip
    refine f_know 34 rfl (dec_false h5) ?_
    refine f_condF rfl ?_
    refine f_skip ?_
    refine f_seq ?_
    refine f_region ?_
    refine f_op rfl rfl (s_mv (v := .int .i64 x2) rfl) ?_
    refine f_op rfl rfl (s_add rfl rfl) ?_
    refine o_ck fun g8 => ?_
    refine f_op rfl rfl (s_sliceA Tryz.underlying213 ty5 rfl rfl rfl g8) ?_
    exact o_none

theorem s113_j1 {app : App} (happ : AppSim Tryz.prog app) (v1 : Int) (v2 : Bool) (H : Hp) : Fin Tryz.prog Tryz.f113 ret113 54 (todoAt (bodyOf Tryz.f113) [1, 0, 1, 0, 0, 1] []) [(0, .int .i64 v1), (17, .bool v2)] H (r113_j1 app v1 v2 H) := by
  unfold r113_j1
  refine f_if (fun h1 => ?_) (fun h1 => ?_)
  · skip
    refine f_know 17 rfl (bool_T h1) ?_
    refine f_condT rfl ?_
    refine f_seq ?_
    refine f_region ?_
    refine f_op rfl rfl (s_mv (v := .int .i64 v1) rfl) ?_
    refine o_bind ?_; intro p2 hp2
    refine f_op rfl rfl (s_callF rfl ok165 (sim165 hp2)) ?_
    refine f_op rfl rfl (s_as (v := .str p2.1) rfl) ?_
    refine f_nil ?_
    exact f_ret (.tmp rfl (.nil)) rfl
  · skip
    refine f_know 17 rfl (bool_F h1) ?_
    refine f_condF rfl ?_
    refine f_skip ?_
    refine f_seq ?_
    refine f_region ?_
    refine f_op rfl rfl (s_alloc (zs := [.int .u8 0, .int .u8 0, .int .u8 0, .int .u8 0, .int .u8 0, .int .u8 0, .int .u8 0, .int .u8 0, .int .u8 0, .int .u8 0, .int .u8 0, .int .u8 0, .int .u8 0, .int .u8 0, .int .u8 0, .int .u8 0, .int .u8 0, .int .u8 0, .int .u8 0, .int .u8 0, .int .u8 0, .int .u8 0, .int .u8 0, .int .u8 0]) ty213 rfl rfl) ?_
    refine o_hp ?_; intro H3 hH3
    refine f_nil ?_
    refine f_seq ?_
    refine f_region ?_
    refine f_op rfl rfl (s_mv (v := .int .i64 v1) rfl) ?_
    refine f_op rfl rfl (s_convInt Tryz.underlying2 Tryz.underlying214 rfl) ?_
    refine f_op rfl rfl (s_as (v := .int .u64 (IntKind.wrap .u64 (v1))) rfl) ?_
    refine f_nil ?_
    refine f_seq ?_
    refine f_seq ?_
    refine f_region ?_
    refine f_op rfl rfl (s_mv (v := .int .i64 v1) rfl) ?_
    refine f_op rfl rfl (s_lss rfl rfl) ?_
    refine f_nil ?_
    refine f_if (fun h4 => ?_) (fun h4 => ?_)
    · skip
      refine f_know 23 rfl (dec_true h4) ?_
      refine f_condT rfl ?_
      refine f_region ?_
      refine f_op rfl rfl (s_mv (v := .int .u64 (IntKind.wrap .u64 (v1))) rfl) ?_
      refine f_op rfl rfl (s_neg rfl) ?_
      refine f_op rfl rfl (s_as (v := .int .u64 (IntKind.wrap .u64 (0 - (IntKind.wrap .u64 (v1))))) rfl) ?_
      refine f_nil ?_
      refine f_keep [0, 5, 6] ?_
      exact s113_j0 happ v1 H.n (IntKind.wrap .u64 (0 - (IntKind.wrap .u64 (v1)))) H3
    · skip
      refine f_know 23 rfl (dec_false h4) ?_
      refine f_condF rfl ?_
      refine f_skip ?_
      refine f_keep [0, 5, 6] ?_
      exact s113_j0 happ v1 H.n (IntKind.wrap .u64 (v1)) H3

theorem sim113 {app : App} (happ : AppSim Tryz.prog app) {a0 : Int} {a1 : Int} {H : Hp} {p : ByteArray × Hp} (h : r113 app a0 a1 H = some p) : CallSim Tryz.prog 113 [.int .i64 a0, .int .i64 a1] H (.str p.1) p.2 := by
  refine callSim (fn := Tryz.f113) (ret := ret113) Tryz.func113 rfl Tryz.ntmps113 rfl ?_ h
  unfold r113
  refine f_seq ?_
  refine f_region ?_
  refine f_op rfl rfl (s_as (v := .str (ByteArray.mk #[])) rfl) ?_
  refine f_nil ?_
  refine f_seq ?_
  refine f_seq ?_
  refine f_region ?_
  refine f_op rfl rfl (s_mv (v := .int .i64 a1) rfl) ?_
  refine f_op rfl rfl (s_eql rfl rfl) ?_
  refine f_nil ?_
  refine f_if (fun h1 => ?_) (fun h1 => ?_)
  · skip
    refine f_know 11 rfl (dec_true h1) ?_
    refine f_condT rfl ?_
    refine f_seq ?_
    refine f_seq ?_
    refine f_region ?_
    refine f_op rfl rfl (s_mv (v := .int .i64 a0) rfl) ?_
    refine f_op rfl rfl (s_leq rfl rfl) ?_
    refine f_op rfl rfl (s_mv (v := .bool (decide (0 ≤ a0))) rfl) ?_
    refine o_if (fun h2 => ?_) (fun h2 => ?_)
    · skip
      refine o_know 14 rfl (dec_true h2) ?_
      refine f_op rfl rfl (s_mv (v := .int .i64 a0) rfl) ?_
      refine f_op rfl rfl (s_lss rfl rfl) ?_
      refine f_op rfl rfl (s_pickT (v := .bool (decide (a0 < 100))) rfl rfl) ?_
      refine f_nil ?_
      refine f_keep [0, 17] ?_
      exact s113_j1 happ a0 (decide (a0 < 100)) H
    · skip
      refine o_know 14 rfl (dec_false h2) ?_
      refine f_no rfl rfl ?_
      refine f_no rfl rfl ?_
      refine f_op rfl rfl (s_pickF (v := .bool false) rfl rfl) ?_
      refine f_nil ?_
      refine f_keep [0, 17] ?_
      exact s113_j1 happ a0 false H
  · skip
    refine f_know 11 rfl (dec_false h1) ?_
    refine f_condF rfl ?_
    refine f_skip ?_
    refine f_seq ?_
    refine f_region ?_
    refine f_op rfl rfl (s_mv (v := .int .i64 a0) rfl) ?_
    refine f_op rfl rfl (s_convInt Tryz.underlying2 Tryz.underlying214 rfl) ?_
    refine f_op rfl rfl (s_mv (v := .int .i64 a1) rfl) ?_
    refine f_op rfl rfl (s_mv (v := .int .i64 a0) rfl) ?_
    refine f_op rfl rfl (s_lss rfl rfl) ?_
    refine o_bind ?_; intro p3 hp3
    refine o_bind ?_; intro x4 hx4
    refine o_ck fun g5 => ?_
    refine o_bind ?_; intro x6 hx6
    refine o_bind ?_; intro x7 hx7
    refine o_bind ?_; intro x8 hx8
    refine o_bind ?_; intro x9 hx9
    refine f_op rfl rfl (s_callA happ rfl hp3) ?_
    refine o_know 50 rfl (tupOf2 hx4 g5 (gete hx6 (asSl_eq hx7)) (gete hx8 (asStr_eq hx9))) ?_
    refine f_op rfl rfl (s_mv (v := .tup [.sl x7, .str x9]) rfl) ?_
    refine f_op rfl rfl (s_extract (r := .sl x7) rfl rfl) ?_
    refine f_op rfl rfl (s_extract (r := .str x9) rfl rfl) ?_
    refine f_op rfl rfl (s_as (v := .sl x7) rfl) ?_
    refine f_op rfl rfl (s_as (v := .str x9) rfl) ?_
    refine f_nil ?_
    refine f_seq ?_
    refine f_region ?_
    refine f_op rfl rfl (s_mv (v := .str x9) rfl) ?_
    refine f_op rfl rfl (s_as (v := .str x9) rfl) ?_
    refine f_nil ?_
    exact f_ret (.tmp rfl (.nil)) rfl

/- 84 internal/strconv.Itoa -/
theorem ok84 : FnOk Tryz.prog 84 := ⟨⟨Tryz.f84, Tryz.func84, by kernel_rfl, rfl⟩⟩
theorem sim84 {app : App} (happ : AppSim Tryz.prog app) {a0 : Int} {H : Hp} {p : ByteArray × Hp} (h : r84 app a0 H = some p) : CallSim Tryz.prog 84 [.int .i64 a0] H (.str p.1) p.2 := by
  refine callSim (fn := Tryz.f84) (ret := ret84) Tryz.func84 rfl Tryz.ntmps84 rfl ?_ h
  unfold r84
  refine f_seq ?_
  refine f_region ?_
  refine f_op rfl rfl (s_as (v := .str (ByteArray.mk #[])) rfl) ?_
  refine f_nil ?_
  refine f_seq ?_
  refine f_region ?_
  refine f_op rfl rfl (s_mv (v := .int .i64 a0) rfl) ?_
  refine o_bind ?_; intro p1 hp1
  refine f_op rfl rfl (s_callF rfl ok113 (sim113 happ hp1)) ?_
  refine f_op rfl rfl (s_as (v := .str p1.1) rfl) ?_
  refine f_nil ?_
  exact f_ret (.tmp rfl (.nil)) rfl

/- 53 strconv.Itoa -/
theorem ok53 : FnOk Tryz.prog 53 := ⟨⟨Tryz.f53, Tryz.func53, by kernel_rfl, rfl⟩⟩
theorem sim53 {app : App} (happ : AppSim Tryz.prog app) {a0 : Int} {H : Hp} {p : ByteArray × Hp} (h : r53 app a0 H = some p) : CallSim Tryz.prog 53 [.int .i64 a0] H (.str p.1) p.2 := by
  refine callSim (fn := Tryz.f53) (ret := ret53) Tryz.func53 rfl Tryz.ntmps53 rfl ?_ h
  unfold r53
  refine f_seq ?_
  refine f_region ?_
  refine f_op rfl rfl (s_as (v := .str (ByteArray.mk #[])) rfl) ?_
  refine f_nil ?_
  refine f_seq ?_
  refine f_region ?_
  refine f_op rfl rfl (s_mv (v := .int .i64 a0) rfl) ?_
  refine o_bind ?_; intro p1 hp1
  refine f_op rfl rfl (s_callF rfl ok84 (sim84 happ hp1)) ?_
  refine f_op rfl rfl (s_as (v := .str p1.1) rfl) ?_
  refine f_nil ?_
  exact f_ret (.tmp rfl (.nil)) rfl

end Go.Lt.P10
