/- PRINTED BY A PROGRAM OF OURS: what each function that 'DealsEqual' reaches computes on the abstract heap, and that the translated code does just that. Nothing is asked of the input. -/
import Derived.Test.YtficeemoekikdaaG9P0
set_option linter.unusedVariables false
set_option linter.unusedSimpArgs false
set_option maxRecDepth 100000
set_option maxHeartbeats 4000000
namespace Go.Lt.P5
open Go Go.Lt Go.Proofs
/- 98 math/bits.Len64 -/
theorem ok98 : FnOk Try.prog 98 := ⟨⟨Try.f98, Try.func98, by kernel_rfl, rfl⟩⟩
theorem s98_j0 (v1 : Int) (v2 : Int) (H : Hp) : Fin Try.prog Try.f98 ret98 25 (todoAt (bodyOf Try.f98) [1, 1, 1, 1] []) [(0, .int .u64 v1), (2, .int .i64 v2)] H (r98_j0 v1 v2 H) := by
  unfold r98_j0
  refine f_seq ?_
  refine f_region ?_
  refine f_op rfl rfl (s_mv (v := .int .i64 v2) rfl) ?_
  refine f_op rfl rfl (s_mv (v := .int .u64 v1) rfl) ?_
  refine f_op rfl rfl (s_convInt Try.underlying124 Try.underlying5 rfl) ?_
  refine o_ck fun g1 => ?_
  refine f_op rfl rfl (s_indexStr Try.underlying9 rfl rfl g1) ?_
  refine f_op rfl rfl (s_convInt Try.underlying5 Try.underlying3 rfl) ?_
  refine f_op rfl rfl (s_add rfl rfl) ?_
  refine f_op rfl rfl (s_as (v := .int .i64 (w64 (v2 + (w64 (bt (strC Try.f98 [1, 1, 1, 1, 0] 3 0) (IntKind.wrap .u8 (v1))))))) rfl) ?_
  refine f_nil ?_
  exact f_ret (.tmp rfl (.nil)) rfl

theorem s98_j1 (v1 : Int) (v2 : Int) (H : Hp) : Fin Try.prog Try.f98 ret98 25 (todoAt (bodyOf Try.f98) [1, 1, 1] []) [(0, .int .u64 v1), (2, .int .i64 v2)] H (r98_j1 v1 v2 H) := by
  unfold r98_j1
  refine f_seq ?_
  refine f_seq ?_
  refine f_region ?_
  refine f_op rfl rfl (s_mv (v := .int .u64 v1) rfl) ?_
  refine f_op rfl rfl (s_geq rfl rfl) ?_
  refine f_nil ?_
  refine f_if (fun h1 => ?_) (fun h1 => ?_)
  · skip
    refine f_know 14 rfl (dec_true h1) ?_
    refine f_condT rfl ?_
    refine f_seq ?_
    refine f_region ?_
    refine f_op rfl rfl (s_mv (v := .int .u64 v1) rfl) ?_
    refine f_op rfl rfl (s_shr rfl rfl (by decide)) ?_
    refine f_op rfl rfl (s_as (v := .int .u64 (shrOf .u64 v1 8)) rfl) ?_
    refine f_nil ?_
    refine f_region ?_
    refine f_op rfl rfl (s_mv (v := .int .i64 v2) rfl) ?_
    refine f_op rfl rfl (s_add rfl rfl) ?_
    refine f_op rfl rfl (s_as (v := .int .i64 (w64 (v2 + 8))) rfl) ?_
    refine f_nil ?_
    refine f_keep [0, 2] ?_
    exact s98_j0 (shrOf .u64 v1 8) (w64 (v2 + 8)) H
  · skip
    refine f_know 14 rfl (dec_false h1) ?_
    refine f_condF rfl ?_
    refine f_skip ?_
    refine f_keep [0, 2] ?_
    exact s98_j0 v1 v2 H

theorem s98_j2 (v1 : Int) (v2 : Int) (H : Hp) : Fin Try.prog Try.f98 ret98 25 (todoAt (bodyOf Try.f98) [1, 1] []) [(0, .int .u64 v1), (2, .int .i64 v2)] H (r98_j2 v1 v2 H) := by
  unfold r98_j2
  refine f_seq ?_
  refine f_seq ?_
  refine f_region ?_
  refine f_op rfl rfl (s_mv (v := .int .u64 v1) rfl) ?_
  refine f_op rfl rfl (s_geq rfl rfl) ?_
  refine f_nil ?_
  refine f_if (fun h1 => ?_) (fun h1 => ?_)
  · skip
    refine f_know 8 rfl (dec_true h1) ?_
    refine f_condT rfl ?_
    refine f_seq ?_
    refine f_region ?_
    refine f_op rfl rfl (s_mv (v := .int .u64 v1) rfl) ?_
    refine f_op rfl rfl (s_shr rfl rfl (by decide)) ?_
    refine f_op rfl rfl (s_as (v := .int .u64 (shrOf .u64 v1 16)) rfl) ?_
    refine f_nil ?_
    refine f_region ?_
    refine f_op rfl rfl (s_mv (v := .int .i64 v2) rfl) ?_
    refine f_op rfl rfl (s_add rfl rfl) ?_
    refine f_op rfl rfl (s_as (v := .int .i64 (w64 (v2 + 16))) rfl) ?_
    refine f_nil ?_
    refine f_keep [0, 2] ?_
    exact s98_j1 (shrOf .u64 v1 16) (w64 (v2 + 16)) H
  · skip
    refine f_know 8 rfl (dec_false h1) ?_
    refine f_condF rfl ?_
    refine f_skip ?_
    refine f_keep [0, 2] ?_
    exact s98_j1 v1 v2 H

theorem sim98 {a0 : Int} {H : Hp} {p : Int × Hp} (h : r98 a0 H = some p) : CallSim Try.prog 98 [.int .u64 a0] H (.int .i64 p.1) p.2 := by
  refine callSim (fn := Try.f98) (ret := ret98) Try.func98 rfl Try.ntmps98 rfl ?_ h
  unfold r98
  refine f_seq ?_
  refine f_region ?_
  refine f_op rfl rfl (s_as (v := .int .i64 0) rfl) ?_
  refine f_nil ?_
  refine f_seq ?_
  refine f_seq ?_
  refine f_region ?_
  refine f_op rfl rfl (s_mv (v := .int .u64 a0) rfl) ?_
  refine f_op rfl rfl (s_geq rfl rfl) ?_
  refine f_nil ?_
  refine f_if (fun h1 => ?_) (fun h1 => ?_)
  · skip
    refine f_know 4 rfl (dec_true h1) ?_
    refine f_condT rfl ?_
    refine f_seq ?_
    refine f_region ?_
    refine f_op rfl rfl (s_mv (v := .int .u64 a0) rfl) ?_
    refine f_op rfl rfl (s_shr rfl rfl (by decide)) ?_
    refine f_op rfl rfl (s_as (v := .int .u64 (shrOf .u64 a0 32)) rfl) ?_
    refine f_nil ?_
    refine f_region ?_
    refine f_op rfl rfl (s_as (v := .int .i64 32) rfl) ?_
    refine f_nil ?_
    refine f_keep [0, 2] ?_
    exact s98_j2 (shrOf .u64 a0 32) 32 H
  · skip
    refine f_know 4 rfl (dec_false h1) ?_
    refine f_condF rfl ?_
    refine f_skip ?_
    refine f_keep [0, 2] ?_
    exact s98_j2 a0 0 H

/- 88 math/bits.Len -/
theorem ok88 : FnOk Try.prog 88 := ⟨⟨Try.f88, Try.func88, by kernel_rfl, rfl⟩⟩
theorem sim88 {a0 : Int} {H : Hp} {p : Int × Hp} (h : r88 a0 H = some p) : CallSim Try.prog 88 [.int .u64 a0] H (.int .i64 p.1) p.2 := by
  refine callSim (fn := Try.f88) (ret := ret88) Try.func88 rfl Try.ntmps88 rfl ?_ h
  unfold r88
  refine f_seq ?_
  refine f_region ?_
  refine f_op rfl rfl (s_as (v := .int .i64 0) rfl) ?_
  refine f_nil ?_
  refine f_seq ?_
  refine f_condF rfl ?_
  refine f_skip ?_
  refine f_seq ?_
  refine f_region ?_
  refine f_op rfl rfl (s_mv (v := .int .u64 a0) rfl) ?_
  refine o_bind ?_; intro p1 hp1
  refine f_op rfl rfl (s_callF rfl ok98 (sim98 hp1)) ?_
  refine f_op rfl rfl (s_as (v := .int .i64 p1.1) rfl) ?_
  refine f_nil ?_
  exact f_ret (.tmp rfl (.nil)) rfl

/- 100 slices.nextPowerOfTwo -/
theorem ok100 : FnOk Try.prog 100 := ⟨⟨Try.f100, Try.func100, by kernel_rfl, rfl⟩⟩
theorem sim100 {a0 : Int} {H : Hp} {p : Int × Hp} (h : r100 a0 H = some p) : CallSim Try.prog 100 [.int .i64 a0] H (.int .u64 p.1) p.2 := by
  refine callSim (fn := Try.f100) (ret := ret100) Try.func100 rfl Try.ntmps100 rfl ?_ h
  unfold r100
  refine f_seq ?_
  refine f_region ?_
  refine f_op rfl rfl (s_as (v := .int .u64 0) rfl) ?_
  refine f_nil ?_
  refine f_seq ?_
  refine f_region ?_
  refine f_op rfl rfl (s_mv (v := .int .i64 a0) rfl) ?_
  refine f_op rfl rfl (s_convInt Try.underlying3 Try.underlying63 rfl) ?_
  refine o_bind ?_; intro p1 hp1
  refine f_op rfl rfl (s_callF rfl ok88 (sim88 hp1)) ?_
  refine o_ck fun g2 => ?_
  refine f_op rfl rfl (s_shl rfl rfl g2) ?_
  refine f_op rfl rfl (s_as (v := .int .u64 (shlOf .u64 1 p1.1)) rfl) ?_
  refine f_nil ?_
  exact f_ret (.tmp rfl (.nil)) rfl

/- 101 (*slices.xorshift).Next -/
theorem ok101 : FnOk Try.prog 101 := ⟨⟨Try.f101, Try.func101, by kernel_rfl, rfl⟩⟩
theorem sim101 {a0b : Nat} {a0o : Nat} {H : Hp} {p : Int × Hp} (h : r101 a0b a0o H = some p) : CallSim Try.prog 101 [.ptr a0b a0o] H (.int .u64 p.1) p.2 := by
  refine callSim (fn := Try.f101) (ret := ret101) Try.func101 rfl Try.ntmps101 rfl ?_ h
  unfold r101
  refine f_seq ?_
  refine f_region ?_
  refine f_op rfl rfl (s_as (v := .int .u64 0) rfl) ?_
  refine f_nil ?_
  refine f_seq ?_
  refine f_bind ?_; intro x1 hx1
  refine f_bind ?_; intro x2 hx2
  refine f_bind ?_; intro H3 hH3
  refine f_draw (Φ := fun _ => True) (lim := 1000000) [0, 0, 1, 0, 0, 1, 0, 0, 0, 2] (Trc.pure rfl rfl rfl (.inl fun _ => s_mv (v := .ptr a0b a0o) rfl) (Trc.pure rfl rfl rfl (.inl fun _ => s_nilCheck rfl) (Trc.read rfl rfl rfl (s_load Try.underlying125 rfl rfl (ldI_eq hx1)) (Trc.pure rfl rfl rfl (.inl fun _ => s_mv (v := .ptr a0b a0o) rfl) (Trc.pure rfl rfl rfl (.inl fun _ => s_nilCheck rfl) (Trc.read rfl rfl rfl (s_load Try.underlying125 rfl rfl (ldI_eq hx2)) (Trc.pure rfl rfl rfl (.inl fun _ => s_shl rfl rfl (by decide)) (Trc.pure rfl rfl rfl (.inl fun _ => s_xor rfl rfl) (Trc.pure rfl rfl rfl (.inl fun _ => s_nilCheck rfl) (Trc.eff rfl rfl rfl (fun _ => trivial) (s_store (s := 1) ty125 rfl rfl rfl hH3) (Trc.nil (fun _ => trivial)))))))))))) rfl (by decide +kernel) mixed ?_
  refine f_seq ?_
  refine f_bind ?_; intro x4 hx4
  refine f_bind ?_; intro x5 hx5
  refine f_bind ?_; intro H6 hH6
  refine f_draw (Φ := fun _ => True) (lim := 1000000) [0, 0, 1, 0, 0, 1, 0, 0, 0, 2] (Trc.pure rfl rfl rfl (.inl fun _ => s_mv (v := .ptr a0b a0o) rfl) (Trc.pure rfl rfl rfl (.inl fun _ => s_nilCheck rfl) (Trc.read rfl rfl rfl (s_load Try.underlying125 rfl rfl (ldI_eq hx4)) (Trc.pure rfl rfl rfl (.inl fun _ => s_mv (v := .ptr a0b a0o) rfl) (Trc.pure rfl rfl rfl (.inl fun _ => s_nilCheck rfl) (Trc.read rfl rfl rfl (s_load Try.underlying125 rfl rfl (ldI_eq hx5)) (Trc.pure rfl rfl rfl (.inl fun _ => s_shr rfl rfl (by decide)) (Trc.pure rfl rfl rfl (.inl fun _ => s_xor rfl rfl) (Trc.pure rfl rfl rfl (.inl fun _ => s_nilCheck rfl) (Trc.eff rfl rfl rfl (fun _ => trivial) (s_store (s := 1) ty125 rfl rfl rfl hH6) (Trc.nil (fun _ => trivial)))))))))))) rfl (by decide +kernel) mixed ?_
  refine f_seq ?_
  refine f_bind ?_; intro x7 hx7
  refine f_bind ?_; intro x8 hx8
  refine f_bind ?_; intro H9 hH9
  refine f_draw (Φ := fun _ => True) (lim := 1000000) [0, 0, 1, 0, 0, 1, 0, 0, 0, 2] (Trc.pure rfl rfl rfl (.inl fun _ => s_mv (v := .ptr a0b a0o) rfl) (Trc.pure rfl rfl rfl (.inl fun _ => s_nilCheck rfl) (Trc.read rfl rfl rfl (s_load Try.underlying125 rfl rfl (ldI_eq hx7)) (Trc.pure rfl rfl rfl (.inl fun _ => s_mv (v := .ptr a0b a0o) rfl) (Trc.pure rfl rfl rfl (.inl fun _ => s_nilCheck rfl) (Trc.read rfl rfl rfl (s_load Try.underlying125 rfl rfl (ldI_eq hx8)) (Trc.pure rfl rfl rfl (.inl fun _ => s_shl rfl rfl (by decide)) (Trc.pure rfl rfl rfl (.inl fun _ => s_xor rfl rfl) (Trc.pure rfl rfl rfl (.inl fun _ => s_nilCheck rfl) (Trc.eff rfl rfl rfl (fun _ => trivial) (s_store (s := 1) ty125 rfl rfl rfl hH9) (Trc.nil (fun _ => trivial)))))))))))) rfl (by decide +kernel) mixed ?_
  refine f_seq ?_
  refine f_region ?_
  refine f_op rfl rfl (s_mv (v := .ptr a0b a0o) rfl) ?_
  refine f_op rfl rfl (s_nilCheck rfl) ?_
  refine o_bind ?_; intro x10 hx10
  refine f_op rfl rfl (s_load Try.underlying125 rfl rfl (ldI_eq hx10)) ?_
  refine f_op rfl rfl (s_as (v := .int .u64 x10) rfl) ?_
  refine f_nil ?_
  exact f_ret (.tmp rfl (.nil)) rfl

/- 91 slices.breakPatternsCmpFunc[[2]int] -/
theorem ok91 : FnOk Try.prog 91 := ⟨⟨Try.f91, Try.func91, by kernel_rfl, rfl⟩⟩
theorem s91_j1 (kt0 : Sl → Int → Int → Nat → Int → Int → Hp → Option (Unit × Hp)) (hkt0 : ∀ (v1 : Sl) (v2 : Int) (v3 : Int) (v4 : Nat) (v5 : Int) (v6 : Int) (H : Hp), Fin Try.prog Try.f91 ret91 67 (todoAt (bodyOf Try.f91) [1, 1, 0, 1, 1, 1, 0, 0] []) [(0, .sl v1), (1, .int .i64 v2), (8, .int .i64 v3), (9, .ptr v4 0), (10, .int .u64 v5), (11, .int .i64 v6)] H (kt0 v1 v2 v3 v4 v5 v6 H)) (v1 : Sl) (v2 : Int) (v3 : Int) (v4 : Nat) (v5 : Int) (v6 : Int) (v7 : Int) (H : Hp) : Fin Try.prog Try.f91 ret91 67 (todoAt (bodyOf Try.f91) [1, 1, 0, 1, 1, 1, 0, 0, 1, 0, 0, 1, 1] []) [(0, .sl v1), (1, .int .i64 v2), (8, .int .i64 v3), (9, .ptr v4 0), (10, .int .u64 v5), (11, .int .i64 v6), (12, .int .i64 v7)] H (r91_j1 kt0 v1 v2 v3 v4 v5 v6 v7 H) := by
  unfold r91_j1
  refine f_ck fun g1 => ?_
  refine f_bind ?_; intro x2 hx2
  refine f_bind ?_; intro x3 hx3
  refine f_ck fun g4 => ?_
  refine f_bind ?_; intro x5 hx5
  refine f_bind ?_; intro x6 hx6
  refine f_ck fun g7 => ?_
  refine f_bind ?_; intro H8 hH8
  refine f_ck fun g9 => ?_
  refine f_bind ?_; intro H10 hH10
  refine f_draw (Φ := fun _ => True) (lim := 1000000) [0, 0, 0, 0, 0, 0, 0, 0, 0, 0, 0, 1, 0, 0, 0, 1, 0, 2, 0, 2] (Trc.pure rfl rfl rfl (.inl fun _ => s_mv (v := .sl v1) rfl) (Trc.pure rfl rfl rfl (.inl fun _ => s_mv (v := .int .i64 v6) rfl) (Trc.pure rfl rfl rfl (.inl fun _ => s_mv (v := .sl v1) rfl) (Trc.pure rfl rfl rfl (.inl fun _ => s_mv (v := .int .i64 v2) rfl) (Trc.pure rfl rfl rfl (.inl fun _ => s_mv (v := .int .i64 v7) rfl) (Trc.pure rfl rfl rfl (.inl fun _ => s_add rfl rfl) (Trc.pure rfl rfl rfl (.inl fun _ => s_mv (v := .sl v1) rfl) (Trc.pure rfl rfl rfl (.inl fun _ => s_mv (v := .int .i64 v2) rfl) (Trc.pure rfl rfl rfl (.inl fun _ => s_mv (v := .int .i64 v7) rfl) (Trc.pure rfl rfl rfl (.inl fun _ => s_add rfl rfl) (Trc.pure rfl rfl rfl (.inl fun _ => s_idx Try.underlying35 ty49 rfl rfl g1) (Trc.read rfl rfl rfl (s_loads Try.underlying49 rfl ty49 rfl (lds_cons (ldI_eq hx2) (lds_cons (ldI_eq hx3) (lds_nil)))) (Trc.pure rfl rfl rfl (.inl fun _ => s_mv (v := .sl v1) rfl) (Trc.pure rfl rfl rfl (.inl fun _ => s_mv (v := .int .i64 v6) rfl) (Trc.pure rfl rfl rfl (.inl fun _ => s_idx Try.underlying35 ty49 rfl rfl g4) (Trc.read rfl rfl rfl (s_loads Try.underlying49 rfl ty49 rfl (lds_cons (ldI_eq hx5) (lds_cons (ldI_eq hx6) (lds_nil)))) (Trc.pure rfl rfl rfl (.inl fun _ => s_idx Try.underlying35 ty49 rfl rfl g7) (Trc.eff rfl rfl rfl (fun _ => trivial) (s_stores ty49 rfl rfl rfl rfl hH8 (Nat.le_of_eq (sts_mono hH8).symm)) (Trc.pure rfl rfl rfl (.inl fun _ => s_idx Try.underlying35 ty49 rfl rfl g9) (Trc.eff rfl rfl rfl (fun _ => trivial) (s_stores ty49 rfl rfl rfl rfl hH10 (Nat.le_of_eq (sts_mono hH10).symm)) (Trc.nil (fun _ => trivial)))))))))))))))))))))) rfl (by decide +kernel) mixed ?_
  refine f_inBlock ?_
  refine f_region ?_
  refine f_op rfl rfl (s_mv (v := .int .i64 v6) rfl) ?_
  refine f_op rfl rfl (s_add rfl rfl) ?_
  refine f_op rfl rfl (s_as (v := .int .i64 (w64 (v6 + 1))) rfl) ?_
  refine f_nil ?_
  refine f_inLoop ?_
  refine f_keep [0, 1, 8, 9, 10, 11] ?_
  exact hkt0 v1 v2 v3 v4 v5 (w64 (v6 + 1)) H10

theorem s91_l0 : ∀ (k_ : Nat) (v1 : Sl) (v2 : Int) (v3 : Int) (v4 : Nat) (v5 : Int) (v6 : Int) (H : Hp), Fin Try.prog Try.f91 ret91 67 (todoAt (bodyOf Try.f91) [1, 1, 0, 1, 1, 1, 0, 0] []) [(0, .sl v1), (1, .int .i64 v2), (8, .int .i64 v3), (9, .ptr v4 0), (10, .int .u64 v5), (11, .int .i64 v6)] H (r91_l0 k_ v1 v2 v3 v4 v5 v6 H) := by
  intro k_
  induction k_ with
  | zero => intro _ _ _ _ _ _ _; exact f_none
  | succ k_ ih =>
    intro v1 v2 v3 v4 v5 v6 H
    rw [r91_l0]
    refine f_seq ?_
    refine f_seq ?_
    refine f_region ?_
    refine f_op rfl rfl (s_mv (v := .int .i64 v6) rfl) ?_
    refine f_op rfl rfl (s_mv (v := .int .i64 v2) rfl) ?_
    refine f_op rfl rfl (s_mv (v := .int .i64 v3) rfl) ?_
    refine f_op rfl rfl (s_quo rfl rfl (by decide)) ?_
    refine f_op rfl rfl (s_mul rfl rfl) ?_
    refine f_op rfl rfl (s_add rfl rfl) ?_
    refine f_op rfl rfl (s_add rfl rfl) ?_
    refine f_op rfl rfl (s_leq rfl rfl) ?_
    refine f_nil ?_
    refine f_if (fun h1 => ?_) (fun h1 => ?_)
    · skip
      refine f_know 35 rfl (dec_true h1) ?_
      refine f_condT rfl ?_
      refine f_skip ?_
      refine f_seq ?_
      refine f_block ?_
      refine f_seq ?_
      refine f_region ?_
      refine o_bind ?_; intro p2 hp2
      refine f_op rfl rfl (s_callF rfl ok101 (sim101 hp2)) ?_
      refine f_op rfl rfl (s_mv (v := .int .u64 v5) rfl) ?_
      refine f_op rfl rfl (s_sub rfl rfl) ?_
      refine f_op rfl rfl (s_and rfl rfl) ?_
      refine f_op rfl rfl (s_convInt Try.underlying63 Try.underlying3 rfl) ?_
      refine f_op rfl rfl (s_as (v := .int .i64 (w64 (bitsOf .and .u64 p2.1 (IntKind.wrap .u64 (v5 - 1))))) rfl) ?_
      refine f_nil ?_
      refine f_seq ?_
      refine f_seq ?_
      refine f_region ?_
      refine f_op rfl rfl (s_mv (v := .int .i64 (w64 (bitsOf .and .u64 p2.1 (IntKind.wrap .u64 (v5 - 1))))) rfl) ?_
      refine f_op rfl rfl (s_mv (v := .int .i64 v3) rfl) ?_
      refine f_op rfl rfl (s_geq rfl rfl) ?_
      refine f_nil ?_
      refine f_if (fun h3 => ?_) (fun h3 => ?_)
      · skip
        refine f_know 45 rfl (dec_true h3) ?_
        refine f_condT rfl ?_
        refine f_region ?_
        refine f_op rfl rfl (s_mv (v := .int .i64 (w64 (bitsOf .and .u64 p2.1 (IntKind.wrap .u64 (v5 - 1))))) rfl) ?_
        refine f_op rfl rfl (s_mv (v := .int .i64 v3) rfl) ?_
        refine f_op rfl rfl (s_sub rfl rfl) ?_
        refine f_op rfl rfl (s_as (v := .int .i64 (w64 ((w64 (bitsOf .and .u64 p2.1 (IntKind.wrap .u64 (v5 - 1)))) - v3))) rfl) ?_
        refine f_nil ?_
        refine f_keep [0, 1, 8, 9, 10, 11, 12] ?_
        exact s91_j1 _ (fun v1_ v2_ v3_ v4_ v5_ v6_ H_ => ih v1_ v2_ v3_ v4_ v5_ v6_ H_) v1 v2 v3 v4 v5 v6 (w64 ((w64 (bitsOf .and .u64 p2.1 (IntKind.wrap .u64 (v5 - 1)))) - v3)) p2.2
      · skip
        refine f_know 45 rfl (dec_false h3) ?_
        refine f_condF rfl ?_
        refine f_skip ?_
        refine f_keep [0, 1, 8, 9, 10, 11, 12] ?_
        exact s91_j1 _ (fun v1_ v2_ v3_ v4_ v5_ v6_ H_ => ih v1_ v2_ v3_ v4_ v5_ v6_ H_) v1 v2 v3 v4 v5 v6 (w64 (bitsOf .and .u64 p2.1 (IntKind.wrap .u64 (v5 - 1)))) p2.2
    · skip
      refine f_know 35 rfl (dec_false h1) ?_
      refine f_condF rfl ?_
      refine f_exit rfl ?_
      exact f_end (.nil) rfl

theorem sim91 {a0 : Sl} {a1 : Int} {a2 : Int} {a3 : AV} {H : Hp} {p : Unit × Hp} (h : r91 a0 a1 a2 a3 H = some p) : CallSim Try.prog 91 [.sl a0, .int .i64 a1, .int .i64 a2, a3] H (.tup []) p.2 := by
  refine callSim (fn := Try.f91) (ret := ret91) Try.func91 rfl Try.ntmps91 rfl ?_ h
  unfold r91
  refine f_seq ?_
  refine f_region ?_
  refine f_op rfl rfl (s_mv (v := .int .i64 a2) rfl) ?_
  refine f_op rfl rfl (s_mv (v := .int .i64 a1) rfl) ?_
  refine f_op rfl rfl (s_sub rfl rfl) ?_
  refine f_op rfl rfl (s_as (v := .int .i64 (w64 (a2 - a1))) rfl) ?_
  refine f_nil ?_
  refine f_seq ?_
  refine f_region ?_
  refine f_op rfl rfl (s_mv (v := .int .i64 (w64 (a2 - a1))) rfl) ?_
  refine f_op rfl rfl (s_geq rfl rfl) ?_
  refine f_nil ?_
  refine f_if (fun h1 => ?_) (fun h1 => ?_)
  · skip
    refine f_know 17 rfl (dec_true h1) ?_
    refine f_condT rfl ?_
    refine f_seq ?_
    refine f_region ?_
    refine f_op rfl rfl (s_mv (v := .int .i64 (w64 (a2 - a1))) rfl) ?_
    refine f_op rfl rfl (s_convInt Try.underlying3 Try.underlying125 rfl) ?_
    refine f_op rfl rfl (s_alloc (zs := [.int .u64 0]) ty125 rfl rfl) ?_
    refine o_bind ?_; intro H2 hH2
    refine f_op rfl rfl (s_store (s := 1) ty125 rfl rfl rfl hH2) ?_
    refine f_nil ?_
    refine f_seq ?_
    refine f_region ?_
    refine f_op rfl rfl (s_mv (v := .int .i64 (w64 (a2 - a1))) rfl) ?_
    refine o_bind ?_; intro p3 hp3
    refine f_op rfl rfl (s_callF rfl ok100 (sim100 hp3)) ?_
    refine f_op rfl rfl (s_as (v := .int .u64 p3.1) rfl) ?_
    refine f_nil ?_
    refine f_seq ?_
    refine f_region ?_
    refine f_op rfl rfl (s_mv (v := .int .i64 a1) rfl) ?_
    refine f_op rfl rfl (s_mv (v := .int .i64 (w64 (a2 - a1))) rfl) ?_
    refine f_op rfl rfl (s_quo rfl rfl (by decide)) ?_
    refine f_op rfl rfl (s_mul rfl rfl) ?_
    refine f_op rfl rfl (s_add rfl rfl) ?_
    refine f_op rfl rfl (s_sub rfl rfl) ?_
    refine f_op rfl rfl (s_as (v := .int .i64 (w64 ((w64 (a1 + (w64 ((w64 (Int.tdiv (w64 (a2 - a1)) 4)) * 2)))) - 1))) rfl) ?_
    refine f_nil ?_
    refine f_block ?_
    refine f_loop ?_
    refine f_keep [0, 1, 8, 9, 10, 11] ?_
    exact s91_l0 FUEL a0 a1 (w64 (a2 - a1)) H.n p3.1 (w64 ((w64 (a1 + (w64 ((w64 (Int.tdiv (w64 (a2 - a1)) 4)) * 2)))) - 1)) p3.2
  · skip
    refine f_know 17 rfl (dec_false h1) ?_
    refine f_condF rfl ?_
    refine f_skip ?_
    exact f_end (.nil) rfl

/- 104 slices.order2CmpFunc[[2]int] -/
theorem ok104 : FnOk Try.prog 104 := ⟨⟨Try.f104, Try.func104, by kernel_rfl, rfl⟩⟩
theorem sim104 {app : App} (happ : AppSim Try.prog app) {a0 : Sl} {a1 : Int} {a2 : Int} {a3b : Nat} {a3o : Nat} {a4 : AV} {H : Hp} {p : (Int × Int) × Hp} (h : r104 app a0 a1 a2 a3b a3o a4 H = some p) : CallSim Try.prog 104 [.sl a0, .int .i64 a1, .int .i64 a2, .ptr a3b a3o, a4] H (.tup [.int .i64 p.1.1, .int .i64 p.1.2]) p.2 := by
  refine callSim (fn := Try.f104) (ret := ret104) Try.func104 rfl Try.ntmps104 rfl ?_ h
  unfold r104
  refine f_seq ?_
  refine f_region ?_
  refine f_op rfl rfl (s_as (v := .int .i64 0) rfl) ?_
  refine f_op rfl rfl (s_as (v := .int .i64 0) rfl) ?_
  refine f_nil ?_
  refine f_seq ?_
  refine f_seq ?_
  refine f_ck fun g1 => ?_
  refine f_bind ?_; intro x2 hx2
  refine f_bind ?_; intro x3 hx3
  refine f_ck fun g4 => ?_
  refine f_bind ?_; intro x5 hx5
  refine f_bind ?_; intro x6 hx6
  refine f_bind ?_; intro p7 hp7
  refine f_bind ?_; intro x8 hx8
  refine f_draw (Φ := fun _ => True) (lim := 1000000) [0, 0, 0, 0, 1, 0, 0, 0, 1, 2, 0] (Trc.pure rfl rfl rfl (.inl fun _ => s_mv (v := a4) rfl) (Trc.pure rfl rfl rfl (.inl fun _ => s_mv (v := .sl a0) rfl) (Trc.pure rfl rfl rfl (.inl fun _ => s_mv (v := .int .i64 a2) rfl) (Trc.pure rfl rfl rfl (.inl fun _ => s_idx Try.underlying35 ty49 rfl rfl g1) (Trc.read rfl rfl rfl (s_loads Try.underlying49 rfl ty49 rfl (lds_cons (ldI_eq hx2) (lds_cons (ldI_eq hx3) (lds_nil)))) (Trc.pure rfl rfl rfl (.inl fun _ => s_mv (v := .sl a0) rfl) (Trc.pure rfl rfl rfl (.inl fun _ => s_mv (v := .int .i64 a1) rfl) (Trc.pure rfl rfl rfl (.inl fun _ => s_idx Try.underlying35 ty49 rfl rfl g4) (Trc.read rfl rfl rfl (s_loads Try.underlying49 rfl ty49 rfl (lds_cons (ldI_eq hx5) (lds_cons (ldI_eq hx6) (lds_nil)))) (Trc.eff rfl rfl rfl (fun _ => trivial) (s_callv happ rfl rfl hp7) (Trc.know 21 rfl (asI_eq hx8) (Trc.pure rfl rfl rfl (.inl fun _ => s_lss rfl rfl) (Trc.nil (fun _ => trivial)))))))))))))) rfl (by decide +kernel) mixed ?_
  refine f_if (fun h9 => ?_) (fun h9 => ?_)
  · skip
    refine f_know 22 rfl (dec_true h9) ?_
    refine f_condT rfl ?_
    refine f_seq ?_
    refine f_region ?_
    refine f_op rfl rfl (s_mv (v := .ptr a3b a3o) rfl) ?_
    refine f_op rfl rfl (s_nilCheck rfl) ?_
    refine o_bind ?_; intro x10 hx10
    refine f_op rfl rfl (s_load Try.underlying3 rfl rfl (ldI_eq hx10)) ?_
    refine f_op rfl rfl (s_add rfl rfl) ?_
    refine f_op rfl rfl (s_nilCheck rfl) ?_
    refine o_bind ?_; intro H11 hH11
    refine f_op rfl rfl (s_store (s := 1) ty3 rfl rfl rfl hH11) ?_
    refine f_nil ?_
    refine f_seq ?_
    refine f_region ?_
    refine f_op rfl rfl (s_mv (v := .int .i64 a2) rfl) ?_
    refine f_op rfl rfl (s_mv (v := .int .i64 a1) rfl) ?_
    refine f_op rfl rfl (s_as (v := .int .i64 a2) rfl) ?_
    refine f_op rfl rfl (s_as (v := .int .i64 a1) rfl) ?_
    refine f_nil ?_
    exact f_ret (.tmp rfl (.tmp rfl (.nil))) rfl
  · skip
    refine f_know 22 rfl (dec_false h9) ?_
    refine f_condF rfl ?_
    refine f_skip ?_
    refine f_seq ?_
    refine f_region ?_
    refine f_op rfl rfl (s_mv (v := .int .i64 a1) rfl) ?_
    refine f_op rfl rfl (s_mv (v := .int .i64 a2) rfl) ?_
    refine f_op rfl rfl (s_as (v := .int .i64 a1) rfl) ?_
    refine f_op rfl rfl (s_as (v := .int .i64 a2) rfl) ?_
    refine f_nil ?_
    exact f_ret (.tmp rfl (.tmp rfl (.nil))) rfl

/- 103 slices.medianCmpFunc[[2]int] -/
theorem ok103 : FnOk Try.prog 103 := ⟨⟨Try.f103, Try.func103, by kernel_rfl, rfl⟩⟩
theorem sim103 {app : App} (happ : AppSim Try.prog app) {a0 : Sl} {a1 : Int} {a2 : Int} {a3 : Int} {a4b : Nat} {a4o : Nat} {a5 : AV} {H : Hp} {p : Int × Hp} (h : r103 app a0 a1 a2 a3 a4b a4o a5 H = some p) : CallSim Try.prog 103 [.sl a0, .int .i64 a1, .int .i64 a2, .int .i64 a3, .ptr a4b a4o, a5] H (.int .i64 p.1) p.2 := by
  refine callSim (fn := Try.f103) (ret := ret103) Try.func103 rfl Try.ntmps103 rfl ?_ h
  unfold r103
  refine f_seq ?_
  refine f_region ?_
  refine f_op rfl rfl (s_as (v := .int .i64 0) rfl) ?_
  refine f_nil ?_
  refine f_seq ?_
  refine f_region ?_
  refine f_op rfl rfl (s_mv (v := .sl a0) rfl) ?_
  refine f_op rfl rfl (s_mv (v := .int .i64 a1) rfl) ?_
  refine f_op rfl rfl (s_mv (v := .int .i64 a2) rfl) ?_
  refine f_op rfl rfl (s_mv (v := .ptr a4b a4o) rfl) ?_
  refine f_op rfl rfl (s_mv (v := a5) rfl) ?_
  refine o_bind ?_; intro p1 hp1
  refine f_op rfl rfl (s_callF rfl ok104 (sim104 happ hp1)) ?_
  refine f_op rfl rfl (s_mv (v := .tup [.int .i64 p1.1.1, .int .i64 p1.1.2]) rfl) ?_
  refine f_op rfl rfl (s_extract (r := .int .i64 p1.1.1) rfl rfl) ?_
  refine f_op rfl rfl (s_extract (r := .int .i64 p1.1.2) rfl rfl) ?_
  refine f_op rfl rfl (s_as (v := .int .i64 p1.1.1) rfl) ?_
  refine f_op rfl rfl (s_as (v := .int .i64 p1.1.2) rfl) ?_
  refine f_nil ?_
  refine f_seq ?_
  refine f_region ?_
  refine f_op rfl rfl (s_mv (v := .sl a0) rfl) ?_
  refine f_op rfl rfl (s_mv (v := .int .i64 p1.1.2) rfl) ?_
  refine f_op rfl rfl (s_mv (v := .int .i64 a3) rfl) ?_
  refine f_op rfl rfl (s_mv (v := .ptr a4b a4o) rfl) ?_
  refine f_op rfl rfl (s_mv (v := a5) rfl) ?_
  refine o_bind ?_; intro p2 hp2
  refine f_op rfl rfl (s_callF rfl ok104 (sim104 happ hp2)) ?_
  refine f_op rfl rfl (s_mv (v := .tup [.int .i64 p2.1.1, .int .i64 p2.1.2]) rfl) ?_
  refine f_op rfl rfl (s_extract (r := .int .i64 p2.1.1) rfl rfl) ?_
  refine f_op rfl rfl (s_extract (r := .int .i64 p2.1.2) rfl rfl) ?_
  refine f_op rfl rfl (s_as (v := .int .i64 p2.1.1) rfl) ?_
  refine f_op rfl rfl (s_as (v := .int .i64 p2.1.2) rfl) ?_
  refine f_nil ?_
  refine f_seq ?_
  refine f_region ?_
  refine f_op rfl rfl (s_mv (v := .sl a0) rfl) ?_
  refine f_op rfl rfl (s_mv (v := .int .i64 p1.1.1) rfl) ?_
  refine f_op rfl rfl (s_mv (v := .int .i64 p2.1.1) rfl) ?_
  refine f_op rfl rfl (s_mv (v := .ptr a4b a4o) rfl) ?_
  refine f_op rfl rfl (s_mv (v := a5) rfl) ?_
  refine o_bind ?_; intro p3 hp3
  refine f_op rfl rfl (s_callF rfl ok104 (sim104 happ hp3)) ?_
  refine f_op rfl rfl (s_mv (v := .tup [.int .i64 p3.1.1, .int .i64 p3.1.2]) rfl) ?_
  refine f_op rfl rfl (s_extract (r := .int .i64 p3.1.1) rfl rfl) ?_
  refine f_op rfl rfl (s_extract (r := .int .i64 p3.1.2) rfl rfl) ?_
  refine f_op rfl rfl (s_as (v := .int .i64 p3.1.1) rfl) ?_
  refine f_op rfl rfl (s_as (v := .int .i64 p3.1.2) rfl) ?_
  refine f_nil ?_
  refine f_seq ?_
  refine f_region ?_
  refine f_op rfl rfl (s_mv (v := .int .i64 p3.1.2) rfl) ?_
  refine f_op rfl rfl (s_as (v := .int .i64 p3.1.2) rfl) ?_
  refine f_nil ?_
  exact f_ret (.tmp rfl (.nil)) rfl

/- 102 slices.medianAdjacentCmpFunc[[2]int] -/
theorem ok102 : FnOk Try.prog 102 := ⟨⟨Try.f102, Try.func102, by kernel_rfl, rfl⟩⟩
theorem sim102 {app : App} (happ : AppSim Try.prog app) {a0 : Sl} {a1 : Int} {a2b : Nat} {a2o : Nat} {a3 : AV} {H : Hp} {p : Int × Hp} (h : r102 app a0 a1 a2b a2o a3 H = some p) : CallSim Try.prog 102 [.sl a0, .int .i64 a1, .ptr a2b a2o, a3] H (.int .i64 p.1) p.2 := by
  refine callSim (fn := Try.f102) (ret := ret102) Try.func102 rfl Try.ntmps102 rfl ?_ h
  unfold r102
  refine f_seq ?_
  refine f_region ?_
  refine f_op rfl rfl (s_as (v := .int .i64 0) rfl) ?_
  refine f_nil ?_
  refine f_seq ?_
  refine f_region ?_
  refine f_op rfl rfl (s_mv (v := .sl a0) rfl) ?_
  refine f_op rfl rfl (s_mv (v := .int .i64 a1) rfl) ?_
  refine f_op rfl rfl (s_sub rfl rfl) ?_
  refine f_op rfl rfl (s_mv (v := .int .i64 a1) rfl) ?_
  refine f_op rfl rfl (s_mv (v := .int .i64 a1) rfl) ?_
  refine f_op rfl rfl (s_add rfl rfl) ?_
  refine f_op rfl rfl (s_mv (v := .ptr a2b a2o) rfl) ?_
  refine f_op rfl rfl (s_mv (v := a3) rfl) ?_
  refine o_bind ?_; intro p1 hp1
  refine f_op rfl rfl (s_callF rfl ok103 (sim103 happ hp1)) ?_
  refine f_op rfl rfl (s_as (v := .int .i64 p1.1) rfl) ?_
  refine f_nil ?_
  exact f_ret (.tmp rfl (.nil)) rfl

/- 92 slices.choosePivotCmpFunc[[2]int] -/
theorem ok92 : FnOk Try.prog 92 := ⟨⟨Try.f92, Try.func92, by kernel_rfl, rfl⟩⟩
theorem s92_j1 {app : App} (happ : AppSim Try.prog app) (v1 : Nat) (v2 : Int) (H : Hp) : Fin Try.prog Try.f92 ret92 63 (todoAt (bodyOf Try.f92) [1, 1, 1, 1, 1, 1, 1] []) [(11, .ptr v1 0), (13, .int .i64 v2)] H (r92_j1 app v1 v2 H) := by
  unfold r92_j1
  refine f_seq ?_
  refine f_region ?_
  refine o_bind ?_; intro x1 hx1
  refine f_op rfl rfl (s_load Try.underlying3 rfl rfl (ldI_eq hx1)) ?_
  refine f_nil ?_
  refine f_block ?_
  refine f_seq ?_
  refine f_region ?_
  refine f_op rfl rfl (s_eql rfl rfl) ?_
  refine f_op rfl rfl (s_as (v := .bool (decide (x1 = 0))) rfl) ?_
  refine f_nil ?_
  refine f_if (fun h2 => ?_) (fun h2 => ?_)
  · skip
    refine f_know 57 rfl (dec_true h2) ?_
    refine f_condT rfl ?_
    refine f_seq ?_
    refine f_region ?_
    refine f_op rfl rfl (s_mv (v := .int .i64 v2) rfl) ?_
    refine f_op rfl rfl (s_as (v := .int .i64 v2) rfl) ?_
    refine f_op rfl rfl (s_as (v := .int .i64 1) rfl) ?_
    refine f_nil ?_
    exact f_ret (.tmp rfl (.tmp rfl (.nil))) rfl
  · skip
    refine f_know 57 rfl (dec_false h2) ?_
    refine f_condF rfl ?_
    refine f_seq ?_
    refine f_region ?_
    refine f_op rfl rfl (s_eql rfl rfl) ?_
    refine f_op rfl rfl (s_as (v := .bool (decide (x1 = 12))) rfl) ?_
    refine f_nil ?_
    refine f_if (fun h3 => ?_) (fun h3 => ?_)
    · skip
      refine f_know 60 rfl (dec_true h3) ?_
      refine f_condT rfl ?_
      refine f_seq ?_
      refine f_region ?_
      refine f_op rfl rfl (s_mv (v := .int .i64 v2) rfl) ?_
      refine f_op rfl rfl (s_as (v := .int .i64 v2) rfl) ?_
      refine f_op rfl rfl (s_as (v := .int .i64 2) rfl) ?_
      refine f_nil ?_
      exact f_ret (.tmp rfl (.tmp rfl (.nil))) rfl
    · skip
      refine f_know 60 rfl (dec_false h3) ?_
      refine f_condF rfl ?_
      refine f_seq ?_
      refine f_region ?_
      refine f_op rfl rfl (s_mv (v := .int .i64 v2) rfl) ?_
      refine f_op rfl rfl (s_as (v := .int .i64 v2) rfl) ?_
      refine f_op rfl rfl (s_as (v := .int .i64 0) rfl) ?_
      refine f_nil ?_
      exact f_ret (.tmp rfl (.tmp rfl (.nil))) rfl

theorem s92_j0 {app : App} (happ : AppSim Try.prog app) (v1 : Sl) (v2 : AV) (v3 : Nat) (v4 : Int) (v5 : Int) (v6 : Int) (H : Hp) : Fin Try.prog Try.f92 ret92 63 (todoAt (bodyOf Try.f92) [1, 1, 1, 1, 1, 1, 0, 1, 0, 1] []) [(0, .sl v1), (3, v2), (11, .ptr v3 0), (12, .int .i64 v4), (13, .int .i64 v5), (14, .int .i64 v6)] H (r92_j0 app v1 v2 v3 v4 v5 v6 H) := by
  unfold r92_j0
  refine f_region ?_
  refine f_op rfl rfl (s_mv (v := .sl v1) rfl) ?_
  refine f_op rfl rfl (s_mv (v := .int .i64 v4) rfl) ?_
  refine f_op rfl rfl (s_mv (v := .int .i64 v5) rfl) ?_
  refine f_op rfl rfl (s_mv (v := .int .i64 v6) rfl) ?_
  refine f_op rfl rfl (s_mv (v := v2) rfl) ?_
  refine o_bind ?_; intro p1 hp1
  refine f_op rfl rfl (s_callF rfl ok103 (sim103 happ hp1)) ?_
  refine f_op rfl rfl (s_as (v := .int .i64 p1.1) rfl) ?_
  refine f_nil ?_
  refine f_keep [11, 13] ?_
  exact s92_j1 happ v3 p1.1 p1.2

theorem sim92 {app : App} (happ : AppSim Try.prog app) {a0 : Sl} {a1 : Int} {a2 : Int} {a3 : AV} {H : Hp} {p : (Int × Int) × Hp} (h : r92 app a0 a1 a2 a3 H = some p) : CallSim Try.prog 92 [.sl a0, .int .i64 a1, .int .i64 a2, a3] H (.tup [.int .i64 p.1.1, .int .i64 p.1.2]) p.2 := by
  refine callSim (fn := Try.f92) (ret := ret92) Try.func92 rfl Try.ntmps92 rfl ?_ h
  unfold r92
  refine f_seq ?_
  refine f_region ?_
  refine f_op rfl rfl (s_as (v := .int .i64 0) rfl) ?_
  refine f_op rfl rfl (s_as (v := .int .i64 0) rfl) ?_
  refine f_nil ?_
  refine f_seq ?_
  refine f_region ?_
  refine f_op rfl rfl (s_mv (v := .int .i64 a2) rfl) ?_
  refine f_op rfl rfl (s_mv (v := .int .i64 a1) rfl) ?_
  refine f_op rfl rfl (s_sub rfl rfl) ?_
  refine f_op rfl rfl (s_as (v := .int .i64 (w64 (a2 - a1))) rfl) ?_
  refine f_nil ?_
  refine f_seq ?_
  refine f_region ?_
  refine f_op rfl rfl (s_alloc (zs := [.int .i64 0]) ty3 rfl rfl) ?_
  refine o_hp ?_; intro H1 hH1
  refine f_nil ?_
  refine f_seq ?_
  refine f_region ?_
  refine f_op rfl rfl (s_mv (v := .int .i64 a1) rfl) ?_
  refine f_op rfl rfl (s_mv (v := .int .i64 (w64 (a2 - a1))) rfl) ?_
  refine f_op rfl rfl (s_quo rfl rfl (by decide)) ?_
  refine f_op rfl rfl (s_mul rfl rfl) ?_
  refine f_op rfl rfl (s_add rfl rfl) ?_
  refine f_op rfl rfl (s_as (v := .int .i64 (w64 (a1 + (w64 ((w64 (Int.tdiv (w64 (a2 - a1)) 4)) * 1))))) rfl) ?_
  refine f_nil ?_
  refine f_seq ?_
  refine f_region ?_
  refine f_op rfl rfl (s_mv (v := .int .i64 a1) rfl) ?_
  refine f_op rfl rfl (s_mv (v := .int .i64 (w64 (a2 - a1))) rfl) ?_
  refine f_op rfl rfl (s_quo rfl rfl (by decide)) ?_
  refine f_op rfl rfl (s_mul rfl rfl) ?_
  refine f_op rfl rfl (s_add rfl rfl) ?_
  refine f_op rfl rfl (s_as (v := .int .i64 (w64 (a1 + (w64 ((w64 (Int.tdiv (w64 (a2 - a1)) 4)) * 2))))) rfl) ?_
  refine f_nil ?_
  refine f_seq ?_
  refine f_region ?_
  refine f_op rfl rfl (s_mv (v := .int .i64 a1) rfl) ?_
  refine f_op rfl rfl (s_mv (v := .int .i64 (w64 (a2 - a1))) rfl) ?_
  refine f_op rfl rfl (s_quo rfl rfl (by decide)) ?_
  refine f_op rfl rfl (s_mul rfl rfl) ?_
  refine f_op rfl rfl (s_add rfl rfl) ?_
  refine f_op rfl rfl (s_as (v := .int .i64 (w64 (a1 + (w64 ((w64 (Int.tdiv (w64 (a2 - a1)) 4)) * 3))))) rfl) ?_
  refine f_nil ?_
  refine f_seq ?_
  refine f_seq ?_
  refine f_region ?_
  refine f_op rfl rfl (s_mv (v := .int .i64 (w64 (a2 - a1))) rfl) ?_
  refine f_op rfl rfl (s_geq rfl rfl) ?_
  refine f_nil ?_
  refine f_if (fun h2 => ?_) (fun h2 => ?_)
  · skip
    refine f_know 34 rfl (dec_true h2) ?_
    refine f_condT rfl ?_
    refine f_seq ?_
    refine f_seq ?_
    refine f_region ?_
    refine f_op rfl rfl (s_mv (v := .int .i64 (w64 (a2 - a1))) rfl) ?_
    refine f_op rfl rfl (s_geq rfl rfl) ?_
    refine f_nil ?_
    refine f_if (fun h3 => ?_) (fun h3 => ?_)
    · skip
      refine f_know 36 rfl (dec_true h3) ?_
      refine f_condT rfl ?_
      refine f_seq ?_
      refine f_region ?_
      refine f_op rfl rfl (s_mv (v := .sl a0) rfl) ?_
      refine f_op rfl rfl (s_mv (v := .int .i64 (w64 (a1 + (w64 ((w64 (Int.tdiv (w64 (a2 - a1)) 4)) * 1))))) rfl) ?_
      refine f_op rfl rfl (s_mv (v := a3) rfl) ?_
      refine o_bind ?_; intro p4 hp4
      refine f_op rfl rfl (s_callF rfl ok102 (sim102 happ hp4)) ?_
      refine f_op rfl rfl (s_as (v := .int .i64 p4.1) rfl) ?_
      refine f_nil ?_
      refine f_seq ?_
      refine f_region ?_
      refine f_op rfl rfl (s_mv (v := .sl a0) rfl) ?_
      refine f_op rfl rfl (s_mv (v := .int .i64 (w64 (a1 + (w64 ((w64 (Int.tdiv (w64 (a2 - a1)) 4)) * 2))))) rfl) ?_
      refine f_op rfl rfl (s_mv (v := a3) rfl) ?_
      refine o_bind ?_; intro p5 hp5
      refine f_op rfl rfl (s_callF rfl ok102 (sim102 happ hp5)) ?_
      refine f_op rfl rfl (s_as (v := .int .i64 p5.1) rfl) ?_
      refine f_nil ?_
      refine f_region ?_
      refine f_op rfl rfl (s_mv (v := .sl a0) rfl) ?_
      refine f_op rfl rfl (s_mv (v := .int .i64 (w64 (a1 + (w64 ((w64 (Int.tdiv (w64 (a2 - a1)) 4)) * 3))))) rfl) ?_
      refine f_op rfl rfl (s_mv (v := a3) rfl) ?_
      refine o_bind ?_; intro p6 hp6
      refine f_op rfl rfl (s_callF rfl ok102 (sim102 happ hp6)) ?_
      refine f_op rfl rfl (s_as (v := .int .i64 p6.1) rfl) ?_
      refine f_nil ?_
      refine f_keep [0, 3, 11, 12, 13, 14] ?_
      exact s92_j0 happ a0 a3 H.n p4.1 p5.1 p6.1 p6.2
    · skip
      refine f_know 36 rfl (dec_false h3) ?_
      refine f_condF rfl ?_
      refine f_skip ?_
      refine f_keep [0, 3, 11, 12, 13, 14] ?_
      exact s92_j0 happ a0 a3 H.n (w64 (a1 + (w64 ((w64 (Int.tdiv (w64 (a2 - a1)) 4)) * 1)))) (w64 (a1 + (w64 ((w64 (Int.tdiv (w64 (a2 - a1)) 4)) * 2)))) (w64 (a1 + (w64 ((w64 (Int.tdiv (w64 (a2 - a1)) 4)) * 3)))) H1
  · skip
    refine f_know 34 rfl (dec_false h2) ?_
    refine f_condF rfl ?_
    refine f_skip ?_
    refine f_keep [11, 13] ?_
    exact s92_j1 happ H.n (w64 (a1 + (w64 ((w64 (Int.tdiv (w64 (a2 - a1)) 4)) * 2)))) H1

/- 93 slices.reverseRangeCmpFunc[[2]int] -/
theorem ok93 : FnOk Try.prog 93 := ⟨⟨Try.f93, Try.func93, by kernel_rfl, rfl⟩⟩
theorem s93_l0 : ∀ (k_ : Nat) (v1 : Sl) (v2 : Int) (v3 : Int) (H : Hp), Fin Try.prog Try.f93 ret93 34 (todoAt (bodyOf Try.f93) [1, 1, 0, 0] []) [(0, .sl v1), (8, .int .i64 v2), (9, .int .i64 v3)] H (r93_l0 k_ v1 v2 v3 H) := by
  intro k_
  induction k_ with
  | zero => intro _ _ _ _; exact f_none
  | succ k_ ih =>
    intro v1 v2 v3 H
    rw [r93_l0]
    refine f_seq ?_
    refine f_seq ?_
    refine f_region ?_
    refine f_op rfl rfl (s_mv (v := .int .i64 v2) rfl) ?_
    refine f_op rfl rfl (s_mv (v := .int .i64 v3) rfl) ?_
    refine f_op rfl rfl (s_lss rfl rfl) ?_
    refine f_nil ?_
    refine f_if (fun h1 => ?_) (fun h1 => ?_)
    · skip
      refine f_know 15 rfl (dec_true h1) ?_
      refine f_condT rfl ?_
      refine f_skip ?_
      refine f_block ?_
      refine f_seq ?_
      refine f_ck fun g2 => ?_
      refine f_bind ?_; intro x3 hx3
      refine f_bind ?_; intro x4 hx4
      refine f_ck fun g5 => ?_
      refine f_bind ?_; intro x6 hx6
      refine f_bind ?_; intro x7 hx7
      refine f_ck fun g8 => ?_
      refine f_bind ?_; intro H9 hH9
      refine f_ck fun g10 => ?_
      refine f_bind ?_; intro H11 hH11
      refine f_draw (Φ := fun _ => True) (lim := 1000000) [0, 0, 0, 0, 0, 0, 0, 1, 0, 0, 0, 1, 0, 2, 0, 2] (Trc.pure rfl rfl rfl (.inl fun _ => s_mv (v := .sl v1) rfl) (Trc.pure rfl rfl rfl (.inl fun _ => s_mv (v := .int .i64 v2) rfl) (Trc.pure rfl rfl rfl (.inl fun _ => s_mv (v := .sl v1) rfl) (Trc.pure rfl rfl rfl (.inl fun _ => s_mv (v := .int .i64 v3) rfl) (Trc.pure rfl rfl rfl (.inl fun _ => s_mv (v := .sl v1) rfl) (Trc.pure rfl rfl rfl (.inl fun _ => s_mv (v := .int .i64 v3) rfl) (Trc.pure rfl rfl rfl (.inl fun _ => s_idx Try.underlying35 ty49 rfl rfl g2) (Trc.read rfl rfl rfl (s_loads Try.underlying49 rfl ty49 rfl (lds_cons (ldI_eq hx3) (lds_cons (ldI_eq hx4) (lds_nil)))) (Trc.pure rfl rfl rfl (.inl fun _ => s_mv (v := .sl v1) rfl) (Trc.pure rfl rfl rfl (.inl fun _ => s_mv (v := .int .i64 v2) rfl) (Trc.pure rfl rfl rfl (.inl fun _ => s_idx Try.underlying35 ty49 rfl rfl g5) (Trc.read rfl rfl rfl (s_loads Try.underlying49 rfl ty49 rfl (lds_cons (ldI_eq hx6) (lds_cons (ldI_eq hx7) (lds_nil)))) (Trc.pure rfl rfl rfl (.inl fun _ => s_idx Try.underlying35 ty49 rfl rfl g8) (Trc.eff rfl rfl rfl (fun _ => trivial) (s_stores ty49 rfl rfl rfl rfl hH9 (Nat.le_of_eq (sts_mono hH9).symm)) (Trc.pure rfl rfl rfl (.inl fun _ => s_idx Try.underlying35 ty49 rfl rfl g10) (Trc.eff rfl rfl rfl (fun _ => trivial) (s_stores ty49 rfl rfl rfl rfl hH11 (Nat.le_of_eq (sts_mono hH11).symm)) (Trc.nil (fun _ => trivial)))))))))))))))))) rfl (by decide +kernel) mixed ?_
      refine f_seq ?_
      refine f_region ?_
      refine f_op rfl rfl (s_mv (v := .int .i64 v2) rfl) ?_
      refine f_op rfl rfl (s_add rfl rfl) ?_
      refine f_op rfl rfl (s_as (v := .int .i64 (w64 (v2 + 1))) rfl) ?_
      refine f_nil ?_
      refine f_region ?_
      refine f_op rfl rfl (s_mv (v := .int .i64 v3) rfl) ?_
      refine f_op rfl rfl (s_sub rfl rfl) ?_
      refine f_op rfl rfl (s_as (v := .int .i64 (w64 (v3 - 1))) rfl) ?_
      refine f_nil ?_
      refine f_inBlock ?_
      refine f_inLoop ?_
      refine f_keep [0, 8, 9] ?_
      exact ih v1 (w64 (v2 + 1)) (w64 (v3 - 1)) H11
    · skip
      refine f_know 15 rfl (dec_false h1) ?_
      refine f_condF rfl ?_
      refine f_exit rfl ?_
      exact f_end (.nil) rfl

theorem sim93 {a0 : Sl} {a1 : Int} {a2 : Int} {a3 : AV} {H : Hp} {p : Unit × Hp} (h : r93 a0 a1 a2 a3 H = some p) : CallSim Try.prog 93 [.sl a0, .int .i64 a1, .int .i64 a2, a3] H (.tup []) p.2 := by
  refine callSim (fn := Try.f93) (ret := ret93) Try.func93 rfl Try.ntmps93 rfl ?_ h
  unfold r93
  refine f_seq ?_
  refine f_region ?_
  refine f_op rfl rfl (s_mv (v := .int .i64 a1) rfl) ?_
  refine f_op rfl rfl (s_as (v := .int .i64 a1) rfl) ?_
  refine f_nil ?_
  refine f_seq ?_
  refine f_region ?_
  refine f_op rfl rfl (s_mv (v := .int .i64 a2) rfl) ?_
  refine f_op rfl rfl (s_sub rfl rfl) ?_
  refine f_op rfl rfl (s_as (v := .int .i64 (w64 (a2 - 1))) rfl) ?_
  refine f_nil ?_
  refine f_block ?_
  refine f_loop ?_
  refine f_keep [0, 8, 9] ?_
  exact s93_l0 FUEL a0 a1 (w64 (a2 - 1)) H

end Go.Lt.P5
