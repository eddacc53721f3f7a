/- PRINTED BY A PROGRAM OF OURS: what each function that 'DealsAbove' reaches computes on the abstract heap, and that the translated code does just that. Nothing is asked of the input. -/
import Derived.Test.YtficeemoekikdaaG11P8
set_option linter.unusedVariables false
set_option linter.unusedSimpArgs false
set_option maxRecDepth 100000
set_option maxHeartbeats 4000000
namespace Go.Lt.P5
open Go Go.Lt Go.Proofs
/- 84 slices.Values[congou/deals.offers,[2]int]$1 -/
theorem ok84 : FnOk Try.prog 84 := ⟨⟨Try.f84, Try.func84, by kernel_rfl, rfl⟩⟩
theorem s84_l0 {app : App} (happ : AppSim Try.prog app) : ∀ (k_ : Nat) (v1 : AV) (v2 : Sl) (v3 : Int) (v4 : Int) (H : Hp), Fin Try.prog Try.f84 ret84 16 (todoAt (bodyOf Try.f84) [1, 0, 0] []) [(0, v1), (5, .sl v2), (6, .int .i64 v3), (7, .int .i64 v4)] H (r84_l0 app k_ v1 v2 v3 v4 H) := by
  intro k_
  induction k_ with
  | zero => intro _ _ _ _ _; exact f_none
  | succ k_ ih =>
    intro v1 v2 v3 v4 H
    rw [r84_l0]
    refine f_seq ?_
    refine f_region ?_
    refine f_op rfl rfl (s_lss rfl rfl) ?_
    refine f_nil ?_
    refine f_seq ?_
    refine f_if (fun h1 => ?_) (fun h1 => ?_)
    · skip
      refine f_know 8 rfl (dec_true h1) ?_
      refine f_condT rfl ?_
      refine f_skip ?_
      refine f_seq ?_
      refine f_block ?_
      refine f_seq ?_
      refine f_region ?_
      refine o_ck fun g2 => ?_
      refine f_op rfl rfl (s_idx Try.underlying72 ty49 rfl rfl g2) ?_
      refine o_bind ?_; intro x3 hx3
      refine o_bind ?_; intro x4 hx4
      refine f_op rfl rfl (s_loads Try.underlying49 rfl ty49 rfl (lds_cons (ldI_eq hx3) (lds_cons (ldI_eq hx4) (lds_nil)))) ?_
      refine f_op rfl rfl (s_alloc (zs := [.int .i64 0, .int .i64 0]) ty49 rfl rfl) ?_
      refine o_bind ?_; intro H5 hH5
      refine f_op rfl rfl (s_stores ty49 rfl rfl rfl rfl hH5 (Nat.le_of_eq (sts_mono hH5).symm)) ?_
      refine f_nil ?_
      refine f_seq ?_
      refine f_region ?_
      refine f_op rfl rfl (s_mv (v := v1) rfl) ?_
      refine o_bind ?_; intro x6 hx6
      refine o_bind ?_; intro x7 hx7
      refine f_op rfl rfl (s_loads Try.underlying49 rfl ty49 rfl (lds_cons (ldI_eq hx6) (lds_cons (ldI_eq hx7) (lds_nil)))) ?_
      refine o_bind ?_; intro p8 hp8
      refine o_bind ?_; intro x9 hx9
      refine f_op rfl rfl (s_callv happ rfl rfl hp8) ?_
      refine o_know 13 rfl (asB_eq hx9) ?_
      refine f_op rfl rfl (s_not rfl) ?_
      refine f_nil ?_
      refine f_if (fun h10 => ?_) (fun h10 => ?_)
      · skip
        refine f_know 14 rfl (bool_notT h10) ?_
        refine f_condF rfl ?_
        refine f_skip ?_
        refine f_inBlock ?_
        refine f_region ?_
        refine f_op rfl rfl (s_add rfl rfl) ?_
        refine f_op rfl rfl (s_mv (v := .int .i64 (w64 (v4 + 1))) rfl) ?_
        refine f_nil ?_
        refine f_inLoop ?_
        refine f_keep [0, 5, 6, 7] ?_
        exact ih v1 v2 v3 (w64 (v4 + 1)) p8.2
      · skip
        refine f_know 14 rfl (bool_notF h10) ?_
        refine f_condT rfl ?_
        exact f_ret (.nil) rfl
    · skip
      refine f_know 8 rfl (dec_false h1) ?_
      refine f_condF rfl ?_
      refine f_exit rfl ?_
      exact f_end (.nil) rfl

theorem sim84 {app : App} (happ : AppSim Try.prog app) {a0 : AV} {c0 : Nat} {H : Hp} {p : Unit × Hp} (h : r84 app a0 c0 H = some p) : CallSim Try.prog 84 [a0, .ptr c0 0] H (.tup []) p.2 := by
  refine callSim (fn := Try.f84) (ret := ret84) Try.func84 rfl Try.ntmps84 rfl ?_ h
  unfold r84
  refine f_seq ?_
  refine f_region ?_
  refine o_bind ?_; intro x1 hx1
  refine f_op rfl rfl (s_load Try.underlying72 rfl rfl (ldSl_eq hx1)) ?_
  refine f_op rfl rfl (s_lenS rfl Try.underlying72 rfl) ?_
  refine f_op rfl rfl (s_mv (v := .int .i64 0) rfl) ?_
  refine f_nil ?_
  refine f_block ?_
  refine f_loop ?_
  refine f_keep [0, 5, 6, 7] ?_
  exact s84_l0 happ FUEL a0 x1 (x1.len : Int) 0 H

end Go.Lt.P5
