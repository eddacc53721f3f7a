/- PRINTED BY A PROGRAM OF OURS: what each function that 'ChestPages' reaches computes on the abstract heap, and that the translated code does just that. Nothing is asked of the input. -/
import Derived.Test.YtnigfapfghgmnaaGreatDoorG4P3
set_option linter.unusedVariables false
set_option linter.unusedSimpArgs false
set_option maxRecDepth 100000
set_option maxHeartbeats 4000000
namespace Go.Lt.P10
open Go Go.Lt Go.Proofs
/- 4 congou/congoulaw10.ChestPages -/
theorem ok4 : FnOk Tryz.prog 4 := ⟨⟨Tryz.f4, Tryz.func4, by kernel_rfl, rfl⟩⟩
theorem s4_j2 {app : App} (happ : AppSim Tryz.prog app) (kt0 : Nat → Nat → Int → Sl → Int → Int → Hp → Option (Bool × Hp)) (hkt0 : ∀ (v1 : Nat) (v2 : Nat) (v3 : Int) (v4 : Sl) (v5 : Int) (v6 : Int) (H : Hp), Fin Tryz.prog Tryz.f4 ret4 200 (todoAt (bodyOf Tryz.f4) [1, 1, 1, 0, 1, 0, 0] []) [(3, .ptr v1 v2), (4, .int .i64 v3), (20, .sl v4), (21, .int .i64 v5), (22, .int .i64 v6)] H (kt0 v1 v2 v3 v4 v5 v6 H)) (v1 : Nat) (v2 : Nat) (v3 : Int) (v4 : Sl) (v5 : Int) (v6 : Int) (v7 : Bool) (H : Hp) : Fin Tryz.prog Tryz.f4 ret4 200 (todoAt (bodyOf Tryz.f4) [1, 1, 1, 0, 1, 0, 0, 1, 1, 0, 0, 1, 1, 1, 1, 1, 1, 1] []) [(3, .ptr v1 v2), (4, .int .i64 v3), (20, .sl v4), (21, .int .i64 v5), (22, .int .i64 v6), (134, .bool v7)] H (r4_j2 app kt0 v1 v2 v3 v4 v5 v6 v7 H) := by
  unfold r4_j2
  refine f_if (fun h1 => ?_) (fun h1 => ?_)
  · skip
    refine f_know 134 rfl (bool_T h1) ?_
    refine f_condT rfl ?_
    refine f_seq ?_
    refine f_region ?_
    refine f_op rfl rfl (s_as (v := .bool false) rfl) ?_
    refine f_nil ?_
    exact f_ret (.tmp rfl (.nil)) rfl
  · skip
    refine f_know 134 rfl (bool_F h1) ?_
    refine f_condF rfl ?_
    refine f_skip ?_
    refine f_inBlock ?_
    refine f_region ?_
    refine f_op rfl rfl (s_add rfl rfl) ?_
    refine f_op rfl rfl (s_mv (v := .int .i64 (w64 (v6 + 1))) rfl) ?_
    refine f_nil ?_
    refine f_inLoop ?_
    refine f_keep [3, 4, 20, 21, 22] ?_
    exact hkt0 v1 v2 v3 v4 v5 (w64 (v6 + 1)) H

theorem s4_j7 {app : App} (happ : AppSim Tryz.prog app) (kt0 : Nat → Nat → Int → Sl → Int → Int → Hp → Option (Bool × Hp)) (hkt0 : ∀ (v1 : Nat) (v2 : Nat) (v3 : Int) (v4 : Sl) (v5 : Int) (v6 : Int) (H : Hp), Fin Tryz.prog Tryz.f4 ret4 200 (todoAt (bodyOf Tryz.f4) [1, 1, 1, 0, 1, 0, 0] []) [(3, .ptr v1 v2), (4, .int .i64 v3), (20, .sl v4), (21, .int .i64 v5), (22, .int .i64 v6)] H (kt0 v1 v2 v3 v4 v5 v6 H)) (v1 : Nat) (v2 : Nat) (v3 : Int) (v4 : Int) (v5 : Sl) (v6 : Int) (v7 : Sl) (v8 : Int) (v9 : Int) (H : Hp) : Fin Tryz.prog Tryz.f4 ret4 200 (todoAt (bodyOf Tryz.f4) [1, 1, 1, 0, 1, 0, 0, 1, 1, 0, 0, 1, 1, 1, 1, 1, 1] []) [(3, .ptr v1 v2), (4, .int .i64 v3), (7, .int .i64 v4), (9, .sl v5), (10, .int .i64 v6), (20, .sl v7), (21, .int .i64 v8), (22, .int .i64 v9)] H (r4_j7 app kt0 v1 v2 v3 v4 v5 v6 v7 v8 v9 H) := by
  unfold r4_j7
  refine f_seq ?_
  refine f_region ?_
  refine f_op rfl rfl (s_mv (v := .int .i64 v6) rfl) ?_
  refine f_op rfl rfl (s_neq rfl rfl) ?_
  refine f_op rfl rfl (s_mv (v := .bool (decide (v6 ≠ 0))) rfl) ?_
  refine o_if (fun h1 => ?_) (fun h1 => ?_)
  · skip
    refine o_know 121 rfl (dec_true h1) ?_
    refine f_op rfl rfl (s_mv (v := .ptr v1 v2) rfl) ?_
    refine o_bind ?_; intro p2 hp2
    refine f_op rfl rfl (s_callF rfl ok15 (sim15 hp2)) ?_
    refine f_op rfl rfl (s_mv (v := .int .i64 v4) rfl) ?_
    refine f_op rfl rfl (s_neq rfl rfl) ?_
    refine f_op rfl rfl (s_mv (v := .bool (decide (p2.1 ≠ v4))) rfl) ?_
    refine o_if (fun h3 => ?_) (fun h3 => ?_)
    · skip
      refine o_know 126 rfl (dec_true h3) ?_
      refine f_no rfl rfl ?_
      refine f_no rfl rfl ?_
      refine f_no rfl rfl ?_
      refine f_no rfl rfl ?_
      refine f_no rfl rfl ?_
      refine f_no rfl rfl ?_
      refine f_op rfl rfl (s_pickT (v := .bool true) rfl rfl) ?_
      refine f_op rfl rfl (s_pickT (v := .bool true) rfl rfl) ?_
      refine f_nil ?_
      refine f_keep [3, 4, 20, 21, 22, 134] ?_
      exact s4_j2 happ _ hkt0 v1 v2 v3 v7 v8 v9 true p2.2
    · skip
      refine o_know 126 rfl (dec_false h3) ?_
      refine f_op rfl rfl (s_mv (v := .ptr v1 v2) rfl) ?_
      refine o_bind ?_; intro p4 hp4
      refine f_op rfl rfl (s_callF rfl ok17 (sim17 hp4)) ?_
      refine f_op rfl rfl (s_lenS rfl Tryz.underlying40 rfl) ?_
      refine f_op rfl rfl (s_mv (v := .sl v5) rfl) ?_
      refine f_op rfl rfl (s_lenS rfl Tryz.underlying40 rfl) ?_
      refine f_op rfl rfl (s_neq rfl rfl) ?_
      refine f_op rfl rfl (s_pickF (v := .bool (decide ((p4.1.len : Int) ≠ (v5.len : Int)))) rfl rfl) ?_
      refine f_op rfl rfl (s_pickT (v := .bool (decide ((p4.1.len : Int) ≠ (v5.len : Int)))) rfl rfl) ?_
      refine f_nil ?_
      refine f_keep [3, 4, 20, 21, 22, 134] ?_
      exact s4_j2 happ _ hkt0 v1 v2 v3 v7 v8 v9 (decide ((p4.1.len : Int) ≠ (v5.len : Int))) p4.2
  · skip
    refine o_know 121 rfl (dec_false h1) ?_
    refine f_no rfl rfl ?_
    refine f_no rfl rfl ?_
    refine f_no rfl rfl ?_
    refine f_no rfl rfl ?_
    refine f_no rfl rfl ?_
    refine f_no rfl rfl ?_
    refine f_no rfl rfl ?_
    refine f_no rfl rfl ?_
    refine f_no rfl rfl ?_
    refine f_no rfl rfl ?_
    refine f_no rfl rfl ?_
    refine f_no rfl rfl ?_
    refine f_op rfl rfl (s_pickF (v := .bool false) rfl rfl) ?_
    refine f_nil ?_
    refine f_keep [3, 4, 20, 21, 22, 134] ?_
    exact s4_j2 happ _ hkt0 v1 v2 v3 v7 v8 v9 false H

theorem s4_j1 {app : App} (happ : AppSim Tryz.prog app) (kt0 : Nat → Nat → Int → Sl → Int → Int → Hp → Option (Bool × Hp)) (hkt0 : ∀ (v1 : Nat) (v2 : Nat) (v3 : Int) (v4 : Sl) (v5 : Int) (v6 : Int) (H : Hp), Fin Tryz.prog Tryz.f4 ret4 200 (todoAt (bodyOf Tryz.f4) [1, 1, 1, 0, 1, 0, 0] []) [(3, .ptr v1 v2), (4, .int .i64 v3), (20, .sl v4), (21, .int .i64 v5), (22, .int .i64 v6)] H (kt0 v1 v2 v3 v4 v5 v6 H)) (v1 : Nat) (v2 : Nat) (v3 : Int) (v4 : Int) (v5 : Sl) (v6 : Int) (v7 : Sl) (v8 : Int) (v9 : Int) (v10 : Bool) (H : Hp) : Fin Tryz.prog Tryz.f4 ret4 200 (todoAt (bodyOf Tryz.f4) [1, 1, 1, 0, 1, 0, 0, 1, 1, 0, 0, 1, 1, 1, 1, 1, 0, 1, 0, 0, 1] []) [(3, .ptr v1 v2), (4, .int .i64 v3), (7, .int .i64 v4), (9, .sl v5), (10, .int .i64 v6), (20, .sl v7), (21, .int .i64 v8), (22, .int .i64 v9), (113, .bool v10)] H (r4_j1 app kt0 v1 v2 v3 v4 v5 v6 v7 v8 v9 v10 H) := by
  unfold r4_j1
  refine f_if (fun h1 => ?_) (fun h1 => ?_)
  · skip
    refine f_know 113 rfl (bool_T h1) ?_
    refine f_condT rfl ?_
    refine f_seq ?_
    refine f_region ?_
    refine f_op rfl rfl (s_as (v := .bool false) rfl) ?_
    refine f_nil ?_
    exact f_ret (.tmp rfl (.nil)) rfl
  · skip
    refine f_know 113 rfl (bool_F h1) ?_
    refine f_condF rfl ?_
    refine f_skip ?_
    refine f_region ?_
    refine f_op rfl rfl (s_mv (v := .int .i64 v3) rfl) ?_
    refine f_op rfl rfl (s_mv (v := .ptr v1 v2) rfl) ?_
    refine o_bind ?_; intro p2 hp2
    refine f_op rfl rfl (s_callF rfl ok15 (sim15 hp2)) ?_
    refine f_op rfl rfl (s_add rfl rfl) ?_
    refine f_op rfl rfl (s_max2 rfl rfl) ?_
    refine f_op rfl rfl (s_as (v := .int .i64 (if v3 < (w64 (p2.1 + 1)) then (w64 (p2.1 + 1)) else v3)) rfl) ?_
    refine f_nil ?_
    refine f_keep [3, 4, 7, 9, 10, 20, 21, 22] ?_
    exact s4_j7 happ _ hkt0 v1 v2 (if v3 < (w64 (p2.1 + 1)) then (w64 (p2.1 + 1)) else v3) v4 v5 v6 v7 v8 v9 p2.2

theorem s4_j3 {app : App} (happ : AppSim Tryz.prog app) (kt0 : Nat → Nat → Int → Sl → Int → Int → Hp → Option (Bool × Hp)) (hkt0 : ∀ (v1 : Nat) (v2 : Nat) (v3 : Int) (v4 : Sl) (v5 : Int) (v6 : Int) (H : Hp), Fin Tryz.prog Tryz.f4 ret4 200 (todoAt (bodyOf Tryz.f4) [1, 1, 1, 0, 1, 0, 0] []) [(3, .ptr v1 v2), (4, .int .i64 v3), (20, .sl v4), (21, .int .i64 v5), (22, .int .i64 v6)] H (kt0 v1 v2 v3 v4 v5 v6 H)) (v1 : Nat) (v2 : Nat) (v3 : Int) (v4 : Nat) (v5 : Int) (v6 : Sl) (v7 : Sl) (v8 : Int) (v9 : Sl) (v10 : Int) (v11 : Int) (v12 : Bool) (H : Hp) : Fin Tryz.prog Tryz.f4 ret4 200 (todoAt (bodyOf Tryz.f4) [1, 1, 1, 0, 1, 0, 0, 1, 1, 0, 0, 1, 1, 1, 1, 1, 0, 1] []) [(3, .ptr v1 v2), (4, .int .i64 v3), (6, .ptr v4 0), (7, .int .i64 v5), (8, .sl v6), (9, .sl v7), (10, .int .i64 v8), (20, .sl v9), (21, .int .i64 v10), (22, .int .i64 v11), (79, .bool v12)] H (r4_j3 app kt0 v1 v2 v3 v4 v5 v6 v7 v8 v9 v10 v11 v12 H) := by
  unfold r4_j3
  refine f_if (fun h1 => ?_) (fun h1 => ?_)
  · skip
    refine f_know 79 rfl (bool_T h1) ?_
    refine f_condT rfl ?_
    refine f_seq ?_
    refine f_seq ?_
    refine f_bind ?_; intro p2 hp2
    refine f_if (fun h3 => ?_) (fun h3 => ?_)
    · skip
      refine f_draw (Φ := fun _ => True) (lim := 1000000) [0, 2, 0, 0, 0, 0, 0, 0, 0, 0, 0, 0, 0, 0, 0, 0, 0, 0, 0, 0, 0, 0, 0, 0, 0, 0, 0, 0, 0, 0, 0, 0, 0, 0] (Trc.pure rfl rfl rfl (.inl fun _ => s_mv (v := .ptr v1 v2) rfl) (Trc.eff rfl rfl rfl (fun _ => trivial) (s_callF rfl ok15 (sim15 hp2)) (Trc.pure rfl rfl rfl (.inl fun _ => s_mv (v := .int .i64 v5) rfl) (Trc.pure rfl rfl rfl (.inl fun _ => s_leq rfl rfl) (Trc.pure rfl rfl rfl (.inl fun _ => s_mv (v := .bool (decide (p2.1 ≤ v5))) rfl) (Trc.know 84 rfl (dec_true h3) (Trc.no rfl rfl rfl (Trc.no rfl rfl rfl (Trc.no rfl rfl rfl (Trc.no rfl rfl rfl (Trc.pure rfl rfl rfl (.inl fun _ => s_pickT (v := .bool true) rfl rfl) (Trc.pure rfl rfl rfl (.inl fun _ => s_mv (v := .bool true) rfl) (Trc.no rfl rfl rfl (Trc.no rfl rfl rfl (Trc.no rfl rfl rfl (Trc.no rfl rfl rfl (Trc.no rfl rfl rfl (Trc.no rfl rfl rfl (Trc.no rfl rfl rfl (Trc.no rfl rfl rfl (Trc.no rfl rfl rfl (Trc.no rfl rfl rfl (Trc.no rfl rfl rfl (Trc.pure rfl rfl rfl (.inl fun _ => s_pickT (v := .bool true) rfl rfl) (Trc.pure rfl rfl rfl (.inl fun _ => s_mv (v := .bool true) rfl) (Trc.no rfl rfl rfl (Trc.no rfl rfl rfl (Trc.no rfl rfl rfl (Trc.no rfl rfl rfl (Trc.no rfl rfl rfl (Trc.no rfl rfl rfl (Trc.no rfl rfl rfl (Trc.no rfl rfl rfl (Trc.no rfl rfl rfl (Trc.pure rfl rfl rfl (.inl fun _ => s_pickT (v := .bool true) rfl rfl) (Trc.nil (fun _ => trivial))))))))))))))))))))))))))))))))))))) rfl (by decide +kernel) mixed ?_
      refine f_keep [3, 4, 7, 9, 10, 20, 21, 22, 113] ?_
      exact s4_j1 happ _ hkt0 v1 v2 v3 v5 v7 v8 v9 v10 v11 true p2.2
    · skip
      refine f_bind ?_; intro p4 hp4
      refine f_if (fun h5 => ?_) (fun h5 => ?_)
      · skip
        refine f_draw (Φ := fun _ => True) (lim := 1000000) [0, 2, 0, 0, 0, 0, 2, 0, 0, 0, 0, 0, 0, 0, 0, 0, 0, 0, 0, 0, 0, 0, 0, 0, 0, 0, 0, 0, 0, 0, 0, 0, 0, 0] (Trc.pure rfl rfl rfl (.inl fun _ => s_mv (v := .ptr v1 v2) rfl) (Trc.eff rfl rfl rfl (fun _ => trivial) (s_callF rfl ok15 (sim15 hp2)) (Trc.pure rfl rfl rfl (.inl fun _ => s_mv (v := .int .i64 v5) rfl) (Trc.pure rfl rfl rfl (.inl fun _ => s_leq rfl rfl) (Trc.pure rfl rfl rfl (.inl fun _ => s_mv (v := .bool (decide (p2.1 ≤ v5))) rfl) (Trc.know 84 rfl (dec_false h3) (Trc.pure rfl rfl rfl (.inl fun _ => s_mv (v := .ptr v1 v2) rfl) (Trc.eff rfl rfl rfl (fun _ => trivial) (s_callF rfl ok15 (sim15 hp4)) (Trc.pure rfl rfl rfl (.inl fun _ => s_mv (v := .int .i64 v3) rfl) (Trc.pure rfl rfl rfl (.inl fun _ => s_gtr rfl rfl) (Trc.pure rfl rfl rfl (.inl fun _ => s_pickF (v := .bool (decide (v3 < p4.1))) rfl rfl) (Trc.pure rfl rfl rfl (.inl fun _ => s_mv (v := .bool (decide (v3 < p4.1))) rfl) (Trc.know 90 rfl (dec_true h5) (Trc.no rfl rfl rfl (Trc.no rfl rfl rfl (Trc.no rfl rfl rfl (Trc.no rfl rfl rfl (Trc.no rfl rfl rfl (Trc.no rfl rfl rfl (Trc.no rfl rfl rfl (Trc.no rfl rfl rfl (Trc.no rfl rfl rfl (Trc.no rfl rfl rfl (Trc.no rfl rfl rfl (Trc.pure rfl rfl rfl (.inl fun _ => s_pickT (v := .bool true) rfl rfl) (Trc.pure rfl rfl rfl (.inl fun _ => s_mv (v := .bool true) rfl) (Trc.no rfl rfl rfl (Trc.no rfl rfl rfl (Trc.no rfl rfl rfl (Trc.no rfl rfl rfl (Trc.no rfl rfl rfl (Trc.no rfl rfl rfl (Trc.no rfl rfl rfl (Trc.no rfl rfl rfl (Trc.no rfl rfl rfl (Trc.pure rfl rfl rfl (.inl fun _ => s_pickT (v := .bool true) rfl rfl) (Trc.nil (fun _ => trivial)))))))))))))))))))))))))))))))))))))) rfl (by decide +kernel) mixed ?_
        refine f_keep [3, 4, 7, 9, 10, 20, 21, 22, 113] ?_
        exact s4_j1 happ _ hkt0 v1 v2 v3 v5 v7 v8 v9 v10 v11 true p4.2
      · skip
        refine f_bind ?_; intro p6 hp6
        refine f_bind ?_; intro x7 hx7
        refine f_if (fun h8 => ?_) (fun h8 => ?_)
        · skip
          refine f_ck fun g9 => ?_
          refine f_ck fun g10 => ?_
          refine f_ck fun g11 => ?_
          refine f_draw (Φ := fun H_ => H_.ld v4 (0 + 3) = some (.str x7)) (lim := 1000000) [0, 2, 0, 0, 0, 0, 2, 0, 0, 0, 0, 0, 2, 0, 0, 0, 0, 0, 0, 0, 0, 0, 0, 0, 0, 0, 0, 0, 0, 0, 0, 0, 0, 0] (Trc.pure rfl rfl rfl (.inl fun _ => s_mv (v := .ptr v1 v2) rfl) (Trc.eff rfl rfl rfl (fun _ => ldStr_eq g9) (s_callF rfl ok15 (sim15 hp2)) (Trc.pure rfl rfl rfl (.inl fun _ => s_mv (v := .int .i64 v5) rfl) (Trc.pure rfl rfl rfl (.inl fun _ => s_leq rfl rfl) (Trc.pure rfl rfl rfl (.inl fun _ => s_mv (v := .bool (decide (p2.1 ≤ v5))) rfl) (Trc.know 84 rfl (dec_false h3) (Trc.pure rfl rfl rfl (.inl fun _ => s_mv (v := .ptr v1 v2) rfl) (Trc.eff rfl rfl rfl (fun _ => ldStr_eq g10) (s_callF rfl ok15 (sim15 hp4)) (Trc.pure rfl rfl rfl (.inl fun _ => s_mv (v := .int .i64 v3) rfl) (Trc.pure rfl rfl rfl (.inl fun _ => s_gtr rfl rfl) (Trc.pure rfl rfl rfl (.inl fun _ => s_pickF (v := .bool (decide (v3 < p4.1))) rfl rfl) (Trc.pure rfl rfl rfl (.inl fun _ => s_mv (v := .bool (decide (v3 < p4.1))) rfl) (Trc.know 90 rfl (dec_false h5) (Trc.pure rfl rfl rfl (.inl fun _ => s_mv (v := .ptr v1 v2) rfl) (Trc.eff rfl rfl rfl (fun _ => ldStr_eq g11) (s_callF rfl ok17 (sim17 hp6)) (Trc.pure rfl rfl rfl (.inl fun _ => s_lenS rfl Tryz.underlying40 rfl) (Trc.pure rfl rfl rfl (.inl fun _ => s_mv (v := .sl v7) rfl) (Trc.pure rfl rfl rfl (.inl fun _ => s_lenS rfl Tryz.underlying40 rfl) (Trc.pure rfl rfl rfl (.inl fun _ => s_add rfl rfl) (Trc.pure rfl rfl rfl (.inl fun _ => s_fieldAddr Tryz.underlying36 rfl ty9 rfl) (Trc.pure rfl rfl rfl (.inr ⟨by decide +kernel, fun _ hp_ => s_load Tryz.underlying9 rfl rfl hp_⟩) (Trc.pure rfl rfl rfl (.inl fun _ => s_lenStr rfl Tryz.underlying9 rfl) (Trc.pure rfl rfl rfl (.inl fun _ => s_add rfl rfl) (Trc.pure rfl rfl rfl (.inl fun _ => s_gtr rfl rfl) (Trc.pure rfl rfl rfl (.inl fun _ => s_pickF (v := .bool (decide ((w64 ((w64 ((v7.len : Int) + 2)) + (x7.size : Int))) < (p6.1.len : Int)))) rfl rfl) (Trc.pure rfl rfl rfl (.inl fun _ => s_mv (v := .bool (decide ((w64 ((w64 ((v7.len : Int) + 2)) + (x7.size : Int))) < (p6.1.len : Int)))) rfl) (Trc.know 103 rfl (dec_true h8) (Trc.no rfl rfl rfl (Trc.no rfl rfl rfl (Trc.no rfl rfl rfl (Trc.no rfl rfl rfl (Trc.no rfl rfl rfl (Trc.no rfl rfl rfl (Trc.no rfl rfl rfl (Trc.no rfl rfl rfl (Trc.no rfl rfl rfl (Trc.pure rfl rfl rfl (.inl fun _ => s_pickT (v := .bool true) rfl rfl) (Trc.nil (fun _ => ldStr_eq hx7))))))))))))))))))))))))))))))))))))))) rfl (by decide +kernel) mixed ?_
          refine f_keep [3, 4, 7, 9, 10, 20, 21, 22, 113] ?_
          exact s4_j1 happ _ hkt0 v1 v2 v3 v5 v7 v8 v9 v10 v11 true p6.2
        · skip
          refine f_bind ?_; intro p12 hp12
          refine f_bind ?_; intro x13 hx13
          refine f_bind ?_; intro x14 hx14
          refine f_bind ?_; intro p15 hp15
          refine f_ck fun g16 => ?_
          refine f_ck fun g17 => ?_
          refine f_ck fun g18 => ?_
          refine f_ck fun g19 => ?_
          refine f_ck fun g20 => ?_
          refine f_ck fun g21 => ?_
          refine f_ck fun g22 => ?_
          refine f_ck fun g23 => ?_
          refine f_drawF (Φ := fun H_ => H_.ld v4 (0 + 3) = some (.str x7) ∧ H_.ld v4 (0 + 3) = some (.str x13)) (lim := 29) [0, 2, 0, 0, 0, 0, 2, 0, 0, 0, 0, 0, 2, 0, 0, 0, 0, 0, 0, 0, 0, 0, 0, 0, 0, 2, 0, 0, 0, 2, 2, 2, 0, 0] [false, false, false, false, false, false, false, false, false, false, false, false, false, false, false, false, false, false, false, false, false, false, false, false, false, false, false, false, false, true, false, false, false, false] 29 30 (Trc.pure rfl rfl rfl (.inl fun _ => s_mv (v := .ptr v1 v2) rfl) (Trc.eff rfl rfl rfl (fun _ => ⟨ldStr_eq g16, ldStr_eq g17⟩) (s_callF rfl ok15 (sim15 hp2)) (Trc.pure rfl rfl rfl (.inl fun _ => s_mv (v := .int .i64 v5) rfl) (Trc.pure rfl rfl rfl (.inl fun _ => s_leq rfl rfl) (Trc.pure rfl rfl rfl (.inl fun _ => s_mv (v := .bool (decide (p2.1 ≤ v5))) rfl) (Trc.know 84 rfl (dec_false h3) (Trc.pure rfl rfl rfl (.inl fun _ => s_mv (v := .ptr v1 v2) rfl) (Trc.eff rfl rfl rfl (fun _ => ⟨ldStr_eq g18, ldStr_eq g19⟩) (s_callF rfl ok15 (sim15 hp4)) (Trc.pure rfl rfl rfl (.inl fun _ => s_mv (v := .int .i64 v3) rfl) (Trc.pure rfl rfl rfl (.inl fun _ => s_gtr rfl rfl) (Trc.pure rfl rfl rfl (.inl fun _ => s_pickF (v := .bool (decide (v3 < p4.1))) rfl rfl) (Trc.pure rfl rfl rfl (.inl fun _ => s_mv (v := .bool (decide (v3 < p4.1))) rfl) (Trc.know 90 rfl (dec_false h5) (Trc.pure rfl rfl rfl (.inl fun _ => s_mv (v := .ptr v1 v2) rfl) (Trc.eff rfl rfl rfl (fun _ => ⟨ldStr_eq g20, ldStr_eq g21⟩) (s_callF rfl ok17 (sim17 hp6)) (Trc.pure rfl rfl rfl (.inl fun _ => s_lenS rfl Tryz.underlying40 rfl) (Trc.pure rfl rfl rfl (.inl fun _ => s_mv (v := .sl v7) rfl) (Trc.pure rfl rfl rfl (.inl fun _ => s_lenS rfl Tryz.underlying40 rfl) (Trc.pure rfl rfl rfl (.inl fun _ => s_add rfl rfl) (Trc.pure rfl rfl rfl (.inl fun _ => s_fieldAddr Tryz.underlying36 rfl ty9 rfl) (Trc.pure rfl rfl rfl (.inr ⟨by decide +kernel, fun _ hp_ => s_load Tryz.underlying9 rfl rfl hp_.1⟩) (Trc.pure rfl rfl rfl (.inl fun _ => s_lenStr rfl Tryz.underlying9 rfl) (Trc.pure rfl rfl rfl (.inl fun _ => s_add rfl rfl) (Trc.pure rfl rfl rfl (.inl fun _ => s_gtr rfl rfl) (Trc.pure rfl rfl rfl (.inl fun _ => s_pickF (v := .bool (decide ((w64 ((w64 ((v7.len : Int) + 2)) + (x7.size : Int))) < (p6.1.len : Int)))) rfl rfl) (Trc.pure rfl rfl rfl (.inl fun _ => s_mv (v := .bool (decide ((w64 ((w64 ((v7.len : Int) + 2)) + (x7.size : Int))) < (p6.1.len : Int)))) rfl) (Trc.know 103 rfl (dec_false h8) (Trc.pure rfl rfl rfl (.inl fun _ => s_mv (v := .ptr v1 v2) rfl) (Trc.eff rfl rfl rfl (fun _ => ⟨ldStr_eq hx7, ldStr_eq g22⟩) (s_callF rfl ok16 (sim16 hp12)) (Trc.pure rfl rfl rfl (.inl fun _ => s_mv (v := .sl v6) rfl) (Trc.pure rfl rfl rfl (.inl fun _ => s_fieldAddr Tryz.underlying36 rfl ty9 rfl) (Trc.pure rfl rfl rfl (.inr ⟨by decide +kernel, fun _ hp_ => s_load Tryz.underlying9 rfl rfl hp_.2⟩) (Trc.fl (.s 1) rfl rfl rfl (fun _ => ⟨ldStr_eq g23, ldStr_eq hx13⟩) rfl (by rfl) (fun _ => s_buildSlice (cs := [.str x13]) Tryz.underlying38 ty9 (by decide) (by decide) rfl (by decide) rfl) (Trc.eff rfl rfl rfl (fun h_ => absurd h_ (by decide +kernel)) (s_ap rfl rfl Tryz.underlying38 Tryz.underlying38 ty9 rfl rfl rfl rfl rfl rfl rfl hx14) (Trc.eff rfl rfl rfl (fun h_ => absurd h_ (by decide +kernel)) (s_callF rfl ok21 (sim21 hp15)) (Trc.pure rfl rfl rfl (.inl fun _ => s_not rfl) (Trc.pure rfl rfl rfl (.inl fun _ => s_pickF (v := .bool (!p15.1)) rfl rfl) (Trc.nil (fun h_ => absurd h_ (by decide +kernel)))))))))))))))))))))))))))))))))))))))) rfl rfl (by decide +kernel) mixed ?_
          refine f_keep [3, 4, 7, 9, 10, 20, 21, 22, 113] ?_
          exact s4_j1 happ _ hkt0 v1 v2 v3 v5 v7 v8 v9 v10 v11 (!p15.1) p15.2
  · skip
    refine f_know 79 rfl (bool_F h1) ?_
    refine f_condF rfl ?_
    refine f_skip ?_
    refine f_keep [3, 4, 7, 9, 10, 20, 21, 22] ?_
    exact s4_j7 happ _ hkt0 v1 v2 v3 v5 v7 v8 v9 v10 v11 H

theorem s4_j4 {app : App} (happ : AppSim Tryz.prog app) (kt0 : Nat → Nat → Int → Sl → Int → Int → Hp → Option (Bool × Hp)) (hkt0 : ∀ (v1 : Nat) (v2 : Nat) (v3 : Int) (v4 : Sl) (v5 : Int) (v6 : Int) (H : Hp), Fin Tryz.prog Tryz.f4 ret4 200 (todoAt (bodyOf Tryz.f4) [1, 1, 1, 0, 1, 0, 0] []) [(3, .ptr v1 v2), (4, .int .i64 v3), (20, .sl v4), (21, .int .i64 v5), (22, .int .i64 v6)] H (kt0 v1 v2 v3 v4 v5 v6 H)) (v1 : Nat) (v2 : Nat) (v3 : Int) (v4 : Nat) (v5 : Int) (v6 : Sl) (v7 : Sl) (v8 : Int) (v9 : Sl) (v10 : Int) (v11 : Int) (v12 : Bool) (H : Hp) : Fin Tryz.prog Tryz.f4 ret4 200 (todoAt (bodyOf Tryz.f4) [1, 1, 1, 0, 1, 0, 0, 1, 1, 0, 0, 1, 1, 1, 1, 0, 1] []) [(3, .ptr v1 v2), (4, .int .i64 v3), (6, .ptr v4 0), (7, .int .i64 v5), (8, .sl v6), (9, .sl v7), (10, .int .i64 v8), (20, .sl v9), (21, .int .i64 v10), (22, .int .i64 v11), (72, .bool v12)] H (r4_j4 app kt0 v1 v2 v3 v4 v5 v6 v7 v8 v9 v10 v11 v12 H) := by
  unfold r4_j4
  refine f_if (fun h1 => ?_) (fun h1 => ?_)
  · skip
    refine f_know 72 rfl (bool_T h1) ?_
    refine f_condT rfl ?_
    refine f_seq ?_
    refine f_region ?_
    refine f_op rfl rfl (s_as (v := .bool false) rfl) ?_
    refine f_nil ?_
    exact f_ret (.tmp rfl (.nil)) rfl
  · skip
    refine f_know 72 rfl (bool_F h1) ?_
    refine f_condF rfl ?_
    refine f_skip ?_
    refine f_seq ?_
    refine f_seq ?_
    refine f_region ?_
    refine f_op rfl rfl (s_fieldAddr Tryz.underlying36 rfl ty3 rfl) ?_
    refine o_bind ?_; intro x2 hx2
    refine f_op rfl rfl (s_load Tryz.underlying3 rfl rfl (ldI_eq hx2)) ?_
    refine f_op rfl rfl (s_eql rfl rfl) ?_
    refine f_op rfl rfl (s_mv (v := .bool (decide (x2 = 0))) rfl) ?_
    refine o_if (fun h3 => ?_) (fun h3 => ?_)
    · skip
      refine o_know 76 rfl (dec_true h3) ?_
      refine f_op rfl rfl (s_mv (v := .int .i64 v8) rfl) ?_
      refine f_op rfl rfl (s_eql rfl rfl) ?_
      refine f_op rfl rfl (s_pickT (v := .bool (decide (v8 = 0))) rfl rfl) ?_
      refine f_nil ?_
      refine f_keep [3, 4, 6, 7, 8, 9, 10, 20, 21, 22, 79] ?_
      exact s4_j3 happ _ hkt0 v1 v2 v3 v4 v5 v6 v7 v8 v9 v10 v11 (decide (v8 = 0)) H
    · skip
      refine o_know 76 rfl (dec_false h3) ?_
      refine f_no rfl rfl ?_
      refine f_no rfl rfl ?_
      refine f_op rfl rfl (s_pickF (v := .bool false) rfl rfl) ?_
      refine f_nil ?_
      refine f_keep [3, 4, 6, 7, 8, 9, 10, 20, 21, 22, 79] ?_
      exact s4_j3 happ _ hkt0 v1 v2 v3 v4 v5 v6 v7 v8 v9 v10 v11 false H

theorem s4_j5 {app : App} (happ : AppSim Tryz.prog app) (kt0 : Nat → Nat → Int → Sl → Int → Int → Hp → Option (Bool × Hp)) (hkt0 : ∀ (v1 : Nat) (v2 : Nat) (v3 : Int) (v4 : Sl) (v5 : Int) (v6 : Int) (H : Hp), Fin Tryz.prog Tryz.f4 ret4 200 (todoAt (bodyOf Tryz.f4) [1, 1, 1, 0, 1, 0, 0] []) [(3, .ptr v1 v2), (4, .int .i64 v3), (20, .sl v4), (21, .int .i64 v5), (22, .int .i64 v6)] H (kt0 v1 v2 v3 v4 v5 v6 H)) (v1 : Nat) (v2 : Nat) (v3 : Int) (v4 : Nat) (v5 : Int) (v6 : Sl) (v7 : Sl) (v8 : Int) (v9 : Sl) (v10 : Int) (v11 : Int) (H : Hp) : Fin Tryz.prog Tryz.f4 ret4 200 (todoAt (bodyOf Tryz.f4) [1, 1, 1, 0, 1, 0, 0, 1, 1, 0, 0, 1, 1, 1, 1] []) [(3, .ptr v1 v2), (4, .int .i64 v3), (6, .ptr v4 0), (7, .int .i64 v5), (8, .sl v6), (9, .sl v7), (10, .int .i64 v8), (20, .sl v9), (21, .int .i64 v10), (22, .int .i64 v11)] H (r4_j5 app kt0 v1 v2 v3 v4 v5 v6 v7 v8 v9 v10 v11 H) := by
  unfold r4_j5
  refine f_seq ?_
  refine f_seq ?_
  refine f_region ?_
  refine f_op rfl rfl (s_mv (v := .ptr v1 v2) rfl) ?_
  refine o_bind ?_; intro p1 hp1
  refine f_op rfl rfl (s_callF rfl ok17 (sim17 hp1)) ?_
  refine f_op rfl rfl (s_mv (v := .sl v7) rfl) ?_
  refine o_bind ?_; intro p2 hp2
  refine f_op rfl rfl (s_callF rfl ok20 (sim20 hp2)) ?_
  refine f_op rfl rfl (s_not rfl) ?_
  refine f_op rfl rfl (s_mv (v := .bool (!p2.1)) rfl) ?_
  refine o_if (fun h3 => ?_) (fun h3 => ?_)
  · skip
    refine o_know 60 rfl (bool_notT h3) ?_
    refine f_op rfl rfl (s_fieldAddr Tryz.underlying36 rfl ty3 rfl) ?_
    refine o_bind ?_; intro x4 hx4
    refine f_op rfl rfl (s_load Tryz.underlying3 rfl rfl (ldI_eq hx4)) ?_
    refine f_op rfl rfl (s_neq rfl rfl) ?_
    refine f_op rfl rfl (s_mv (v := .bool (decide (x4 ≠ 0))) rfl) ?_
    refine o_if (fun h5 => ?_) (fun h5 => ?_)
    · skip
      refine o_know 64 rfl (dec_true h5) ?_
      refine f_op rfl rfl (s_mv (v := .ptr v1 v2) rfl) ?_
      refine o_bind ?_; intro p6 hp6
      refine f_op rfl rfl (s_callF rfl ok17 (sim17 hp6)) ?_
      refine f_op rfl rfl (s_lenS rfl Tryz.underlying40 rfl) ?_
      refine f_op rfl rfl (s_mv (v := .sl v7) rfl) ?_
      refine f_op rfl rfl (s_lenS rfl Tryz.underlying40 rfl) ?_
      refine f_op rfl rfl (s_neq rfl rfl) ?_
      refine f_op rfl rfl (s_pickT (v := .bool (decide ((p6.1.len : Int) ≠ (v7.len : Int)))) rfl rfl) ?_
      refine f_op rfl rfl (s_pickF (v := .bool (decide ((p6.1.len : Int) ≠ (v7.len : Int)))) rfl rfl) ?_
      refine f_nil ?_
      refine f_keep [3, 4, 6, 7, 8, 9, 10, 20, 21, 22, 72] ?_
      exact s4_j4 happ _ hkt0 v1 v2 v3 v4 v5 v6 v7 v8 v9 v10 v11 (decide ((p6.1.len : Int) ≠ (v7.len : Int))) p6.2
    · skip
      refine o_know 64 rfl (dec_false h5) ?_
      refine f_no rfl rfl ?_
      refine f_no rfl rfl ?_
      refine f_no rfl rfl ?_
      refine f_no rfl rfl ?_
      refine f_no rfl rfl ?_
      refine f_no rfl rfl ?_
      refine f_op rfl rfl (s_pickF (v := .bool false) rfl rfl) ?_
      refine f_op rfl rfl (s_pickF (v := .bool false) rfl rfl) ?_
      refine f_nil ?_
      refine f_keep [3, 4, 6, 7, 8, 9, 10, 20, 21, 22, 72] ?_
      exact s4_j4 happ _ hkt0 v1 v2 v3 v4 v5 v6 v7 v8 v9 v10 v11 false p2.2
  · skip
    refine o_know 60 rfl (bool_notF h3) ?_
    refine f_no rfl rfl ?_
    refine f_no rfl rfl ?_
    refine f_no rfl rfl ?_
    refine f_no rfl rfl ?_
    refine f_no rfl rfl ?_
    refine f_no rfl rfl ?_
    refine f_no rfl rfl ?_
    refine f_no rfl rfl ?_
    refine f_no rfl rfl ?_
    refine f_no rfl rfl ?_
    refine f_no rfl rfl ?_
    refine f_op rfl rfl (s_pickT (v := .bool true) rfl rfl) ?_
    refine f_nil ?_
    refine f_keep [3, 4, 6, 7, 8, 9, 10, 20, 21, 22, 72] ?_
    exact s4_j4 happ _ hkt0 v1 v2 v3 v4 v5 v6 v7 v8 v9 v10 v11 true p2.2

theorem s4_j9 {app : App} (happ : AppSim Tryz.prog app) (kt8 : Nat → Nat → Int → Int → Int → Int → Int → Sl → Int → Int → Hp → Option (Bool × Hp)) (hkt8 : ∀ (v1 : Nat) (v2 : Nat) (v3 : Int) (v4 : Int) (v5 : Int) (v6 : Int) (v7 : Int) (v8 : Sl) (v9 : Int) (v10 : Int) (H : Hp), Fin Tryz.prog Tryz.f4 ret4 200 (todoAt (bodyOf Tryz.f4) [1, 1, 1, 1, 0, 1, 0, 0, 1, 1, 0, 0, 1, 1, 1, 0, 1, 0, 0] []) [(3, .ptr v1 v2), (4, .int .i64 v3), (11, .int .i64 v4), (12, .int .i64 v5), (136, .int .i64 v6), (137, .int .i64 v7), (148, .sl v8), (149, .int .i64 v9), (150, .int .i64 v10)] H (kt8 v1 v2 v3 v4 v5 v6 v7 v8 v9 v10 H)) (v1 : Nat) (v2 : Nat) (v3 : Int) (v4 : Int) (v5 : Int) (v6 : Int) (v7 : Int) (v8 : Sl) (v9 : Int) (v10 : Int) (v11 : Bool) (H : Hp) : Fin Tryz.prog Tryz.f4 ret4 200 (todoAt (bodyOf Tryz.f4) [1, 1, 1, 1, 0, 1, 0, 0, 1, 1, 0, 0, 1, 1, 1, 0, 1, 0, 0, 1, 1, 0, 0, 1, 1] []) [(3, .ptr v1 v2), (4, .int .i64 v3), (11, .int .i64 v4), (12, .int .i64 v5), (136, .int .i64 v6), (137, .int .i64 v7), (148, .sl v8), (149, .int .i64 v9), (150, .int .i64 v10), (161, .bool v11)] H (r4_j9 app kt8 v1 v2 v3 v4 v5 v6 v7 v8 v9 v10 v11 H) := by
  unfold r4_j9
  refine f_if (fun h1 => ?_) (fun h1 => ?_)
  · skip
    refine f_know 161 rfl (bool_T h1) ?_
    refine f_condT rfl ?_
    refine f_seq ?_
    refine f_region ?_
    refine f_op rfl rfl (s_as (v := .bool false) rfl) ?_
    refine f_nil ?_
    exact f_ret (.tmp rfl (.nil)) rfl
  · skip
    refine f_know 161 rfl (bool_F h1) ?_
    refine f_condF rfl ?_
    refine f_skip ?_
    refine f_inBlock ?_
    refine f_region ?_
    refine f_op rfl rfl (s_add rfl rfl) ?_
    refine f_op rfl rfl (s_mv (v := .int .i64 (w64 (v10 + 1))) rfl) ?_
    refine f_nil ?_
    refine f_inLoop ?_
    refine f_keep [3, 4, 11, 12, 136, 137, 148, 149, 150] ?_
    exact hkt8 v1 v2 v3 v4 v5 v6 v7 v8 v9 (w64 (v10 + 1)) H

theorem s4_j10 {app : App} (happ : AppSim Tryz.prog app) (kt6 : Nat → Nat → Int → Int → Int → Hp → Option (Bool × Hp)) (hkt6 : ∀ (v1 : Nat) (v2 : Nat) (v3 : Int) (v4 : Int) (v5 : Int) (H : Hp), Fin Tryz.prog Tryz.f4 ret4 200 (todoAt (bodyOf Tryz.f4) [1, 1, 1, 1, 0, 1, 0, 0] []) [(3, .ptr v1 v2), (4, .int .i64 v3), (136, .int .i64 v4), (137, .int .i64 v5)] H (kt6 v1 v2 v3 v4 v5 H)) (v1 : Nat) (v2 : Nat) (v3 : Int) (v4 : Int) (v5 : Int) (v6 : Bool) (H : Hp) : Fin Tryz.prog Tryz.f4 ret4 200 (todoAt (bodyOf Tryz.f4) [1, 1, 1, 1, 0, 1, 0, 0, 1, 1, 0, 0, 1, 1, 1, 1, 1] []) [(3, .ptr v1 v2), (4, .int .i64 v3), (136, .int .i64 v4), (137, .int .i64 v5), (186, .bool v6)] H (r4_j10 app kt6 v1 v2 v3 v4 v5 v6 H) := by
  unfold r4_j10
  refine f_if (fun h1 => ?_) (fun h1 => ?_)
  · skip
    refine f_know 186 rfl (bool_T h1) ?_
    refine f_condT rfl ?_
    refine f_seq ?_
    refine f_region ?_
    refine f_op rfl rfl (s_as (v := .bool false) rfl) ?_
    refine f_nil ?_
    exact f_ret (.tmp rfl (.nil)) rfl
  · skip
    refine f_know 186 rfl (bool_F h1) ?_
    refine f_condF rfl ?_
    refine f_skip ?_
    refine f_inBlock ?_
    refine f_region ?_
    refine f_op rfl rfl (s_add rfl rfl) ?_
    refine f_op rfl rfl (s_mv (v := .int .i64 (w64 (v5 + 1))) rfl) ?_
    refine f_nil ?_
    refine f_inLoop ?_
    refine f_keep [3, 4, 136, 137] ?_
    exact hkt6 v1 v2 v3 v4 (w64 (v5 + 1)) H

theorem s4_l8 {app : App} (happ : AppSim Tryz.prog app) (kt6 : Nat → Nat → Int → Int → Int → Hp → Option (Bool × Hp)) (hkt6 : ∀ (v1 : Nat) (v2 : Nat) (v3 : Int) (v4 : Int) (v5 : Int) (H : Hp), Fin Tryz.prog Tryz.f4 ret4 200 (todoAt (bodyOf Tryz.f4) [1, 1, 1, 1, 0, 1, 0, 0] []) [(3, .ptr v1 v2), (4, .int .i64 v3), (136, .int .i64 v4), (137, .int .i64 v5)] H (kt6 v1 v2 v3 v4 v5 H)) : ∀ (k_ : Nat) (v1 : Nat) (v2 : Nat) (v3 : Int) (v4 : Int) (v5 : Int) (v6 : Int) (v7 : Int) (v8 : Sl) (v9 : Int) (v10 : Int) (H : Hp), Fin Tryz.prog Tryz.f4 ret4 200 (todoAt (bodyOf Tryz.f4) [1, 1, 1, 1, 0, 1, 0, 0, 1, 1, 0, 0, 1, 1, 1, 0, 1, 0, 0] []) [(3, .ptr v1 v2), (4, .int .i64 v3), (11, .int .i64 v4), (12, .int .i64 v5), (136, .int .i64 v6), (137, .int .i64 v7), (148, .sl v8), (149, .int .i64 v9), (150, .int .i64 v10)] H (r4_l8 app kt6 k_ v1 v2 v3 v4 v5 v6 v7 v8 v9 v10 H) := by
  intro k_
  induction k_ with
  | zero => intro _ _ _ _ _ _ _ _ _ _ _; exact f_none
  | succ k_ ih =>
    intro v1 v2 v3 v4 v5 v6 v7 v8 v9 v10 H
    rw [r4_l8]
    refine f_seq ?_
    refine f_region ?_
    refine f_op rfl rfl (s_lss rfl rfl) ?_
    refine f_nil ?_
    refine f_seq ?_
    refine f_if (fun h1 => ?_) (fun h1 => ?_)
    · skip
      refine f_know 151 rfl (dec_true h1) ?_
      refine f_condT rfl ?_
      refine f_skip ?_
      refine f_seq ?_
      refine f_block ?_
      refine f_seq ?_
      refine f_region ?_
      refine o_ck fun g2 => ?_
      refine f_op rfl rfl (s_idx Tryz.underlying30 ty3 rfl rfl g2) ?_
      refine o_bind ?_; intro x3 hx3
      refine f_op rfl rfl (s_load Tryz.underlying3 rfl rfl (ldI_eq hx3)) ?_
      refine f_op rfl rfl (s_as (v := .int .i64 x3) rfl) ?_
      refine f_nil ?_
      refine f_seq ?_
      refine f_region ?_
      refine f_op rfl rfl (s_mv (v := .int .i64 x3) rfl) ?_
      refine f_op rfl rfl (s_mv (v := .int .i64 v4) rfl) ?_
      refine f_op rfl rfl (s_leq rfl rfl) ?_
      refine f_op rfl rfl (s_mv (v := .bool (decide (x3 ≤ v4))) rfl) ?_
      refine o_if (fun h4 => ?_) (fun h4 => ?_)
      · skip
        refine o_know 157 rfl (dec_true h4) ?_
        refine f_no rfl rfl ?_
        refine f_no rfl rfl ?_
        refine f_no rfl rfl ?_
        refine f_op rfl rfl (s_pickT (v := .bool true) rfl rfl) ?_
        refine f_nil ?_
        refine f_keep [3, 4, 11, 12, 136, 137, 148, 149, 150, 161] ?_
        exact s4_j9 happ _ (fun v1_ v2_ v3_ v4_ v5_ v6_ v7_ v8_ v9_ v10_ H_ => ih v1_ v2_ v3_ v4_ v5_ v6_ v7_ v8_ v9_ v10_ H_) v1 v2 v3 v4 v5 v6 v7 v8 v9 v10 true H
      · skip
        refine o_know 157 rfl (dec_false h4) ?_
        refine f_op rfl rfl (s_mv (v := .int .i64 x3) rfl) ?_
        refine f_op rfl rfl (s_mv (v := .int .i64 v3) rfl) ?_
        refine f_op rfl rfl (s_geq rfl rfl) ?_
        refine f_op rfl rfl (s_pickF (v := .bool (decide (v3 ≤ x3))) rfl rfl) ?_
        refine f_nil ?_
        refine f_keep [3, 4, 11, 12, 136, 137, 148, 149, 150, 161] ?_
        exact s4_j9 happ _ (fun v1_ v2_ v3_ v4_ v5_ v6_ v7_ v8_ v9_ v10_ H_ => ih v1_ v2_ v3_ v4_ v5_ v6_ v7_ v8_ v9_ v10_ H_) v1 v2 v3 v4 v5 v6 v7 v8 v9 v10 (decide (v3 ≤ x3)) H
    · skip
      refine f_know 151 rfl (dec_false h1) ?_
      refine f_condF rfl ?_
      refine f_exit rfl ?_
      refine f_seq ?_
      refine f_region ?_
      refine f_op rfl rfl (s_mv (v := .int .i64 v4) rfl) ?_
      refine f_op rfl rfl (s_gtr rfl rfl) ?_
      refine f_op rfl rfl (s_mv (v := .bool (decide (0 < v4))) rfl) ?_
      refine o_if (fun h5 => ?_) (fun h5 => ?_)
      · skip
        refine o_know 165 rfl (dec_true h5) ?_
        refine f_op rfl rfl (s_mv (v := .int .i64 v5) rfl) ?_
        refine f_op rfl rfl (s_lss rfl rfl) ?_
        refine f_op rfl rfl (s_mv (v := .bool (decide (v5 < 1))) rfl) ?_
        refine o_if (fun h6 => ?_) (fun h6 => ?_)
        · skip
          refine o_know 168 rfl (dec_true h6) ?_
          refine f_no rfl rfl ?_
          refine f_no rfl rfl ?_
          refine f_no rfl rfl ?_
          refine f_op rfl rfl (s_pickT (v := .bool true) rfl rfl) ?_
          refine f_op rfl rfl (s_mv (v := .bool true) rfl) ?_
          refine f_no rfl rfl ?_
          refine f_no rfl rfl ?_
          refine f_no rfl rfl ?_
          refine f_no rfl rfl ?_
          refine f_op rfl rfl (s_pickT (v := .bool true) rfl rfl) ?_
          refine f_op rfl rfl (s_mv (v := .bool true) rfl) ?_
          refine f_no rfl rfl ?_
          refine f_no rfl rfl ?_
          refine f_no rfl rfl ?_
          refine f_no rfl rfl ?_
          refine f_no rfl rfl ?_
          refine f_op rfl rfl (s_pickT (v := .bool true) rfl rfl) ?_
          refine f_op rfl rfl (s_pickT (v := .bool true) rfl rfl) ?_
          refine f_nil ?_
          refine f_keep [3, 4, 136, 137, 186] ?_
          exact s4_j10 happ _ hkt6 v1 v2 v3 v6 v7 true H
        · skip
          refine o_know 168 rfl (dec_false h6) ?_
          refine f_op rfl rfl (s_mv (v := .ptr v1 v2) rfl) ?_
          refine o_bind ?_; intro p7 hp7
          refine f_op rfl rfl (s_callF rfl ok19 (sim19 hp7)) ?_
          refine f_op rfl rfl (s_neq rfl rfl) ?_
          refine f_op rfl rfl (s_pickF (v := .bool (decide (p7.1 ≠ 0))) rfl rfl) ?_
          refine f_op rfl rfl (s_mv (v := .bool (decide (p7.1 ≠ 0))) rfl) ?_
          refine o_if (fun h8 => ?_) (fun h8 => ?_)
          · skip
            refine o_know 173 rfl (dec_true h8) ?_
            refine f_no rfl rfl ?_
            refine f_no rfl rfl ?_
            refine f_no rfl rfl ?_
            refine f_no rfl rfl ?_
            refine f_op rfl rfl (s_pickT (v := .bool true) rfl rfl) ?_
            refine f_op rfl rfl (s_mv (v := .bool true) rfl) ?_
            refine f_no rfl rfl ?_
            refine f_no rfl rfl ?_
            refine f_no rfl rfl ?_
            refine f_no rfl rfl ?_
            refine f_no rfl rfl ?_
            refine f_op rfl rfl (s_pickT (v := .bool true) rfl rfl) ?_
            refine f_op rfl rfl (s_pickT (v := .bool true) rfl rfl) ?_
            refine f_nil ?_
            refine f_keep [3, 4, 136, 137, 186] ?_
            exact s4_j10 happ _ hkt6 v1 v2 v3 v6 v7 true p7.2
          · skip
            refine o_know 173 rfl (dec_false h8) ?_
            refine f_op rfl rfl (s_mv (v := .ptr v1 v2) rfl) ?_
            refine o_bind ?_; intro p9 hp9
            refine f_op rfl rfl (s_callF rfl ok15 (sim15 hp9)) ?_
            refine f_op rfl rfl (s_mv (v := .int .i64 v4) rfl) ?_
            refine f_op rfl rfl (s_geq rfl rfl) ?_
            refine f_op rfl rfl (s_pickF (v := .bool (decide (v4 ≤ p9.1))) rfl rfl) ?_
            refine f_op rfl rfl (s_mv (v := .bool (decide (v4 ≤ p9.1))) rfl) ?_
            refine o_if (fun h10 => ?_) (fun h10 => ?_)
            · skip
              refine o_know 179 rfl (dec_true h10) ?_
              refine f_no rfl rfl ?_
              refine f_no rfl rfl ?_
              refine f_no rfl rfl ?_
              refine f_no rfl rfl ?_
              refine f_no rfl rfl ?_
              refine f_op rfl rfl (s_pickT (v := .bool true) rfl rfl) ?_
              refine f_op rfl rfl (s_pickT (v := .bool true) rfl rfl) ?_
              refine f_nil ?_
              refine f_keep [3, 4, 136, 137, 186] ?_
              exact s4_j10 happ _ hkt6 v1 v2 v3 v6 v7 true p9.2
            · skip
              refine o_know 179 rfl (dec_false h10) ?_
              refine f_op rfl rfl (s_mv (v := .ptr v1 v2) rfl) ?_
              refine o_bind ?_; intro p11 hp11
              refine f_op rfl rfl (s_callF rfl ok22 (sim22 hp11)) ?_
              refine f_op rfl rfl (s_mv (v := .int .i64 v4) rfl) ?_
              refine o_bind ?_; intro p12 hp12
              refine f_op rfl rfl (s_callF rfl ok23 (sim23 hp12)) ?_
              refine f_op rfl rfl (s_not rfl) ?_
              refine f_op rfl rfl (s_pickF (v := .bool (!p12.1)) rfl rfl) ?_
              refine f_op rfl rfl (s_pickT (v := .bool (!p12.1)) rfl rfl) ?_
              refine f_nil ?_
              refine f_keep [3, 4, 136, 137, 186] ?_
              exact s4_j10 happ _ hkt6 v1 v2 v3 v6 v7 (!p12.1) p12.2
      · skip
        refine o_know 165 rfl (dec_false h5) ?_
        refine f_no rfl rfl ?_
        refine f_no rfl rfl ?_
        refine f_no rfl rfl ?_
        refine f_no rfl rfl ?_
        refine f_no rfl rfl ?_
        refine f_no rfl rfl ?_
        refine f_no rfl rfl ?_
        refine f_no rfl rfl ?_
        refine f_no rfl rfl ?_
        refine f_no rfl rfl ?_
        refine f_no rfl rfl ?_
        refine f_no rfl rfl ?_
        refine f_no rfl rfl ?_
        refine f_no rfl rfl ?_
        refine f_no rfl rfl ?_
        refine f_no rfl rfl ?_
        refine f_no rfl rfl ?_
        refine f_no rfl rfl ?_
        refine f_no rfl rfl ?_
        refine f_no rfl rfl ?_
        refine f_op rfl rfl (s_pickF (v := .bool false) rfl rfl) ?_
        refine f_nil ?_
        refine f_keep [3, 4, 136, 137, 186] ?_
        exact s4_j10 happ _ hkt6 v1 v2 v3 v6 v7 false H

theorem s4_l6 {app : App} (happ : AppSim Tryz.prog app) : ∀ (k_ : Nat) (v1 : Nat) (v2 : Nat) (v3 : Int) (v4 : Int) (v5 : Int) (H : Hp), Fin Tryz.prog Tryz.f4 ret4 200 (todoAt (bodyOf Tryz.f4) [1, 1, 1, 1, 0, 1, 0, 0] []) [(3, .ptr v1 v2), (4, .int .i64 v3), (136, .int .i64 v4), (137, .int .i64 v5)] H (r4_l6 app k_ v1 v2 v3 v4 v5 H) := by
  intro k_
  induction k_ with
  | zero => intro _ _ _ _ _ _; exact f_none
  | succ k_ ih =>
    intro v1 v2 v3 v4 v5 H
    rw [r4_l6]
    refine f_seq ?_
    refine f_region ?_
    refine f_op rfl rfl (s_lss rfl rfl) ?_
    refine f_nil ?_
    refine f_seq ?_
    refine f_if (fun h1 => ?_) (fun h1 => ?_)
    · skip
      refine f_know 138 rfl (dec_true h1) ?_
      refine f_condT rfl ?_
      refine f_skip ?_
      refine f_seq ?_
      refine f_block ?_
      refine f_seq ?_
      refine f_region ?_
      refine f_op rfl rfl (s_mv (v := .int .i64 v5) rfl) ?_
      refine f_op rfl rfl (s_as (v := .int .i64 v5) rfl) ?_
      refine f_nil ?_
      refine f_seq ?_
      refine f_seq ?_
      refine f_region ?_
      refine f_op rfl rfl (s_mv (v := .ptr v1 v2) rfl) ?_
      refine f_op rfl rfl (s_mv (v := .int .i64 v5) rfl) ?_
      refine o_bind ?_; intro p2 hp2
      refine f_op rfl rfl (s_callF rfl ok10 (sim10 happ hp2)) ?_
      refine f_op rfl rfl (s_neq rfl rfl) ?_
      refine f_nil ?_
      refine f_if (fun h3 => ?_) (fun h3 => ?_)
      · skip
        refine f_know 143 rfl (dec_true h3) ?_
        refine f_condT rfl ?_
        refine f_seq ?_
        refine f_region ?_
        refine f_op rfl rfl (s_as (v := .bool false) rfl) ?_
        refine f_nil ?_
        exact f_ret (.tmp rfl (.nil)) rfl
      · skip
        refine f_know 143 rfl (dec_false h3) ?_
        refine f_condF rfl ?_
        refine f_skip ?_
        refine f_seq ?_
        refine f_region ?_
        refine f_op rfl rfl (s_mv (v := .ptr v1 v2) rfl) ?_
        refine o_bind ?_; intro p4 hp4
        refine f_op rfl rfl (s_callF rfl ok16 (sim16 hp4)) ?_
        refine f_op rfl rfl (s_lenS rfl Tryz.underlying38 rfl) ?_
        refine f_op rfl rfl (s_as (v := .int .i64 (p4.1.len : Int)) rfl) ?_
        refine f_nil ?_
        refine f_seq ?_
        refine f_seq ?_
        refine f_region ?_
        refine f_op rfl rfl (s_mv (v := .ptr v1 v2) rfl) ?_
        refine o_bind ?_; intro p5 hp5
        refine f_op rfl rfl (s_callF rfl ok22 (sim22 hp5)) ?_
        refine f_op rfl rfl (s_lenS rfl Tryz.underlying30 rfl) ?_
        refine f_op rfl rfl (s_mv (v := .int .i64 0) rfl) ?_
        refine f_nil ?_
        refine f_block ?_
        refine f_loop ?_
        refine f_keep [3, 4, 11, 12, 136, 137, 148, 149, 150] ?_
        exact s4_l8 happ _ (fun v1_ v2_ v3_ v4_ v5_ H_ => ih v1_ v2_ v3_ v4_ v5_ H_) FUEL v1 v2 v3 v5 (p4.1.len : Int) v4 v5 p5.1 (p5.1.len : Int) 0 p5.2
    · skip
      refine f_know 138 rfl (dec_false h1) ?_
      refine f_condF rfl ?_
      refine f_exit rfl ?_
      refine f_seq ?_
      refine f_region ?_
      refine f_op rfl rfl (s_mv (v := .ptr v1 v2) rfl) ?_
      refine f_op rfl rfl (s_mv (v := .int .i64 v3) rfl) ?_
      refine o_bind ?_; intro p6 hp6
      refine f_op rfl rfl (s_callF rfl ok10 (sim10 happ hp6)) ?_
      refine f_op rfl rfl (s_eql rfl rfl) ?_
      refine f_op rfl rfl (s_mv (v := .bool (decide (p6.1 = 2))) rfl) ?_
      refine o_if (fun h7 => ?_) (fun h7 => ?_)
      · skip
        refine o_know 192 rfl (dec_true h7) ?_
        refine f_op rfl rfl (s_mv (v := .ptr v1 v2) rfl) ?_
        refine o_bind ?_; intro p8 hp8
        refine f_op rfl rfl (s_callF rfl ok10 (sim10 happ hp8)) ?_
        refine f_op rfl rfl (s_eql rfl rfl) ?_
        refine f_op rfl rfl (s_pickT (v := .bool (decide (p8.1 = 2))) rfl rfl) ?_
        refine f_op rfl rfl (s_mv (v := .bool (decide (p8.1 = 2))) rfl) ?_
        refine o_if (fun h9 => ?_) (fun h9 => ?_)
        · skip
          refine o_know 197 rfl (dec_true h9) ?_
          refine o_bind ?_; intro p10 hp10
          refine o_bind ?_; intro x11 hx11
          refine f_op rfl rfl (s_callA happ rfl hp10) ?_
          refine o_know 198 rfl (asB_eq hx11) ?_
          refine f_op rfl rfl (s_pickT (v := .bool x11) rfl rfl) ?_
          refine f_op rfl rfl (s_as (v := .bool x11) rfl) ?_
          refine f_nil ?_
          exact f_ret (.tmp rfl (.nil)) rfl
        · skip
          refine o_know 197 rfl (dec_false h9) ?_
          refine f_no rfl rfl ?_
          refine f_op rfl rfl (s_pickF (v := .bool false) rfl rfl) ?_
          refine f_op rfl rfl (s_as (v := .bool false) rfl) ?_
          refine f_nil ?_
          exact f_ret (.tmp rfl (.nil)) rfl
      · skip
        refine o_know 192 rfl (dec_false h7) ?_
        refine f_no rfl rfl ?_
        refine f_no rfl rfl ?_
        refine f_no rfl rfl ?_
        refine f_op rfl rfl (s_pickF (v := .bool false) rfl rfl) ?_
        refine f_op rfl rfl (s_mv (v := .bool false) rfl) ?_
        refine f_no rfl rfl ?_
        refine f_op rfl rfl (s_pickF (v := .bool false) rfl rfl) ?_
        refine f_op rfl rfl (s_as (v := .bool false) rfl) ?_
        refine f_nil ?_
        exact f_ret (.tmp rfl (.nil)) rfl

theorem s4_l0 {app : App} (happ : AppSim Tryz.prog app) : ∀ (k_ : Nat) (v1 : Nat) (v2 : Nat) (v3 : Int) (v4 : Sl) (v5 : Int) (v6 : Int) (H : Hp), Fin Tryz.prog Tryz.f4 ret4 200 (todoAt (bodyOf Tryz.f4) [1, 1, 1, 0, 1, 0, 0] []) [(3, .ptr v1 v2), (4, .int .i64 v3), (20, .sl v4), (21, .int .i64 v5), (22, .int .i64 v6)] H (r4_l0 app k_ v1 v2 v3 v4 v5 v6 H) := by
  intro k_
  induction k_ with
  | zero => intro _ _ _ _ _ _ _; exact f_none
  | succ k_ ih =>
    intro v1 v2 v3 v4 v5 v6 H
    rw [r4_l0]
    refine f_seq ?_
    refine f_region ?_
    refine f_op rfl rfl (s_lss rfl rfl) ?_
    refine f_nil ?_
    refine f_seq ?_
    refine f_if (fun h1 => ?_) (fun h1 => ?_)
    · skip
      refine f_know 23 rfl (dec_true h1) ?_
      refine f_condT rfl ?_
      refine f_skip ?_
      refine f_seq ?_
      refine f_block ?_
      refine f_seq ?_
      refine f_region ?_
      refine o_ck fun g2 => ?_
      refine f_op rfl rfl (s_idx Tryz.underlying22 ty36 rfl rfl g2) ?_
      refine o_bind ?_; intro x3 hx3
      refine o_bind ?_; intro x4 hx4
      refine o_bind ?_; intro x5 hx5
      refine o_bind ?_; intro x6 hx6
      refine f_op rfl rfl (s_loads Tryz.underlying36 rfl ty36 rfl (lds_cons (ldI_eq hx3) (lds_cons (ldI_eq hx4) (lds_cons (ldI_eq hx5) (lds_cons (ldStr_eq hx6) (lds_nil)))))) ?_
      refine f_op rfl rfl (s_alloc (zs := [.int .i64 0, .int .i64 0, .int .i64 0, .str (ByteArray.mk #[])]) ty36 rfl rfl) ?_
      refine o_bind ?_; intro H7 hH7
      refine f_op rfl rfl (s_stores ty36 rfl rfl rfl rfl hH7 (Nat.le_of_eq (sts_mono hH7).symm)) ?_
      refine f_nil ?_
      refine f_seq ?_
      refine f_region ?_
      refine f_op rfl rfl (s_mv (v := .ptr v1 v2) rfl) ?_
      refine o_bind ?_; intro p8 hp8
      refine f_op rfl rfl (s_callF rfl ok15 (sim15 hp8)) ?_
      refine f_op rfl rfl (s_mv (v := .ptr v1 v2) rfl) ?_
      refine o_bind ?_; intro p9 hp9
      refine f_op rfl rfl (s_callF rfl ok16 (sim16 hp9)) ?_
      refine f_op rfl rfl (s_mv (v := .ptr v1 v2) rfl) ?_
      refine o_bind ?_; intro p10 hp10
      refine f_op rfl rfl (s_callF rfl ok17 (sim17 hp10)) ?_
      refine f_op rfl rfl (s_as (v := .int .i64 p8.1) rfl) ?_
      refine f_op rfl rfl (s_as (v := .sl p9.1) rfl) ?_
      refine f_op rfl rfl (s_as (v := .sl p10.1) rfl) ?_
      refine f_nil ?_
      refine f_seq ?_
      refine f_region ?_
      refine f_op rfl rfl (s_as (v := .int .i64 3) rfl) ?_
      refine f_nil ?_
      refine f_seq ?_
      refine f_seq ?_
      refine f_region ?_
      refine f_op rfl rfl (s_fieldAddr Tryz.underlying36 rfl ty3 rfl) ?_
      refine o_bind ?_; intro x11 hx11
      refine f_op rfl rfl (s_load Tryz.underlying3 rfl rfl (ldI_eq hx11)) ?_
      refine f_nil ?_
      refine f_block ?_
      refine f_seq ?_
      refine f_region ?_
      refine f_op rfl rfl (s_eql rfl rfl) ?_
      refine f_op rfl rfl (s_as (v := .bool (decide (x11 = 0))) rfl) ?_
      refine f_nil ?_
      refine f_if (fun h12 => ?_) (fun h12 => ?_)
      · skip
        refine f_know 34 rfl (dec_true h12) ?_
        refine f_condT rfl ?_
        refine f_region ?_
        refine f_op rfl rfl (s_mv (v := .ptr v1 v2) rfl) ?_
        refine f_op rfl rfl (s_fieldAddr Tryz.underlying36 rfl ty9 rfl) ?_
        refine o_bind ?_; intro x13 hx13
        refine f_op rfl rfl (s_load Tryz.underlying9 rfl rfl (ldStr_eq hx13)) ?_
        refine o_bind ?_; intro p14 hp14
        refine f_op rfl rfl (s_callF rfl ok18 (sim18 happ hp14)) ?_
        refine f_op rfl rfl (s_mv (v := .tup [.str p14.1.1, .int .i64 p14.1.2]) rfl) ?_
        refine f_op rfl rfl (s_extract (r := .str p14.1.1) rfl rfl) ?_
        refine f_op rfl rfl (s_extract (r := .int .i64 p14.1.2) rfl rfl) ?_
        refine f_op rfl rfl (s_as (v := .int .i64 p14.1.2) rfl) ?_
        refine f_nil ?_
        refine f_inBlock ?_
        refine f_keep [3, 4, 6, 7, 8, 9, 10, 20, 21, 22] ?_
        exact s4_j5 happ _ (fun v1_ v2_ v3_ v4_ v5_ v6_ H_ => ih v1_ v2_ v3_ v4_ v5_ v6_ H_) v1 v2 v3 H.n p8.1 p9.1 p10.1 p14.1.2 v4 v5 v6 p14.2
      · skip
        refine f_know 34 rfl (dec_false h12) ?_
        refine f_condF rfl ?_
        refine f_seq ?_
        refine f_region ?_
        refine f_op rfl rfl (s_eql rfl rfl) ?_
        refine f_op rfl rfl (s_as (v := .bool (decide (x11 = 2))) rfl) ?_
        refine f_nil ?_
        refine f_if (fun h15 => ?_) (fun h15 => ?_)
        · skip
          refine f_know 43 rfl (dec_true h15) ?_
          refine f_condT rfl ?_
          refine f_region ?_
          refine f_op rfl rfl (s_mv (v := .ptr v1 v2) rfl) ?_
          refine f_op rfl rfl (s_fieldAddr Tryz.underlying36 rfl ty3 rfl) ?_
          refine o_bind ?_; intro x16 hx16
          refine f_op rfl rfl (s_load Tryz.underlying3 rfl rfl (ldI_eq hx16)) ?_
          refine o_bind ?_; intro p17 hp17
          refine f_op rfl rfl (s_callF rfl ok10 (sim10 happ hp17)) ?_
          refine f_op rfl rfl (s_as (v := .int .i64 p17.1) rfl) ?_
          refine f_nil ?_
          refine f_inBlock ?_
          refine f_keep [3, 4, 6, 7, 8, 9, 10, 20, 21, 22] ?_
          exact s4_j5 happ _ (fun v1_ v2_ v3_ v4_ v5_ v6_ H_ => ih v1_ v2_ v3_ v4_ v5_ v6_ H_) v1 v2 v3 H.n p8.1 p9.1 p10.1 p17.1 v4 v5 v6 p17.2
        · skip
          refine f_know 43 rfl (dec_false h15) ?_
          refine f_condF rfl ?_
          refine f_seq ?_
          refine f_region ?_
          refine f_op rfl rfl (s_eql rfl rfl) ?_
          refine f_op rfl rfl (s_as (v := .bool (decide (x11 = 3))) rfl) ?_
          refine f_nil ?_
          refine f_if (fun h18 => ?_) (fun h18 => ?_)
          · skip
            refine f_know 49 rfl (dec_true h18) ?_
            refine f_condT rfl ?_
            refine f_region ?_
            refine f_op rfl rfl (s_mv (v := .ptr v1 v2) rfl) ?_
            refine f_op rfl rfl (s_fieldAddr Tryz.underlying36 rfl ty3 rfl) ?_
            refine o_bind ?_; intro x19 hx19
            refine f_op rfl rfl (s_load Tryz.underlying3 rfl rfl (ldI_eq hx19)) ?_
            refine o_bind ?_; intro p20 hp20
            refine f_op rfl rfl (s_callF rfl ok19 (sim19 hp20)) ?_
            refine f_op rfl rfl (s_as (v := .int .i64 p20.1) rfl) ?_
            refine f_nil ?_
            refine f_inBlock ?_
            refine f_keep [3, 4, 6, 7, 8, 9, 10, 20, 21, 22] ?_
            exact s4_j5 happ _ (fun v1_ v2_ v3_ v4_ v5_ v6_ H_ => ih v1_ v2_ v3_ v4_ v5_ v6_ H_) v1 v2 v3 H.n p8.1 p9.1 p10.1 p20.1 v4 v5 v6 p20.2
          · skip
            refine f_know 49 rfl (dec_false h18) ?_
            refine f_condF rfl ?_
            refine f_skip ?_
            refine f_inBlock ?_
            refine f_keep [3, 4, 6, 7, 8, 9, 10, 20, 21, 22] ?_
            exact s4_j5 happ _ (fun v1_ v2_ v3_ v4_ v5_ v6_ H_ => ih v1_ v2_ v3_ v4_ v5_ v6_ H_) v1 v2 v3 H.n p8.1 p9.1 p10.1 3 v4 v5 v6 p10.2
    · skip
      refine f_know 23 rfl (dec_false h1) ?_
      refine f_condF rfl ?_
      refine f_exit rfl ?_
      refine f_seq ?_
      refine f_seq ?_
      refine f_region ?_
      refine f_op rfl rfl (s_mv (v := .int .i64 v3) rfl) ?_
      refine f_op rfl rfl (s_mv (v := .int .i64 0) rfl) ?_
      refine f_nil ?_
      refine f_block ?_
      refine f_loop ?_
      refine f_keep [3, 4, 136, 137] ?_
      exact s4_l6 happ FUEL v1 v2 v3 v3 0 H

theorem sim4 {app : App} (happ : AppSim Tryz.prog app) {a0 : Sl} {H : Hp} {p : Bool × Hp} (h : r4 app a0 H = some p) : CallSim Tryz.prog 4 [.sl a0] H (.bool p.1) p.2 := by
  refine callSim (fn := Tryz.f4) (ret := ret4) Tryz.func4 rfl Tryz.ntmps4 rfl ?_ h
  unfold r4
  refine f_seq ?_
  refine f_region ?_
  refine f_op rfl rfl (s_as (v := .bool false) rfl) ?_
  refine f_nil ?_
  refine f_seq ?_
  refine f_region ?_
  refine o_bind ?_; intro p1 hp1
  refine f_op rfl rfl (s_callF rfl ok14 (sim14 hp1)) ?_
  refine f_op rfl rfl (s_as (v := .ptr p1.1.1 p1.1.2) rfl) ?_
  refine f_nil ?_
  refine f_seq ?_
  refine f_region ?_
  refine f_op rfl rfl (s_as (v := .int .i64 1) rfl) ?_
  refine f_nil ?_
  refine f_seq ?_
  refine f_seq ?_
  refine f_region ?_
  refine f_op rfl rfl (s_mv (v := .sl a0) rfl) ?_
  refine f_op rfl rfl (s_mv (v := .sl a0) rfl) ?_
  refine f_op rfl rfl (s_lenS rfl Tryz.underlying22 rfl) ?_
  refine f_op rfl rfl (s_min2 rfl rfl) ?_
  refine o_ck fun g2 => ?_
  refine f_op rfl rfl (s_slice Tryz.underlying22 ty36 rfl rfl rfl g2.1 g2.2) ?_
  refine f_op rfl rfl (s_lenS rfl Tryz.underlying22 rfl) ?_
  refine f_op rfl rfl (s_mv (v := .int .i64 0) rfl) ?_
  refine f_nil ?_
  refine f_block ?_
  refine f_loop ?_
  refine f_keep [3, 4, 20, 21, 22] ?_
  exact s4_l0 happ FUEL p1.1.1 p1.1.2 1 (a0.cut 4 (0 : Int).toNat ((if 40 < (a0.len : Int) then 40 else (a0.len : Int)) : Int).toNat) ((a0.cut 4 (0 : Int).toNat ((if 40 < (a0.len : Int) then 40 else (a0.len : Int)) : Int).toNat).len : Int) 0 p1.2

/- 41 (*congou/chest.Chest).has$1 -/
theorem ok41 : FnOk Tryz.prog 41 := ⟨⟨Tryz.f41, Tryz.func41, by kernel_rfl, rfl⟩⟩
theorem sim41 {a0 : Int} {c0 : Nat} {H : Hp} {p : Bool × Hp} (h : r41 a0 c0 H = some p) : CallSim Tryz.prog 41 [.int .i64 a0, .ptr c0 0] H (.bool p.1) p.2 := by
  refine callSim (fn := Tryz.f41) (ret := ret41) Tryz.func41 rfl Tryz.ntmps41 rfl ?_ h
  unfold r41
  refine f_seq ?_
  refine f_region ?_
  refine f_op rfl rfl (s_as (v := .bool false) rfl) ?_
  refine f_nil ?_
  refine f_seq ?_
  refine f_region ?_
  refine f_op rfl rfl (s_mv (v := .int .i64 a0) rfl) ?_
  refine f_op rfl rfl (s_lss rfl rfl) ?_
  refine f_op rfl rfl (s_mv (v := .bool (decide (a0 < 0))) rfl) ?_
  refine o_if (fun h1 => ?_) (fun h1 => ?_)
  · skip
    refine o_know 6 rfl (dec_true h1) ?_
    refine f_no rfl rfl ?_
    refine f_no rfl rfl ?_
    refine f_no rfl rfl ?_
    refine f_no rfl rfl ?_
    refine f_no rfl rfl ?_
    refine f_no rfl rfl ?_
    refine f_no rfl rfl ?_
    refine f_op rfl rfl (s_pickT (v := .bool true) rfl rfl) ?_
    refine f_op rfl rfl (s_as (v := .bool true) rfl) ?_
    refine f_nil ?_
    exact f_ret (.tmp rfl (.nil)) rfl
  · skip
    refine o_know 6 rfl (dec_false h1) ?_
    refine f_op rfl rfl (s_mv (v := .int .i64 a0) rfl) ?_
    refine o_bind ?_; intro x2 hx2
    refine f_op rfl rfl (s_load Tryz.underlying23 rfl rfl (ldP_eq hx2)) ?_
    refine f_op rfl rfl (s_nilCheck rfl) ?_
    refine f_op rfl rfl (s_fieldAddr Tryz.underlying56 rfl ty54 rfl) ?_
    refine o_bind ?_; intro x3 hx3
    refine f_op rfl rfl (s_load Tryz.underlying54 rfl rfl (ldSl_eq hx3)) ?_
    refine f_op rfl rfl (s_lenS rfl Tryz.underlying54 rfl) ?_
    refine f_op rfl rfl (s_geq rfl rfl) ?_
    refine f_op rfl rfl (s_pickF (v := .bool (decide ((x3.len : Int) ≤ a0))) rfl rfl) ?_
    refine f_op rfl rfl (s_as (v := .bool (decide ((x3.len : Int) ≤ a0))) rfl) ?_
    refine f_nil ?_
    exact f_ret (.tmp rfl (.nil)) rfl

/- 101 slices.IndexFunc[[]congou/chest.leaf,congou/chest.leaf] -/
theorem ok101 : FnOk Tryz.prog 101 := ⟨⟨Tryz.f101, Tryz.func101, by kernel_rfl, rfl⟩⟩
theorem s101_l0 {app : App} (happ : AppSim Tryz.prog app) : ∀ (k_ : Nat) (v1 : Sl) (v2 : AV) (v3 : Int) (v4 : Int) (H : Hp), Fin Tryz.prog Tryz.f101 ret101 19 (todoAt (bodyOf Tryz.f101) [1, 0, 1, 0, 0] []) [(0, .sl v1), (1, v2), (7, .int .i64 v3), (8, .int .i64 v4)] H (r101_l0 app k_ v1 v2 v3 v4 H) := by
  intro k_
  induction k_ with
  | zero => intro _ _ _ _ _; exact f_none
  | succ k_ ih =>
    intro v1 v2 v3 v4 H
    rw [r101_l0]
    refine f_seq ?_
    refine f_region ?_
    refine f_op rfl rfl (s_lss rfl rfl) ?_
    refine f_nil ?_
    refine f_seq ?_
    refine f_if (fun h1 => ?_) (fun h1 => ?_)
    · skip
      refine f_know 9 rfl (dec_true h1) ?_
      refine f_condT rfl ?_
      refine f_skip ?_
      refine f_seq ?_
      refine f_block ?_
      refine f_seq ?_
      refine f_region ?_
      refine f_op rfl rfl (s_mv (v := .int .i64 v4) rfl) ?_
      refine f_op rfl rfl (s_as (v := .int .i64 v4) rfl) ?_
      refine f_nil ?_
      refine f_seq ?_
      refine f_region ?_
      refine f_op rfl rfl (s_mv (v := v2) rfl) ?_
      refine f_op rfl rfl (s_mv (v := .sl v1) rfl) ?_
      refine f_op rfl rfl (s_mv (v := .int .i64 v4) rfl) ?_
      refine o_ck fun g2 => ?_
      refine f_op rfl rfl (s_idx Tryz.underlying64 ty93 rfl rfl g2) ?_
      refine o_bind ?_; intro x3 hx3
      refine o_bind ?_; intro x4 hx4
      refine f_op rfl rfl (s_loads Tryz.underlying93 rfl ty93 rfl (lds_cons (ldStr_eq hx3) (lds_cons (ldI_eq hx4) (lds_nil)))) ?_
      refine o_bind ?_; intro p5 hp5
      refine o_bind ?_; intro x6 hx6
      refine f_op rfl rfl (s_callv happ rfl rfl hp5) ?_
      refine o_know 16 rfl (asB_eq hx6) ?_
      refine f_nil ?_
      refine f_if (fun h7 => ?_) (fun h7 => ?_)
      · skip
        refine f_know 16 rfl (bool_T h7) ?_
        refine f_condT rfl ?_
        refine f_seq ?_
        refine f_region ?_
        refine f_op rfl rfl (s_mv (v := .int .i64 v4) rfl) ?_
        refine f_op rfl rfl (s_as (v := .int .i64 v4) rfl) ?_
        refine f_nil ?_
        exact f_ret (.tmp rfl (.nil)) rfl
      · skip
        refine f_know 16 rfl (bool_F h7) ?_
        refine f_condF rfl ?_
        refine f_skip ?_
        refine f_inBlock ?_
        refine f_region ?_
        refine f_op rfl rfl (s_add rfl rfl) ?_
        refine f_op rfl rfl (s_mv (v := .int .i64 (w64 (v4 + 1))) rfl) ?_
        refine f_nil ?_
        refine f_inLoop ?_
        refine f_keep [0, 1, 7, 8] ?_
        exact ih v1 v2 v3 (w64 (v4 + 1)) p5.2
    · skip
      refine f_know 9 rfl (dec_false h1) ?_
      refine f_condF rfl ?_
      refine f_exit rfl ?_
      refine f_seq ?_
      refine f_region ?_
      refine f_op rfl rfl (s_as (v := .int .i64 (-1)) rfl) ?_
      refine f_nil ?_
      exact f_ret (.tmp rfl (.nil)) rfl

theorem sim101 {app : App} (happ : AppSim Tryz.prog app) {a0 : Sl} {a1 : AV} {H : Hp} {p : Int × Hp} (h : r101 app a0 a1 H = some p) : CallSim Tryz.prog 101 [.sl a0, a1] H (.int .i64 p.1) p.2 := by
  refine callSim (fn := Tryz.f101) (ret := ret101) Tryz.func101 rfl Tryz.ntmps101 rfl ?_ h
  unfold r101
  refine f_seq ?_
  refine f_region ?_
  refine f_op rfl rfl (s_as (v := .int .i64 0) rfl) ?_
  refine f_nil ?_
  refine f_seq ?_
  refine f_seq ?_
  refine f_region ?_
  refine f_op rfl rfl (s_mv (v := .sl a0) rfl) ?_
  refine f_op rfl rfl (s_lenS rfl Tryz.underlying64 rfl) ?_
  refine f_op rfl rfl (s_mv (v := .int .i64 0) rfl) ?_
  refine f_nil ?_
  refine f_block ?_
  refine f_loop ?_
  refine f_keep [0, 1, 7, 8] ?_
  exact s101_l0 happ FUEL a0 a1 (a0.len : Int) 0 H

/- 75 (*congou/chest.state).find -/
theorem ok75 : FnOk Tryz.prog 75 := ⟨⟨Tryz.f75, Tryz.func75, by kernel_rfl, rfl⟩⟩
theorem sim75 {app : App} (happ : AppSim Tryz.prog app) {a0b : Nat} {a0o : Nat} {a1 : ByteArray} {H : Hp} {p : Int × Hp} (h : r75 app a0b a0o a1 H = some p) : CallSim Tryz.prog 75 [.ptr a0b a0o, .str a1] H (.int .i64 p.1) p.2 := by
  refine callSim (fn := Tryz.f75) (ret := ret75) Tryz.func75 rfl Tryz.ntmps75 rfl ?_ h
  unfold r75
  refine f_seq ?_
  refine f_region ?_
  refine f_op rfl rfl (s_box1 (v := .str a1) rfl rfl) ?_
  refine f_op rfl rfl (s_as (v := .int .i64 0) rfl) ?_
  refine o_hp ?_; intro H1 hH1
  refine f_nil ?_
  refine f_seq ?_
  refine f_region ?_
  refine f_op rfl rfl (s_mv (v := .ptr a0b a0o) rfl) ?_
  refine f_op rfl rfl (s_nilCheck rfl) ?_
  refine f_op rfl rfl (s_fieldAddr Tryz.underlying69 rfl ty64 rfl) ?_
  refine o_bind ?_; intro x2 hx2
  refine f_op rfl rfl (s_load Tryz.underlying64 rfl rfl (ldSl_eq hx2)) ?_
  refine f_op rfl rfl (s_makeFunc rfl rfl) ?_
  refine o_bind ?_; intro p3 hp3
  refine f_op rfl rfl (s_callF rfl ok101 (sim101 happ hp3)) ?_
  refine f_op rfl rfl (s_as (v := .int .i64 p3.1) rfl) ?_
  refine f_nil ?_
  exact f_ret (.tmp rfl (.nil)) rfl

end Go.Lt.P10
