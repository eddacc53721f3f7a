/- PRINTED BY A PROGRAM OF OURS: what each function that 'CutsMoved' reaches computes on the abstract heap, and that the translated code does just that. Nothing is asked of the input. -/
import Derived.Test.YteefkljbmjjncaaG16P6
set_option linter.unusedVariables false
set_option linter.unusedSimpArgs false
set_option maxRecDepth 100000
set_option maxHeartbeats 4000000
namespace Go.Lt.P2
open Go Go.Lt Go.Proofs
/- 108 slices.pdqsortCmpFunc[congou/cuts.Point] -/
theorem ok108 : FnOk Try.prog 108 := ⟨⟨Try.f108, Try.func108, by kernel_rfl, rfl⟩⟩
theorem s108_j1 {app : App} (happ : AppSim Try.prog app) (kt0 : Sl → Int → Int → Int → AV → Bool → Bool → Hp → Option (Unit × Hp)) (hkt0 : ∀ (v1 : Sl) (v2 : Int) (v3 : Int) (v4 : Int) (v5 : AV) (v6 : Bool) (v7 : Bool) (H : Hp), Fin Try.prog Try.f108 ret108 148 (todoAt (bodyOf Try.f108) [1, 1, 0, 0] []) [(0, .sl v1), (1, .int .i64 v2), (2, .int .i64 v3), (3, .int .i64 v4), (4, v5), (10, .bool v6), (11, .bool v7)] H (kt0 v1 v2 v3 v4 v5 v6 v7 H)) (v1 : Sl) (v2 : Int) (v3 : Int) (v4 : Int) (v5 : AV) (v6 : Bool) (v7 : Bool) (v8 : Int) (v9 : Int) (v10 : Bool) (H : Hp) : Fin Try.prog Try.f108 ret108 148 (todoAt (bodyOf Try.f108) [1, 1, 0, 0, 0, 1, 1, 1, 1, 1, 1, 1, 0, 1] []) [(0, .sl v1), (1, .int .i64 v2), (2, .int .i64 v3), (3, .int .i64 v4), (4, v5), (10, .bool v6), (11, .bool v7), (12, .int .i64 v8), (13, .int .i64 v9), (97, .bool v10)] H (r108_j1 app kt0 v1 v2 v3 v4 v5 v6 v7 v8 v9 v10 H) := by
  unfold r108_j1
  refine f_if (fun h1 => ?_) (fun h1 => ?_)
  · skip
    refine f_know 97 rfl (bool_T h1) ?_
    refine f_condT rfl ?_
    refine f_seq ?_
    refine f_region ?_
    refine f_op rfl rfl (s_mv (v := .sl v1) rfl) ?_
    refine f_op rfl rfl (s_mv (v := .int .i64 v2) rfl) ?_
    refine f_op rfl rfl (s_mv (v := .int .i64 v3) rfl) ?_
    refine f_op rfl rfl (s_mv (v := .int .i64 v9) rfl) ?_
    refine f_op rfl rfl (s_mv (v := v5) rfl) ?_
    refine o_bind ?_; intro p2 hp2
    refine f_op rfl rfl (s_callF rfl ok120 (sim120 happ hp2)) ?_
    refine f_op rfl rfl (s_as (v := .int .i64 p2.1) rfl) ?_
    refine f_nil ?_
    refine f_seq ?_
    refine f_region ?_
    refine f_op rfl rfl (s_mv (v := .int .i64 p2.1) rfl) ?_
    refine f_op rfl rfl (s_as (v := .int .i64 p2.1) rfl) ?_
    refine f_nil ?_
    refine f_exit rfl ?_
    refine f_inLoop ?_
    refine f_keep [0, 1, 2, 3, 4, 10, 11] ?_
    exact hkt0 v1 p2.1 v3 v4 v5 v6 v7 p2.2
  · skip
    refine f_know 97 rfl (bool_F h1) ?_
    refine f_condF rfl ?_
    refine f_skip ?_
    refine f_seq ?_
    refine f_region ?_
    refine f_op rfl rfl (s_mv (v := .sl v1) rfl) ?_
    refine f_op rfl rfl (s_mv (v := .int .i64 v2) rfl) ?_
    refine f_op rfl rfl (s_mv (v := .int .i64 v3) rfl) ?_
    refine f_op rfl rfl (s_mv (v := .int .i64 v9) rfl) ?_
    refine f_op rfl rfl (s_mv (v := v5) rfl) ?_
    refine o_bind ?_; intro p3 hp3
    refine f_op rfl rfl (s_callF rfl ok121 (sim121 happ hp3)) ?_
    refine f_op rfl rfl (s_mv (v := .tup [.int .i64 p3.1.1, .bool p3.1.2]) rfl) ?_
    refine f_op rfl rfl (s_extract (r := .int .i64 p3.1.1) rfl rfl) ?_
    refine f_op rfl rfl (s_extract (r := .bool p3.1.2) rfl rfl) ?_
    refine f_op rfl rfl (s_as (v := .int .i64 p3.1.1) rfl) ?_
    refine f_op rfl rfl (s_as (v := .bool p3.1.2) rfl) ?_
    refine f_nil ?_
    refine f_seq ?_
    refine f_region ?_
    refine f_op rfl rfl (s_mv (v := .bool p3.1.2) rfl) ?_
    refine f_op rfl rfl (s_as (v := .bool p3.1.2) rfl) ?_
    refine f_nil ?_
    refine f_seq ?_
    refine f_region ?_
    refine f_op rfl rfl (s_mv (v := .int .i64 p3.1.1) rfl) ?_
    refine f_op rfl rfl (s_mv (v := .int .i64 v2) rfl) ?_
    refine f_op rfl rfl (s_sub rfl rfl) ?_
    refine f_op rfl rfl (s_mv (v := .int .i64 v3) rfl) ?_
    refine f_op rfl rfl (s_mv (v := .int .i64 p3.1.1) rfl) ?_
    refine f_op rfl rfl (s_sub rfl rfl) ?_
    refine f_op rfl rfl (s_as (v := .int .i64 (w64 (p3.1.1 - v2))) rfl) ?_
    refine f_op rfl rfl (s_as (v := .int .i64 (w64 (v3 - p3.1.1))) rfl) ?_
    refine f_nil ?_
    refine f_seq ?_
    refine f_region ?_
    refine f_op rfl rfl (s_mv (v := .int .i64 v8) rfl) ?_
    refine f_op rfl rfl (s_quo rfl rfl (by decide)) ?_
    refine f_op rfl rfl (s_as (v := .int .i64 (w64 (Int.tdiv v8 8))) rfl) ?_
    refine f_nil ?_
    refine f_seq ?_
    refine f_region ?_
    refine f_op rfl rfl (s_mv (v := .int .i64 (w64 (p3.1.1 - v2))) rfl) ?_
    refine f_op rfl rfl (s_mv (v := .int .i64 (w64 (v3 - p3.1.1))) rfl) ?_
    refine f_op rfl rfl (s_lss rfl rfl) ?_
    refine f_nil ?_
    refine f_if (fun h4 => ?_) (fun h4 => ?_)
    · skip
      refine f_know 125 rfl (dec_true h4) ?_
      refine f_condT rfl ?_
      refine f_seq ?_
      refine f_region ?_
      refine f_op rfl rfl (s_mv (v := .int .i64 (w64 (p3.1.1 - v2))) rfl) ?_
      refine f_op rfl rfl (s_mv (v := .int .i64 (w64 (Int.tdiv v8 8))) rfl) ?_
      refine f_op rfl rfl (s_geq rfl rfl) ?_
      refine f_op rfl rfl (s_as (v := .bool (decide ((w64 (Int.tdiv v8 8)) ≤ (w64 (p3.1.1 - v2))))) rfl) ?_
      refine f_nil ?_
      refine f_seq ?_
      refine f_region ?_
      refine f_op rfl rfl (s_mv (v := .sl v1) rfl) ?_
      refine f_op rfl rfl (s_mv (v := .int .i64 v2) rfl) ?_
      refine f_op rfl rfl (s_mv (v := .int .i64 p3.1.1) rfl) ?_
      refine f_op rfl rfl (s_mv (v := .int .i64 v4) rfl) ?_
      refine f_op rfl rfl (s_mv (v := v5) rfl) ?_
      refine o_bind ?_; intro p5 hp5
      refine f_op rfl rfl (s_callA happ rfl hp5) ?_
      refine f_nil ?_
      refine f_region ?_
      refine f_op rfl rfl (s_mv (v := .int .i64 p3.1.1) rfl) ?_
      refine f_op rfl rfl (s_add rfl rfl) ?_
      refine f_op rfl rfl (s_as (v := .int .i64 (w64 (p3.1.1 + 1))) rfl) ?_
      refine f_nil ?_
      refine f_inBlock ?_
      refine f_inLoop ?_
      refine f_keep [0, 1, 2, 3, 4, 10, 11] ?_
      exact hkt0 v1 (w64 (p3.1.1 + 1)) v3 v4 v5 (decide ((w64 (Int.tdiv v8 8)) ≤ (w64 (p3.1.1 - v2)))) p3.1.2 p5.2
    · skip
      refine f_know 125 rfl (dec_false h4) ?_
      refine f_condF rfl ?_
      refine f_seq ?_
      refine f_region ?_
      refine f_op rfl rfl (s_mv (v := .int .i64 (w64 (v3 - p3.1.1))) rfl) ?_
      refine f_op rfl rfl (s_mv (v := .int .i64 (w64 (Int.tdiv v8 8))) rfl) ?_
      refine f_op rfl rfl (s_geq rfl rfl) ?_
      refine f_op rfl rfl (s_as (v := .bool (decide ((w64 (Int.tdiv v8 8)) ≤ (w64 (v3 - p3.1.1))))) rfl) ?_
      refine f_nil ?_
      refine f_seq ?_
      refine f_region ?_
      refine f_op rfl rfl (s_mv (v := .sl v1) rfl) ?_
      refine f_op rfl rfl (s_mv (v := .int .i64 p3.1.1) rfl) ?_
      refine f_op rfl rfl (s_add rfl rfl) ?_
      refine f_op rfl rfl (s_mv (v := .int .i64 v3) rfl) ?_
      refine f_op rfl rfl (s_mv (v := .int .i64 v4) rfl) ?_
      refine f_op rfl rfl (s_mv (v := v5) rfl) ?_
      refine o_bind ?_; intro p6 hp6
      refine f_op rfl rfl (s_callA happ rfl hp6) ?_
      refine f_nil ?_
      refine f_region ?_
      refine f_op rfl rfl (s_mv (v := .int .i64 p3.1.1) rfl) ?_
      refine f_op rfl rfl (s_as (v := .int .i64 p3.1.1) rfl) ?_
      refine f_nil ?_
      refine f_inBlock ?_
      refine f_inLoop ?_
      refine f_keep [0, 1, 2, 3, 4, 10, 11] ?_
      exact hkt0 v1 v2 p3.1.1 v4 v5 (decide ((w64 (Int.tdiv v8 8)) ≤ (w64 (v3 - p3.1.1)))) p3.1.2 p6.2

theorem s108_j2 {app : App} (happ : AppSim Try.prog app) (kt0 : Sl → Int → Int → Int → AV → Bool → Bool → Hp → Option (Unit × Hp)) (hkt0 : ∀ (v1 : Sl) (v2 : Int) (v3 : Int) (v4 : Int) (v5 : AV) (v6 : Bool) (v7 : Bool) (H : Hp), Fin Try.prog Try.f108 ret108 148 (todoAt (bodyOf Try.f108) [1, 1, 0, 0] []) [(0, .sl v1), (1, .int .i64 v2), (2, .int .i64 v3), (3, .int .i64 v4), (4, v5), (10, .bool v6), (11, .bool v7)] H (kt0 v1 v2 v3 v4 v5 v6 v7 H)) (v1 : Sl) (v2 : Int) (v3 : Int) (v4 : Int) (v5 : AV) (v6 : Bool) (v7 : Bool) (v8 : Int) (v9 : Int) (H : Hp) : Fin Try.prog Try.f108 ret108 148 (todoAt (bodyOf Try.f108) [1, 1, 0, 0, 0, 1, 1, 1, 1, 1, 1, 1] []) [(0, .sl v1), (1, .int .i64 v2), (2, .int .i64 v3), (3, .int .i64 v4), (4, v5), (10, .bool v6), (11, .bool v7), (12, .int .i64 v8), (13, .int .i64 v9)] H (r108_j2 app kt0 v1 v2 v3 v4 v5 v6 v7 v8 v9 H) := by
  unfold r108_j2
  refine f_seq ?_
  refine f_seq ?_
  refine f_if (fun h1 => ?_) (fun h1 => ?_)
  · skip
    refine f_ck fun g2 => ?_
    refine f_bind ?_; intro x3 hx3
    refine f_bind ?_; intro x4 hx4
    refine f_bind ?_; intro x5 hx5
    refine f_bind ?_; intro x6 hx6
    refine f_ck fun g7 => ?_
    refine f_bind ?_; intro x8 hx8
    refine f_bind ?_; intro x9 hx9
    refine f_bind ?_; intro x10 hx10
    refine f_bind ?_; intro x11 hx11
    refine f_bind ?_; intro p12 hp12
    refine f_bind ?_; intro x13 hx13
    refine f_draw (Φ := fun _ => True) (lim := 1000000) [0, 0, 0, 0, 0, 0, 0, 0, 1, 0, 0, 0, 1, 2, 0, 0, 0] (Trc.pure rfl rfl rfl (.inl fun _ => s_mv (v := .int .i64 v2) rfl) (Trc.pure rfl rfl rfl (.inl fun _ => s_gtr rfl rfl) (Trc.pure rfl rfl rfl (.inl fun _ => s_mv (v := .bool (decide (0 < v2))) rfl) (Trc.know 83 rfl (dec_true h1) (Trc.pure rfl rfl rfl (.inl fun _ => s_mv (v := v5) rfl) (Trc.pure rfl rfl rfl (.inl fun _ => s_mv (v := .sl v1) rfl) (Trc.pure rfl rfl rfl (.inl fun _ => s_mv (v := .int .i64 v2) rfl) (Trc.pure rfl rfl rfl (.inl fun _ => s_sub rfl rfl) (Trc.pure rfl rfl rfl (.inl fun _ => s_idx Try.underlying83 ty32 rfl rfl g2) (Trc.read rfl rfl rfl (s_loads Try.underlying32 rfl ty32 rfl (lds_cons (ldI_eq hx3) (lds_cons (ldI_eq hx4) (lds_cons (ldI_eq hx5) (lds_cons (ldI_eq hx6) (lds_nil)))))) (Trc.pure rfl rfl rfl (.inl fun _ => s_mv (v := .sl v1) rfl) (Trc.pure rfl rfl rfl (.inl fun _ => s_mv (v := .int .i64 v9) rfl) (Trc.pure rfl rfl rfl (.inl fun _ => s_idx Try.underlying83 ty32 rfl rfl g7) (Trc.read rfl rfl rfl (s_loads Try.underlying32 rfl ty32 rfl (lds_cons (ldI_eq hx8) (lds_cons (ldI_eq hx9) (lds_cons (ldI_eq hx10) (lds_cons (ldI_eq hx11) (lds_nil)))))) (Trc.eff rfl rfl rfl (fun _ => trivial) (s_callv happ rfl rfl hp12) (Trc.know 94 rfl (asI_eq hx13) (Trc.pure rfl rfl rfl (.inl fun _ => s_lss rfl rfl) (Trc.pure rfl rfl rfl (.inl fun _ => s_not rfl) (Trc.pure rfl rfl rfl (.inl fun _ => s_pickT (v := .bool (!(decide (x13 < 0)))) rfl rfl) (Trc.nil (fun _ => trivial))))))))))))))))))))) rfl (by decide +kernel) mixed ?_
    refine f_keep [0, 1, 2, 3, 4, 10, 11, 12, 13, 97] ?_
    exact s108_j1 happ _ hkt0 v1 v2 v3 v4 v5 v6 v7 v8 v9 (!(decide (x13 < 0))) p12.2
  · skip
    refine f_draw (Φ := fun _ => True) (lim := 1000000) [0, 0, 0, 0, 0, 0, 0, 0, 0, 0, 0, 0, 0, 0, 0, 0, 0] (Trc.pure rfl rfl rfl (.inl fun _ => s_mv (v := .int .i64 v2) rfl) (Trc.pure rfl rfl rfl (.inl fun _ => s_gtr rfl rfl) (Trc.pure rfl rfl rfl (.inl fun _ => s_mv (v := .bool (decide (0 < v2))) rfl) (Trc.know 83 rfl (dec_false h1) (Trc.no rfl rfl rfl (Trc.no rfl rfl rfl (Trc.no rfl rfl rfl (Trc.no rfl rfl rfl (Trc.no rfl rfl rfl (Trc.no rfl rfl rfl (Trc.no rfl rfl rfl (Trc.no rfl rfl rfl (Trc.no rfl rfl rfl (Trc.no rfl rfl rfl (Trc.no rfl rfl rfl (Trc.no rfl rfl rfl (Trc.no rfl rfl rfl (Trc.pure rfl rfl rfl (.inl fun _ => s_pickF (v := .bool false) rfl rfl) (Trc.nil (fun _ => trivial)))))))))))))))))))) rfl (by decide +kernel) mixed ?_
    refine f_keep [0, 1, 2, 3, 4, 10, 11, 12, 13, 97] ?_
    exact s108_j1 happ _ hkt0 v1 v2 v3 v4 v5 v6 v7 v8 v9 false H

theorem s108_j3 {app : App} (happ : AppSim Try.prog app) (kt0 : Sl → Int → Int → Int → AV → Bool → Bool → Hp → Option (Unit × Hp)) (hkt0 : ∀ (v1 : Sl) (v2 : Int) (v3 : Int) (v4 : Int) (v5 : AV) (v6 : Bool) (v7 : Bool) (H : Hp), Fin Try.prog Try.f108 ret108 148 (todoAt (bodyOf Try.f108) [1, 1, 0, 0] []) [(0, .sl v1), (1, .int .i64 v2), (2, .int .i64 v3), (3, .int .i64 v4), (4, v5), (10, .bool v6), (11, .bool v7)] H (kt0 v1 v2 v3 v4 v5 v6 v7 H)) (v1 : Sl) (v2 : Int) (v3 : Int) (v4 : Int) (v5 : AV) (v6 : Bool) (v7 : Bool) (v8 : Int) (v9 : Int) (v10 : Bool) (H : Hp) : Fin Try.prog Try.f108 ret108 148 (todoAt (bodyOf Try.f108) [1, 1, 0, 0, 0, 1, 1, 1, 1, 1, 1, 0, 1] []) [(0, .sl v1), (1, .int .i64 v2), (2, .int .i64 v3), (3, .int .i64 v4), (4, v5), (10, .bool v6), (11, .bool v7), (12, .int .i64 v8), (13, .int .i64 v9), (75, .bool v10)] H (r108_j3 app kt0 v1 v2 v3 v4 v5 v6 v7 v8 v9 v10 H) := by
  unfold r108_j3
  refine f_if (fun h1 => ?_) (fun h1 => ?_)
  · skip
    refine f_know 75 rfl (bool_T h1) ?_
    refine f_condT rfl ?_
    refine f_seq ?_
    refine f_region ?_
    refine f_op rfl rfl (s_mv (v := .sl v1) rfl) ?_
    refine f_op rfl rfl (s_mv (v := .int .i64 v2) rfl) ?_
    refine f_op rfl rfl (s_mv (v := .int .i64 v3) rfl) ?_
    refine f_op rfl rfl (s_mv (v := v5) rfl) ?_
    refine o_bind ?_; intro p2 hp2
    refine f_op rfl rfl (s_callF rfl ok119 (sim119 happ hp2)) ?_
    refine f_nil ?_
    refine f_if (fun h3 => ?_) (fun h3 => ?_)
    · skip
      refine f_know 80 rfl (bool_T h3) ?_
      refine f_condT rfl ?_
      exact f_ret (.nil) rfl
    · skip
      refine f_know 80 rfl (bool_F h3) ?_
      refine f_condF rfl ?_
      refine f_skip ?_
      refine f_keep [0, 1, 2, 3, 4, 10, 11, 12, 13] ?_
      exact s108_j2 happ _ hkt0 v1 v2 v3 v4 v5 v6 v7 v8 v9 p2.2
  · skip
    refine f_know 75 rfl (bool_F h1) ?_
    refine f_condF rfl ?_
    refine f_skip ?_
    refine f_keep [0, 1, 2, 3, 4, 10, 11, 12, 13] ?_
    exact s108_j2 happ _ hkt0 v1 v2 v3 v4 v5 v6 v7 v8 v9 H

theorem s108_j4 {app : App} (happ : AppSim Try.prog app) (kt0 : Sl → Int → Int → Int → AV → Bool → Bool → Hp → Option (Unit × Hp)) (hkt0 : ∀ (v1 : Sl) (v2 : Int) (v3 : Int) (v4 : Int) (v5 : AV) (v6 : Bool) (v7 : Bool) (H : Hp), Fin Try.prog Try.f108 ret108 148 (todoAt (bodyOf Try.f108) [1, 1, 0, 0] []) [(0, .sl v1), (1, .int .i64 v2), (2, .int .i64 v3), (3, .int .i64 v4), (4, v5), (10, .bool v6), (11, .bool v7)] H (kt0 v1 v2 v3 v4 v5 v6 v7 H)) (v1 : Sl) (v2 : Int) (v3 : Int) (v4 : Int) (v5 : AV) (v6 : Bool) (v7 : Bool) (v8 : Int) (v9 : Int) (v10 : Int) (H : Hp) : Fin Try.prog Try.f108 ret108 148 (todoAt (bodyOf Try.f108) [1, 1, 0, 0, 0, 1, 1, 1, 1, 1, 1] []) [(0, .sl v1), (1, .int .i64 v2), (2, .int .i64 v3), (3, .int .i64 v4), (4, v5), (10, .bool v6), (11, .bool v7), (12, .int .i64 v8), (13, .int .i64 v9), (14, .int .i64 v10)] H (r108_j4 app kt0 v1 v2 v3 v4 v5 v6 v7 v8 v9 v10 H) := by
  unfold r108_j4
  refine f_seq ?_
  refine f_seq ?_
  refine f_region ?_
  refine f_op rfl rfl (s_mv (v := .bool v6) rfl) ?_
  refine f_op rfl rfl (s_mv (v := .bool v6) rfl) ?_
  refine o_if (fun h1 => ?_) (fun h1 => ?_)
  · skip
    refine o_know 69 rfl (bool_T h1) ?_
    refine f_op rfl rfl (s_mv (v := .bool v7) rfl) ?_
    refine f_op rfl rfl (s_pickT (v := .bool v7) rfl rfl) ?_
    refine f_op rfl rfl (s_mv (v := .bool v7) rfl) ?_
    refine o_if (fun h2 => ?_) (fun h2 => ?_)
    · skip
      refine o_know 72 rfl (bool_T h2) ?_
      refine f_op rfl rfl (s_mv (v := .int .i64 v10) rfl) ?_
      refine f_op rfl rfl (s_eql rfl rfl) ?_
      refine f_op rfl rfl (s_pickT (v := .bool (decide (v10 = 1))) rfl rfl) ?_
      refine f_nil ?_
      refine f_know 10 rfl (bool_T h1) ?_
      refine f_know 11 rfl (bool_T h2) ?_
      refine f_keep [0, 1, 2, 3, 4, 10, 11, 12, 13, 75] ?_
      exact s108_j3 happ _ hkt0 v1 v2 v3 v4 v5 true true v8 v9 (decide (v10 = 1)) H
    · skip
      refine o_know 72 rfl (bool_F h2) ?_
      refine f_no rfl rfl ?_
      refine f_no rfl rfl ?_
      refine f_op rfl rfl (s_pickF (v := .bool false) rfl rfl) ?_
      refine f_nil ?_
      refine f_know 10 rfl (bool_T h1) ?_
      refine f_know 11 rfl (bool_F h2) ?_
      refine f_keep [0, 1, 2, 3, 4, 10, 11, 12, 13, 75] ?_
      exact s108_j3 happ _ hkt0 v1 v2 v3 v4 v5 true false v8 v9 false H
  · skip
    refine o_know 69 rfl (bool_F h1) ?_
    refine f_no rfl rfl ?_
    refine f_op rfl rfl (s_pickF (v := .bool false) rfl rfl) ?_
    refine f_op rfl rfl (s_mv (v := .bool false) rfl) ?_
    refine f_no rfl rfl ?_
    refine f_no rfl rfl ?_
    refine f_op rfl rfl (s_pickF (v := .bool false) rfl rfl) ?_
    refine f_nil ?_
    refine f_know 10 rfl (bool_F h1) ?_
    refine f_keep [0, 1, 2, 3, 4, 10, 11, 12, 13, 75] ?_
    exact s108_j3 happ _ hkt0 v1 v2 v3 v4 v5 false v7 v8 v9 false H

theorem s108_j5 {app : App} (happ : AppSim Try.prog app) (kt0 : Sl → Int → Int → Int → AV → Bool → Bool → Hp → Option (Unit × Hp)) (hkt0 : ∀ (v1 : Sl) (v2 : Int) (v3 : Int) (v4 : Int) (v5 : AV) (v6 : Bool) (v7 : Bool) (H : Hp), Fin Try.prog Try.f108 ret108 148 (todoAt (bodyOf Try.f108) [1, 1, 0, 0] []) [(0, .sl v1), (1, .int .i64 v2), (2, .int .i64 v3), (3, .int .i64 v4), (4, v5), (10, .bool v6), (11, .bool v7)] H (kt0 v1 v2 v3 v4 v5 v6 v7 H)) (v1 : Sl) (v2 : Int) (v3 : Int) (v4 : Int) (v5 : AV) (v6 : Bool) (v7 : Bool) (v8 : Int) (H : Hp) : Fin Try.prog Try.f108 ret108 148 (todoAt (bodyOf Try.f108) [1, 1, 0, 0, 0, 1, 1, 1, 1] []) [(0, .sl v1), (1, .int .i64 v2), (2, .int .i64 v3), (3, .int .i64 v4), (4, v5), (10, .bool v6), (11, .bool v7), (12, .int .i64 v8)] H (r108_j5 app kt0 v1 v2 v3 v4 v5 v6 v7 v8 H) := by
  unfold r108_j5
  refine f_seq ?_
  refine f_region ?_
  refine f_op rfl rfl (s_mv (v := .sl v1) rfl) ?_
  refine f_op rfl rfl (s_mv (v := .int .i64 v2) rfl) ?_
  refine f_op rfl rfl (s_mv (v := .int .i64 v3) rfl) ?_
  refine f_op rfl rfl (s_mv (v := v5) rfl) ?_
  refine o_bind ?_; intro p1 hp1
  refine f_op rfl rfl (s_callF rfl ok117 (sim117 happ hp1)) ?_
  refine f_op rfl rfl (s_mv (v := .tup [.int .i64 p1.1.1, .int .i64 p1.1.2]) rfl) ?_
  refine f_op rfl rfl (s_extract (r := .int .i64 p1.1.1) rfl rfl) ?_
  refine f_op rfl rfl (s_extract (r := .int .i64 p1.1.2) rfl rfl) ?_
  refine f_op rfl rfl (s_as (v := .int .i64 p1.1.1) rfl) ?_
  refine f_op rfl rfl (s_as (v := .int .i64 p1.1.2) rfl) ?_
  refine f_nil ?_
  refine f_seq ?_
  refine f_seq ?_
  refine f_region ?_
  refine f_op rfl rfl (s_mv (v := .int .i64 p1.1.2) rfl) ?_
  refine f_op rfl rfl (s_eql rfl rfl) ?_
  refine f_nil ?_
  refine f_if (fun h2 => ?_) (fun h2 => ?_)
  · skip
    refine f_know 56 rfl (dec_true h2) ?_
    refine f_condT rfl ?_
    refine f_seq ?_
    refine f_region ?_
    refine f_op rfl rfl (s_mv (v := .sl v1) rfl) ?_
    refine f_op rfl rfl (s_mv (v := .int .i64 v2) rfl) ?_
    refine f_op rfl rfl (s_mv (v := .int .i64 v3) rfl) ?_
    refine f_op rfl rfl (s_mv (v := v5) rfl) ?_
    refine o_bind ?_; intro p3 hp3
    refine f_op rfl rfl (s_callF rfl ok118 (sim118 hp3)) ?_
    refine f_nil ?_
    refine f_seq ?_
    refine f_region ?_
    refine f_op rfl rfl (s_mv (v := .int .i64 v3) rfl) ?_
    refine f_op rfl rfl (s_sub rfl rfl) ?_
    refine f_op rfl rfl (s_mv (v := .int .i64 p1.1.1) rfl) ?_
    refine f_op rfl rfl (s_mv (v := .int .i64 v2) rfl) ?_
    refine f_op rfl rfl (s_sub rfl rfl) ?_
    refine f_op rfl rfl (s_sub rfl rfl) ?_
    refine f_op rfl rfl (s_as (v := .int .i64 (w64 ((w64 (v3 - 1)) - (w64 (p1.1.1 - v2))))) rfl) ?_
    refine f_nil ?_
    refine f_region ?_
    refine f_op rfl rfl (s_as (v := .int .i64 1) rfl) ?_
    refine f_nil ?_
    refine f_keep [0, 1, 2, 3, 4, 10, 11, 12, 13, 14] ?_
    exact s108_j4 happ _ hkt0 v1 v2 v3 v4 v5 v6 v7 v8 (w64 ((w64 (v3 - 1)) - (w64 (p1.1.1 - v2)))) 1 p3.2
  · skip
    refine f_know 56 rfl (dec_false h2) ?_
    refine f_condF rfl ?_
    refine f_skip ?_
    refine f_keep [0, 1, 2, 3, 4, 10, 11, 12, 13, 14] ?_
    exact s108_j4 happ _ hkt0 v1 v2 v3 v4 v5 v6 v7 v8 p1.1.1 p1.1.2 p1.2

theorem s108_l0 {app : App} (happ : AppSim Try.prog app) : ∀ (k_ : Nat) (v1 : Sl) (v2 : Int) (v3 : Int) (v4 : Int) (v5 : AV) (v6 : Bool) (v7 : Bool) (H : Hp), Fin Try.prog Try.f108 ret108 148 (todoAt (bodyOf Try.f108) [1, 1, 0, 0] []) [(0, .sl v1), (1, .int .i64 v2), (2, .int .i64 v3), (3, .int .i64 v4), (4, v5), (10, .bool v6), (11, .bool v7)] H (r108_l0 app k_ v1 v2 v3 v4 v5 v6 v7 H) := by
  intro k_
  induction k_ with
  | zero => intro _ _ _ _ _ _ _ _; exact f_none
  | succ k_ ih =>
    intro v1 v2 v3 v4 v5 v6 v7 H
    rw [r108_l0]
    refine f_block ?_
    refine f_seq ?_
    refine f_region ?_
    refine f_op rfl rfl (s_mv (v := .int .i64 v3) rfl) ?_
    refine f_op rfl rfl (s_mv (v := .int .i64 v2) rfl) ?_
    refine f_op rfl rfl (s_sub rfl rfl) ?_
    refine f_op rfl rfl (s_as (v := .int .i64 (w64 (v3 - v2))) rfl) ?_
    refine f_nil ?_
    refine f_seq ?_
    refine f_seq ?_
    refine f_region ?_
    refine f_op rfl rfl (s_mv (v := .int .i64 (w64 (v3 - v2))) rfl) ?_
    refine f_op rfl rfl (s_leq rfl rfl) ?_
    refine f_nil ?_
    refine f_if (fun h1 => ?_) (fun h1 => ?_)
    · skip
      refine f_know 25 rfl (dec_true h1) ?_
      refine f_condT rfl ?_
      refine f_seq ?_
      refine f_region ?_
      refine f_op rfl rfl (s_mv (v := .sl v1) rfl) ?_
      refine f_op rfl rfl (s_mv (v := .int .i64 v2) rfl) ?_
      refine f_op rfl rfl (s_mv (v := .int .i64 v3) rfl) ?_
      refine f_op rfl rfl (s_mv (v := v5) rfl) ?_
      refine o_bind ?_; intro p2 hp2
      refine f_op rfl rfl (s_callF rfl ok114 (sim114 happ hp2)) ?_
      refine f_nil ?_
      exact f_ret (.nil) rfl
    · skip
      refine f_know 25 rfl (dec_false h1) ?_
      refine f_condF rfl ?_
      refine f_skip ?_
      refine f_seq ?_
      refine f_seq ?_
      refine f_region ?_
      refine f_op rfl rfl (s_mv (v := .int .i64 v4) rfl) ?_
      refine f_op rfl rfl (s_eql rfl rfl) ?_
      refine f_nil ?_
      refine f_if (fun h3 => ?_) (fun h3 => ?_)
      · skip
        refine f_know 32 rfl (dec_true h3) ?_
        refine f_condT rfl ?_
        refine f_seq ?_
        refine f_region ?_
        refine f_op rfl rfl (s_mv (v := .sl v1) rfl) ?_
        refine f_op rfl rfl (s_mv (v := .int .i64 v2) rfl) ?_
        refine f_op rfl rfl (s_mv (v := .int .i64 v3) rfl) ?_
        refine f_op rfl rfl (s_mv (v := v5) rfl) ?_
        refine o_bind ?_; intro p4 hp4
        refine f_op rfl rfl (s_callF rfl ok115 (sim115 happ hp4)) ?_
        refine f_nil ?_
        exact f_ret (.nil) rfl
      · skip
        refine f_know 32 rfl (dec_false h3) ?_
        refine f_condF rfl ?_
        refine f_skip ?_
        refine f_seq ?_
        refine f_seq ?_
        refine f_region ?_
        refine f_op rfl rfl (s_mv (v := .bool v6) rfl) ?_
        refine f_op rfl rfl (s_not rfl) ?_
        refine f_nil ?_
        refine f_if (fun h5 => ?_) (fun h5 => ?_)
        · skip
          refine f_know 39 rfl (bool_notT h5) ?_
          refine f_condF rfl ?_
          refine f_skip ?_
          refine f_know 10 rfl (bool_T h5) ?_
          refine f_keep [0, 1, 2, 3, 4, 10, 11, 12] ?_
          exact s108_j5 happ _ (fun v1_ v2_ v3_ v4_ v5_ v6_ v7_ H_ => ih v1_ v2_ v3_ v4_ v5_ v6_ v7_ H_) v1 v2 v3 v4 v5 true v7 (w64 (v3 - v2)) H
        · skip
          refine f_know 39 rfl (bool_notF h5) ?_
          refine f_condT rfl ?_
          refine f_seq ?_
          refine f_region ?_
          refine f_op rfl rfl (s_mv (v := .sl v1) rfl) ?_
          refine f_op rfl rfl (s_mv (v := .int .i64 v2) rfl) ?_
          refine f_op rfl rfl (s_mv (v := .int .i64 v3) rfl) ?_
          refine f_op rfl rfl (s_mv (v := v5) rfl) ?_
          refine o_bind ?_; intro p6 hp6
          refine f_op rfl rfl (s_callF rfl ok116 (sim116 hp6)) ?_
          refine f_nil ?_
          refine f_region ?_
          refine f_op rfl rfl (s_mv (v := .int .i64 v4) rfl) ?_
          refine f_op rfl rfl (s_sub rfl rfl) ?_
          refine f_op rfl rfl (s_as (v := .int .i64 (w64 (v4 - 1))) rfl) ?_
          refine f_nil ?_
          refine f_know 10 rfl (bool_F h5) ?_
          refine f_keep [0, 1, 2, 3, 4, 10, 11, 12] ?_
          exact s108_j5 happ _ (fun v1_ v2_ v3_ v4_ v5_ v6_ v7_ H_ => ih v1_ v2_ v3_ v4_ v5_ v6_ v7_ H_) v1 v2 v3 (w64 (v4 - 1)) v5 false v7 (w64 (v3 - v2)) p6.2

theorem sim108 {app : App} (happ : AppSim Try.prog app) {a0 : Sl} {a1 : Int} {a2 : Int} {a3 : Int} {a4 : AV} {H : Hp} {p : Unit × Hp} (h : r108 app a0 a1 a2 a3 a4 H = some p) : CallSim Try.prog 108 [.sl a0, .int .i64 a1, .int .i64 a2, .int .i64 a3, a4] H (.tup []) p.2 := by
  refine callSim (fn := Try.f108) (ret := ret108) Try.func108 rfl Try.ntmps108 rfl ?_ h
  unfold r108
  refine f_seq ?_
  refine f_region ?_
  refine f_op rfl rfl (s_as (v := .bool true) rfl) ?_
  refine f_nil ?_
  refine f_seq ?_
  refine f_region ?_
  refine f_op rfl rfl (s_as (v := .bool true) rfl) ?_
  refine f_nil ?_
  refine f_block ?_
  refine f_loop ?_
  refine f_keep [0, 1, 2, 3, 4, 10, 11] ?_
  exact s108_l0 happ FUEL a0 a1 a2 a3 a4 true true H

/- 86 slices.SortFunc[[]congou/cuts.Point,congou/cuts.Point] -/
theorem ok86 : FnOk Try.prog 86 := ⟨⟨Try.f86, Try.func86, by kernel_rfl, rfl⟩⟩
theorem sim86 {app : App} (happ : AppSim Try.prog app) {a0 : Sl} {a1 : AV} {H : Hp} {p : Unit × Hp} (h : r86 app a0 a1 H = some p) : CallSim Try.prog 86 [.sl a0, a1] H (.tup []) p.2 := by
  refine callSim (fn := Try.f86) (ret := ret86) Try.func86 rfl Try.ntmps86 rfl ?_ h
  unfold r86
  refine f_seq ?_
  refine f_region ?_
  refine f_op rfl rfl (s_mv (v := .sl a0) rfl) ?_
  refine f_op rfl rfl (s_lenS rfl Try.underlying83 rfl) ?_
  refine f_op rfl rfl (s_as (v := .int .i64 (a0.len : Int)) rfl) ?_
  refine f_nil ?_
  refine f_region ?_
  refine f_op rfl rfl (s_mv (v := .sl a0) rfl) ?_
  refine f_op rfl rfl (s_mv (v := .int .i64 (a0.len : Int)) rfl) ?_
  refine f_op rfl rfl (s_mv (v := .int .i64 (a0.len : Int)) rfl) ?_
  refine f_op rfl rfl (s_convInt Try.underlying3 Try.underlying67 rfl) ?_
  refine o_bind ?_; intro p1 hp1
  refine f_op rfl rfl (s_callF rfl ok109 (sim109 hp1)) ?_
  refine f_op rfl rfl (s_mv (v := a1) rfl) ?_
  refine o_bind ?_; intro p2 hp2
  refine f_op rfl rfl (s_callF rfl ok108 (sim108 happ hp2)) ?_
  refine f_nil ?_
  exact f_end (.nil) rfl

/- 88 cmp.Or[int] -/
theorem ok88 : FnOk Try.prog 88 := ⟨⟨Try.f88, Try.func88, by kernel_rfl, rfl⟩⟩
theorem s88_l0 : ∀ (k_ : Nat) (v1 : Int) (v2 : Sl) (v3 : Int) (v4 : Int) (H : Hp), Fin Try.prog Try.f88 ret88 18 (todoAt (bodyOf Try.f88) [1, 1, 0, 1, 0, 0] []) [(3, .int .i64 v1), (6, .sl v2), (7, .int .i64 v3), (8, .int .i64 v4)] H (r88_l0 k_ v1 v2 v3 v4 H) := by
  intro k_
  induction k_ with
  | zero => intro _ _ _ _ _; exact f_none
  | succ k_ ih =>
    intro v1 v2 v3 v4 H
    rw [r88_l0]
    refine f_seq ?_
    refine f_region ?_
    refine f_op rfl rfl (s_lss rfl rfl) ?_
    refine f_nil ?_
    refine f_seq ?_
    refine f_if (fun h1 => ?_) (fun h1 => ?_)
    · skip
      refine f_know 9 rfl (dec_true h1) ?_
      refine f_condT rfl ?_
      refine f_skip ?_
      refine f_seq ?_
      refine f_block ?_
      refine f_seq ?_
      refine f_region ?_
      refine o_ck fun g2 => ?_
      refine f_op rfl rfl (s_idx Try.underlying76 ty3 rfl rfl g2) ?_
      refine o_bind ?_; intro x3 hx3
      refine f_op rfl rfl (s_load Try.underlying3 rfl rfl (ldI_eq hx3)) ?_
      refine f_op rfl rfl (s_as (v := .int .i64 x3) rfl) ?_
      refine f_nil ?_
      refine f_seq ?_
      refine f_region ?_
      refine f_op rfl rfl (s_mv (v := .int .i64 x3) rfl) ?_
      refine f_op rfl rfl (s_mv (v := .int .i64 v1) rfl) ?_
      refine f_op rfl rfl (s_neq rfl rfl) ?_
      refine f_nil ?_
      refine f_if (fun h4 => ?_) (fun h4 => ?_)
      · skip
        refine f_know 14 rfl (dec_true h4) ?_
        refine f_condT rfl ?_
        refine f_seq ?_
        refine f_region ?_
        refine f_op rfl rfl (s_mv (v := .int .i64 x3) rfl) ?_
        refine f_op rfl rfl (s_as (v := .int .i64 x3) rfl) ?_
        refine f_nil ?_
        exact f_ret (.tmp rfl (.nil)) rfl
      · skip
        refine f_know 14 rfl (dec_false h4) ?_
        refine f_condF rfl ?_
        refine f_skip ?_
        refine f_inBlock ?_
        refine f_region ?_
        refine f_op rfl rfl (s_add rfl rfl) ?_
        refine f_op rfl rfl (s_mv (v := .int .i64 (w64 (v4 + 1))) rfl) ?_
        refine f_nil ?_
        refine f_inLoop ?_
        refine f_keep [3, 6, 7, 8] ?_
        exact ih v1 v2 v3 (w64 (v4 + 1)) H
    · skip
      refine f_know 9 rfl (dec_false h1) ?_
      refine f_condF rfl ?_
      refine f_exit rfl ?_
      refine f_seq ?_
      refine f_region ?_
      refine f_op rfl rfl (s_mv (v := .int .i64 v1) rfl) ?_
      refine f_op rfl rfl (s_as (v := .int .i64 v1) rfl) ?_
      refine f_nil ?_
      exact f_ret (.tmp rfl (.nil)) rfl

theorem sim88 {a0 : Sl} {H : Hp} {p : Int × Hp} (h : r88 a0 H = some p) : CallSim Try.prog 88 [.sl a0] H (.int .i64 p.1) p.2 := by
  refine callSim (fn := Try.f88) (ret := ret88) Try.func88 rfl Try.ntmps88 rfl ?_ h
  unfold r88
  refine f_seq ?_
  refine f_region ?_
  refine f_op rfl rfl (s_as (v := .int .i64 0) rfl) ?_
  refine f_nil ?_
  refine f_seq ?_
  refine f_region ?_
  refine f_op rfl rfl (s_as (v := .int .i64 0) rfl) ?_
  refine f_nil ?_
  refine f_seq ?_
  refine f_seq ?_
  refine f_region ?_
  refine f_op rfl rfl (s_mv (v := .sl a0) rfl) ?_
  refine f_op rfl rfl (s_lenS rfl Try.underlying76 rfl) ?_
  refine f_op rfl rfl (s_mv (v := .int .i64 0) rfl) ?_
  refine f_nil ?_
  refine f_block ?_
  refine f_loop ?_
  refine f_keep [3, 6, 7, 8] ?_
  exact s88_l0 FUEL 0 a0 (a0.len : Int) 0 H

/- 87 congou/cuts.Corners$1 -/
theorem ok87 : FnOk Try.prog 87 := ⟨⟨Try.f87, Try.func87, by kernel_rfl, rfl⟩⟩
theorem sim87 {a0_0 : Int} {a0_1 : Int} {a0_2 : Int} {a0_3 : Int} {a1_0 : Int} {a1_1 : Int} {a1_2 : Int} {a1_3 : Int} {H : Hp} {p : Int × Hp} (h : r87 a0_0 a0_1 a0_2 a0_3 a1_0 a1_1 a1_2 a1_3 H = some p) : CallSim Try.prog 87 [.agg [.int .i64 a0_0, .int .i64 a0_1, .int .i64 a0_2, .int .i64 a0_3], .agg [.int .i64 a1_0, .int .i64 a1_1, .int .i64 a1_2, .int .i64 a1_3]] H (.int .i64 p.1) p.2 := by
  refine callSim (fn := Try.f87) (ret := ret87) Try.func87 rfl Try.ntmps87 rfl ?_ h
  unfold r87
  refine f_seq ?_
  refine f_region ?_
  refine f_op rfl rfl (s_box (v := .agg [.int .i64 a0_0, .int .i64 a0_1, .int .i64 a0_2, .int .i64 a0_3]) rfl rfl) ?_
  refine f_op rfl rfl (s_box (v := .agg [.int .i64 a1_0, .int .i64 a1_1, .int .i64 a1_2, .int .i64 a1_3]) rfl rfl) ?_
  refine f_op rfl rfl (s_as (v := .int .i64 0) rfl) ?_
  refine o_hp ?_; intro H1 hH1
  refine f_nil ?_
  refine f_seq ?_
  refine f_bind ?_; intro x2 hx2
  refine f_bind ?_; intro x3 hx3
  refine f_bind ?_; intro x4 hx4
  refine f_bind ?_; intro x5 hx5
  refine f_bind ?_; intro p6 hp6
  refine f_bind ?_; intro x7 hx7
  refine f_bind ?_; intro x8 hx8
  refine f_bind ?_; intro x9 hx9
  refine f_bind ?_; intro x10 hx10
  refine f_bind ?_; intro p11 hp11
  refine f_bind ?_; intro p12 hp12
  refine f_draw (Φ := fun _ => True) (lim := 1000000) [0, 1, 0, 1, 0, 0, 1, 0, 1, 0, 2, 2, 0] (Trc.pure rfl rfl rfl (.inl fun _ => s_fieldAddr Try.underlying32 rfl ty24 rfl) (Trc.read rfl rfl rfl (s_loads Try.underlying24 rfl ty24 rfl (lds_cons (ldI_eq hx2) (lds_cons (ldI_eq hx3) (lds_nil)))) (Trc.pure rfl rfl rfl (.inl fun _ => s_fieldAddr Try.underlying32 rfl ty24 rfl) (Trc.read rfl rfl rfl (s_loads Try.underlying24 rfl ty24 rfl (lds_cons (ldI_eq hx4) (lds_cons (ldI_eq hx5) (lds_nil)))) (Trc.pure rfl rfl rfl (.inl fun _ => s_callO rfl ok89 (sim89 hp6) rfl rfl) (Trc.pure rfl rfl rfl (.inl fun _ => s_fieldAddr Try.underlying32 rfl ty24 rfl) (Trc.read rfl rfl rfl (s_loads Try.underlying24 rfl ty24 rfl (lds_cons (ldI_eq hx7) (lds_cons (ldI_eq hx8) (lds_nil)))) (Trc.pure rfl rfl rfl (.inl fun _ => s_fieldAddr Try.underlying32 rfl ty24 rfl) (Trc.read rfl rfl rfl (s_loads Try.underlying24 rfl ty24 rfl (lds_cons (ldI_eq hx9) (lds_cons (ldI_eq hx10) (lds_nil)))) (Trc.pure rfl rfl rfl (.inl fun _ => s_callO rfl ok89 (sim89 hp11) rfl rfl) (Trc.eff rfl rfl rfl (fun _ => trivial) (s_buildSlice (cs := [.int .i64 p6.1, .int .i64 p11.1]) Try.underlying76 ty3 (by decide) (by decide) rfl (by decide) rfl) (Trc.eff rfl rfl rfl (fun _ => trivial) (s_callF rfl ok88 (sim88 hp12)) (Trc.pure rfl rfl rfl (.inl fun _ => s_as (v := .int .i64 p12.1) rfl) (Trc.nil (fun _ => trivial))))))))))))))) rfl (by decide +kernel) mixed ?_
  exact f_ret (.tmp rfl (.nil)) rfl

/- 90 slices.Compact[[]congou/cuts.Point,congou/cuts.Point] -/
theorem ok90 : FnOk Try.prog 90 := ⟨⟨Try.f90, Try.func90, by kernel_rfl, rfl⟩⟩
theorem s90_l1 : ∀ (k_ : Nat) (v1 : Sl) (v2 : Int) (v3 : Sl) (v4 : Int) (H : Hp), Fin Try.prog Try.f90 ret90 61 (todoAt (bodyOf Try.f90) [1, 1, 0, 1, 0, 0, 1, 0, 0, 1, 0, 1, 0, 1, 0, 0] []) [(0, .sl v1), (3, .int .i64 v2), (4, .sl v3), (5, .int .i64 v4)] H (r90_l1 k_ v1 v2 v3 v4 H) := by
  intro k_
  induction k_ with
  | zero => intro _ _ _ _ _; exact f_none
  | succ k_ ih =>
    intro v1 v2 v3 v4 H
    rw [r90_l1]
    refine f_seq ?_
    refine f_seq ?_
    refine f_region ?_
    refine f_op rfl rfl (s_mv (v := .int .i64 v4) rfl) ?_
    refine f_op rfl rfl (s_mv (v := .sl v3) rfl) ?_
    refine f_op rfl rfl (s_lenS rfl Try.underlying83 rfl) ?_
    refine f_op rfl rfl (s_lss rfl rfl) ?_
    refine f_nil ?_
    refine f_if (fun h1 => ?_) (fun h1 => ?_)
    · skip
      refine f_know 32 rfl (dec_true h1) ?_
      refine f_condT rfl ?_
      refine f_skip ?_
      refine f_seq ?_
      refine f_block ?_
      refine f_seq ?_
      refine f_ck fun g2 => ?_
      refine f_bind ?_; intro x3 hx3
      refine f_bind ?_; intro x4 hx4
      refine f_bind ?_; intro x5 hx5
      refine f_bind ?_; intro x6 hx6
      refine f_ck fun g7 => ?_
      refine f_bind ?_; intro x8 hx8
      refine f_bind ?_; intro x9 hx9
      refine f_bind ?_; intro x10 hx10
      refine f_bind ?_; intro x11 hx11
      refine f_draw (Φ := fun _ => True) (lim := 1000000) [0, 0, 0, 1, 0, 0, 0, 0, 1, 0] (Trc.pure rfl rfl rfl (.inl fun _ => s_mv (v := .sl v3) rfl) (Trc.pure rfl rfl rfl (.inl fun _ => s_mv (v := .int .i64 v4) rfl) (Trc.pure rfl rfl rfl (.inl fun _ => s_idx Try.underlying83 ty32 rfl rfl g2) (Trc.read rfl rfl rfl (s_loads Try.underlying32 rfl ty32 rfl (lds_cons (ldI_eq hx3) (lds_cons (ldI_eq hx4) (lds_cons (ldI_eq hx5) (lds_cons (ldI_eq hx6) (lds_nil)))))) (Trc.pure rfl rfl rfl (.inl fun _ => s_mv (v := .sl v3) rfl) (Trc.pure rfl rfl rfl (.inl fun _ => s_mv (v := .int .i64 v4) rfl) (Trc.pure rfl rfl rfl (.inl fun _ => s_sub rfl rfl) (Trc.pure rfl rfl rfl (.inl fun _ => s_idx Try.underlying83 ty32 rfl rfl g7) (Trc.read rfl rfl rfl (s_loads Try.underlying32 rfl ty32 rfl (lds_cons (ldI_eq hx8) (lds_cons (ldI_eq hx9) (lds_cons (ldI_eq hx10) (lds_cons (ldI_eq hx11) (lds_nil)))))) (Trc.pure rfl rfl rfl (.inl fun _ => s_neAgg eg32 rfl rfl (eq22 Try.underlying32 Try.underlying24 Try.underlying3 Try.underlying3 ty24 (by decide) (by decide) (by decide) (by decide) rfl rfl rfl rfl sih32 sih24 x3 x4 x5 x6 x8 x9 x10 x11)) (Trc.nil (fun _ => trivial)))))))))))) rfl (by decide +kernel) mixed ?_
      refine f_if (fun h12 => ?_) (fun h12 => ?_)
      · skip
        refine f_know 44 rfl (bool_notT h12) ?_
        refine f_condF rfl ?_
        refine f_skip ?_
        refine f_inBlock ?_
        refine f_region ?_
        refine f_op rfl rfl (s_mv (v := .int .i64 v4) rfl) ?_
        refine f_op rfl rfl (s_add rfl rfl) ?_
        refine f_op rfl rfl (s_as (v := .int .i64 (w64 (v4 + 1))) rfl) ?_
        refine f_nil ?_
        refine f_inLoop ?_
        refine f_keep [0, 3, 4, 5] ?_
        exact ih v1 v2 v3 (w64 (v4 + 1)) H
      · skip
        refine f_know 44 rfl (bool_notF h12) ?_
        refine f_condT rfl ?_
        refine f_seq ?_
        refine f_region ?_
        refine f_op rfl rfl (s_mv (v := .sl v1) rfl) ?_
        refine f_op rfl rfl (s_mv (v := .int .i64 v2) rfl) ?_
        refine f_op rfl rfl (s_mv (v := .sl v3) rfl) ?_
        refine f_op rfl rfl (s_mv (v := .int .i64 v4) rfl) ?_
        refine o_ck fun g13 => ?_
        refine f_op rfl rfl (s_idx Try.underlying83 ty32 rfl rfl g13) ?_
        refine o_bind ?_; intro x14 hx14
        refine o_bind ?_; intro x15 hx15
        refine o_bind ?_; intro x16 hx16
        refine o_bind ?_; intro x17 hx17
        refine f_op rfl rfl (s_loads Try.underlying32 rfl ty32 rfl (lds_cons (ldI_eq hx14) (lds_cons (ldI_eq hx15) (lds_cons (ldI_eq hx16) (lds_cons (ldI_eq hx17) (lds_nil)))))) ?_
        refine o_ck fun g18 => ?_
        refine f_op rfl rfl (s_idx Try.underlying83 ty32 rfl rfl g18) ?_
        refine o_bind ?_; intro H19 hH19
        refine f_op rfl rfl (s_stores ty32 rfl rfl rfl rfl hH19 (Nat.le_of_eq (sts_mono hH19).symm)) ?_
        refine f_nil ?_
        refine f_region ?_
        refine f_op rfl rfl (s_mv (v := .int .i64 v2) rfl) ?_
        refine f_op rfl rfl (s_add rfl rfl) ?_
        refine f_op rfl rfl (s_as (v := .int .i64 (w64 (v2 + 1))) rfl) ?_
        refine f_nil ?_
        refine f_inBlock ?_
        refine f_region ?_
        refine f_op rfl rfl (s_mv (v := .int .i64 v4) rfl) ?_
        refine f_op rfl rfl (s_add rfl rfl) ?_
        refine f_op rfl rfl (s_as (v := .int .i64 (w64 (v4 + 1))) rfl) ?_
        refine f_nil ?_
        refine f_inLoop ?_
        refine f_keep [0, 3, 4, 5] ?_
        exact ih v1 (w64 (v2 + 1)) v3 (w64 (v4 + 1)) H19
    · skip
      refine f_know 32 rfl (dec_false h1) ?_
      refine f_condF rfl ?_
      refine f_exit rfl ?_
      refine f_seq ?_
      refine f_region ?_
      refine f_op rfl rfl (s_mv (v := .sl v1) rfl) ?_
      refine f_op rfl rfl (s_mv (v := .int .i64 v2) rfl) ?_
      refine o_ck fun g20 => ?_
      refine f_op rfl rfl (s_slice Try.underlying83 ty32 rfl rfl rfl g20.1 g20.2) ?_
      refine o_bind ?_; intro H21 hH21
      refine f_op rfl rfl (s_clear rfl Try.underlying83 ty32 rfl rfl rfl hH21 (by decide) rfl) ?_
      refine f_nil ?_
      refine f_seq ?_
      refine f_region ?_
      refine f_op rfl rfl (s_mv (v := .sl v1) rfl) ?_
      refine f_op rfl rfl (s_mv (v := .int .i64 v2) rfl) ?_
      refine o_ck fun g22 => ?_
      refine f_op rfl rfl (s_slice Try.underlying83 ty32 rfl rfl rfl g22.1 g22.2) ?_
      refine f_op rfl rfl (s_as (v := .sl (v1.cut 4 (0 : Int).toNat (v2 : Int).toNat)) rfl) ?_
      refine f_nil ?_
      exact f_ret (.tmp rfl (.nil)) rfl

theorem s90_l0 : ∀ (k_ : Nat) (v1 : Sl) (v2 : Int) (H : Hp), Fin Try.prog Try.f90 ret90 61 (todoAt (bodyOf Try.f90) [1, 1, 0, 1, 0, 0] []) [(0, .sl v1), (3, .int .i64 v2)] H (r90_l0 k_ v1 v2 H) := by
  intro k_
  induction k_ with
  | zero => intro _ _ _; exact f_none
  | succ k_ ih =>
    intro v1 v2 H
    rw [r90_l0]
    refine f_seq ?_
    refine f_seq ?_
    refine f_region ?_
    refine f_op rfl rfl (s_mv (v := .int .i64 v2) rfl) ?_
    refine f_op rfl rfl (s_mv (v := .sl v1) rfl) ?_
    refine f_op rfl rfl (s_lenS rfl Try.underlying83 rfl) ?_
    refine f_op rfl rfl (s_lss rfl rfl) ?_
    refine f_nil ?_
    refine f_if (fun h1 => ?_) (fun h1 => ?_)
    · skip
      refine f_know 13 rfl (dec_true h1) ?_
      refine f_condT rfl ?_
      refine f_skip ?_
      refine f_seq ?_
      refine f_block ?_
      refine f_seq ?_
      refine f_ck fun g2 => ?_
      refine f_bind ?_; intro x3 hx3
      refine f_bind ?_; intro x4 hx4
      refine f_bind ?_; intro x5 hx5
      refine f_bind ?_; intro x6 hx6
      refine f_ck fun g7 => ?_
      refine f_bind ?_; intro x8 hx8
      refine f_bind ?_; intro x9 hx9
      refine f_bind ?_; intro x10 hx10
      refine f_bind ?_; intro x11 hx11
      refine f_draw (Φ := fun _ => True) (lim := 1000000) [0, 0, 0, 1, 0, 0, 0, 0, 1, 0] (Trc.pure rfl rfl rfl (.inl fun _ => s_mv (v := .sl v1) rfl) (Trc.pure rfl rfl rfl (.inl fun _ => s_mv (v := .int .i64 v2) rfl) (Trc.pure rfl rfl rfl (.inl fun _ => s_idx Try.underlying83 ty32 rfl rfl g2) (Trc.read rfl rfl rfl (s_loads Try.underlying32 rfl ty32 rfl (lds_cons (ldI_eq hx3) (lds_cons (ldI_eq hx4) (lds_cons (ldI_eq hx5) (lds_cons (ldI_eq hx6) (lds_nil)))))) (Trc.pure rfl rfl rfl (.inl fun _ => s_mv (v := .sl v1) rfl) (Trc.pure rfl rfl rfl (.inl fun _ => s_mv (v := .int .i64 v2) rfl) (Trc.pure rfl rfl rfl (.inl fun _ => s_sub rfl rfl) (Trc.pure rfl rfl rfl (.inl fun _ => s_idx Try.underlying83 ty32 rfl rfl g7) (Trc.read rfl rfl rfl (s_loads Try.underlying32 rfl ty32 rfl (lds_cons (ldI_eq hx8) (lds_cons (ldI_eq hx9) (lds_cons (ldI_eq hx10) (lds_cons (ldI_eq hx11) (lds_nil)))))) (Trc.pure rfl rfl rfl (.inl fun _ => s_eqAgg eg32 rfl rfl (eq22 Try.underlying32 Try.underlying24 Try.underlying3 Try.underlying3 ty24 (by decide) (by decide) (by decide) (by decide) rfl rfl rfl rfl sih32 sih24 x3 x4 x5 x6 x8 x9 x10 x11)) (Trc.nil (fun _ => trivial)))))))))))) rfl (by decide +kernel) mixed ?_
      refine f_if (fun h12 => ?_) (fun h12 => ?_)
      · skip
        refine f_know 25 rfl (bool_T h12) ?_
        refine f_condT rfl ?_
        refine f_seq ?_
        refine f_region ?_
        refine f_op rfl rfl (s_mv (v := .sl v1) rfl) ?_
        refine f_op rfl rfl (s_mv (v := .int .i64 v2) rfl) ?_
        refine o_ck fun g13 => ?_
        refine f_op rfl rfl (s_slice Try.underlying83 ty32 rfl rfl rfl g13.1 g13.2) ?_
        refine f_op rfl rfl (s_as (v := .sl (v1.cut 4 (v2 : Int).toNat ((v1.len : Int) : Int).toNat)) rfl) ?_
        refine f_nil ?_
        refine f_seq ?_
        refine f_seq ?_
        refine f_region ?_
        refine f_op rfl rfl (s_as (v := .int .i64 1) rfl) ?_
        refine f_nil ?_
        refine f_block ?_
        refine f_loop ?_
        refine f_keep [0, 3, 4, 5] ?_
        exact s90_l1 FUEL v1 v2 (v1.cut 4 (v2 : Int).toNat ((v1.len : Int) : Int).toNat) 1 H
      · skip
        refine f_know 25 rfl (bool_F h12) ?_
        refine f_condF rfl ?_
        refine f_skip ?_
        refine f_inBlock ?_
        refine f_region ?_
        refine f_op rfl rfl (s_mv (v := .int .i64 v2) rfl) ?_
        refine f_op rfl rfl (s_add rfl rfl) ?_
        refine f_op rfl rfl (s_as (v := .int .i64 (w64 (v2 + 1))) rfl) ?_
        refine f_nil ?_
        refine f_inLoop ?_
        refine f_keep [0, 3] ?_
        exact ih v1 (w64 (v2 + 1)) H
    · skip
      refine f_know 13 rfl (dec_false h1) ?_
      refine f_condF rfl ?_
      refine f_exit rfl ?_
      refine f_seq ?_
      refine f_region ?_
      refine f_op rfl rfl (s_mv (v := .sl v1) rfl) ?_
      refine f_op rfl rfl (s_as (v := .sl v1) rfl) ?_
      refine f_nil ?_
      exact f_ret (.tmp rfl (.nil)) rfl

theorem sim90 {a0 : Sl} {H : Hp} {p : Sl × Hp} (h : r90 a0 H = some p) : CallSim Try.prog 90 [.sl a0] H (.sl p.1) p.2 := by
  refine callSim (fn := Try.f90) (ret := ret90) Try.func90 rfl Try.ntmps90 rfl ?_ h
  unfold r90
  refine f_seq ?_
  refine f_region ?_
  refine f_op rfl rfl (s_as (v := .sl ⟨true, 0, 0, 0, 0, 0⟩) rfl) ?_
  refine f_nil ?_
  refine f_seq ?_
  refine f_seq ?_
  refine f_region ?_
  refine f_op rfl rfl (s_mv (v := .sl a0) rfl) ?_
  refine f_op rfl rfl (s_lenS rfl Try.underlying83 rfl) ?_
  refine f_op rfl rfl (s_lss rfl rfl) ?_
  refine f_nil ?_
  refine f_if (fun h1 => ?_) (fun h1 => ?_)
  · skip
    refine f_know 8 rfl (dec_true h1) ?_
    refine f_condT rfl ?_
    refine f_seq ?_
    refine f_region ?_
    refine f_op rfl rfl (s_mv (v := .sl a0) rfl) ?_
    refine f_op rfl rfl (s_as (v := .sl a0) rfl) ?_
    refine f_nil ?_
    exact f_ret (.tmp rfl (.nil)) rfl
  · skip
    refine f_know 8 rfl (dec_false h1) ?_
    refine f_condF rfl ?_
    refine f_skip ?_
    refine f_seq ?_
    refine f_seq ?_
    refine f_region ?_
    refine f_op rfl rfl (s_as (v := .int .i64 1) rfl) ?_
    refine f_nil ?_
    refine f_block ?_
    refine f_loop ?_
    refine f_keep [0, 3] ?_
    exact s90_l0 FUEL a0 1 H

/- 51 congou/cuts.Corners -/
theorem ok51 : FnOk Try.prog 51 := ⟨⟨Try.f51, Try.func51, by kernel_rfl, rfl⟩⟩
theorem sim51 {app : App} (happ : AppSim Try.prog app) {a0 : Sl} {H : Hp} {p : (Sl × Int) × Hp} (h : r51 app a0 H = some p) : CallSim Try.prog 51 [.sl a0] H (.tup [.sl p.1.1, .int .i64 p.1.2]) p.2 := by
  refine callSim (fn := Try.f51) (ret := ret51) Try.func51 rfl Try.ntmps51 rfl ?_ h
  unfold r51
  refine f_seq ?_
  refine f_region ?_
  refine f_op rfl rfl (s_as (v := .sl ⟨true, 0, 0, 0, 0, 0⟩) rfl) ?_
  refine f_op rfl rfl (s_as (v := .int .i64 0) rfl) ?_
  refine f_nil ?_
  refine f_seq ?_
  refine f_seq ?_
  refine f_region ?_
  refine f_op rfl rfl (s_mv (v := .sl a0) rfl) ?_
  refine o_bind ?_; intro p1 hp1
  refine f_op rfl rfl (s_callF rfl ok63 (sim63 happ hp1)) ?_
  refine f_op rfl rfl (s_not rfl) ?_
  refine f_nil ?_
  refine f_if (fun h2 => ?_) (fun h2 => ?_)
  · skip
    refine f_know 8 rfl (bool_notT h2) ?_
    refine f_condF rfl ?_
    refine f_skip ?_
    refine f_seq ?_
    refine f_region ?_
    refine f_op rfl rfl (s_alloc (zs := [.sl ⟨true, 0, 0, 0, 0, 0⟩]) ty83 rfl rfl) ?_
    refine o_hp ?_; intro H3 hH3
    refine f_nil ?_
    refine f_seq ?_
    refine f_seq ?_
    refine f_region ?_
    refine f_op rfl rfl (s_mv (v := .sl a0) rfl) ?_
    refine f_op rfl rfl (s_makeFunc rfl rfl) ?_
    refine f_nil ?_
    refine f_block ?_
    refine f_bind ?_; intro p4 hp4
    refine f_bind ?_; intro q5 hq5
    refine f_rangeX happ rfl rfl (lookup_restrict _ [4]) rfl hp4 hq5 ?_
    refine f_if (fun h6 => ?_) (fun h6 => ?_)
    · skip
      refine f_jmp0 h6 ?_
      refine f_inBlock ?_
      refine f_seq ?_
      refine f_region ?_
      refine o_bind ?_; intro x7 hx7
      refine f_op rfl rfl (s_load Try.underlying83 rfl rfl (ldSl_eq hx7)) ?_
      refine o_bind ?_; intro p8 hp8
      refine f_op rfl rfl (s_callF rfl ok86 (sim86 happ hp8)) ?_
      refine f_nil ?_
      refine f_seq ?_
      refine f_region ?_
      refine o_bind ?_; intro x9 hx9
      refine f_op rfl rfl (s_load Try.underlying83 rfl rfl (ldSl_eq hx9)) ?_
      refine o_bind ?_; intro p10 hp10
      refine f_op rfl rfl (s_callF rfl ok90 (sim90 hp10)) ?_
      refine f_op rfl rfl (s_as (v := .sl p10.1) rfl) ?_
      refine f_op rfl rfl (s_as (v := .int .i64 0) rfl) ?_
      refine f_nil ?_
      refine f_ck fun g11 => ?_
      exact f_retD (.tmp rfl (.tmp rfl (.nil))) rfl (dfrs_of g11)
    · skip
      exact f_none
  · skip
    refine f_know 8 rfl (bool_notF h2) ?_
    refine f_condT rfl ?_
    refine f_seq ?_
    refine f_region ?_
    refine f_op rfl rfl (s_as (v := .sl ⟨true, 0, 0, 0, 0, 0⟩) rfl) ?_
    refine f_op rfl rfl (s_as (v := .int .i64 2) rfl) ?_
    refine f_nil ?_
    exact f_ret (.tmp rfl (.tmp rfl (.nil))) rfl

theorem sim51q1 {app : App} (happ : AppSim Try.prog app) {l_ : Nat} {v1 : Nat} {y0_0 : Int} {y0_1 : Int} {y0_2 : Int} {y0_3 : Int} {y0_4 : Int} {y0_5 : Int} {y0_6 : Int} {y0_7 : Int} {y0_8 : Int} {y0_9 : Int} {H : Hp} : FinG Try.prog PostR ⟨21, [], some l_⟩ [.code (siteTab 1).2.1, .beginRound, .code (siteTab 1).2.2] (zipF [11] [.agg [.int .i64 y0_0, .int .i64 y0_1, .int .i64 y0_2, .int .i64 y0_3, .int .i64 y0_4, .int .i64 y0_5, .int .i64 y0_6, .int .i64 y0_7, .int .i64 y0_8, .int .i64 y0_9]] [(4, .ptr v1 0)]) H (r51q1 app l_ v1 y0_0 y0_1 y0_2 y0_3 y0_4 y0_5 y0_6 y0_7 y0_8 y0_9 H) := by
  show FinG Try.prog PostR ⟨21, [], some l_⟩ (todoAt (bodyOf Try.f51) [1, 1, 1, 0, 1, 0, 0] []) [(11, .agg [.int .i64 y0_0, .int .i64 y0_1, .int .i64 y0_2, .int .i64 y0_3, .int .i64 y0_4, .int .i64 y0_5, .int .i64 y0_6, .int .i64 y0_7, .int .i64 y0_8, .int .i64 y0_9]), (4, .ptr v1 0)] H _
  unfold r51q1
  refine f_region ?_
  refine f_op rfl rfl (s_alloc (zs := [.int .i64 0, .int .i64 0, .int .i64 0, .int .i64 0, .int .i64 0, .int .i64 0, .int .i64 0, .int .i64 0, .int .i64 0, .int .i64 0]) ty105 rfl rfl) ?_
  refine o_bind ?_; intro H1 hH1
  refine f_op rfl rfl (s_stores ty105 rfl rfl rfl rfl hH1 (Nat.le_of_eq (sts_mono hH1).symm)) ?_
  refine f_nil ?_
  refine f_bind ?_; intro H2 hH2
  refine f_beginX rfl hH2 ?_
  refine f_block ?_
  refine f_region ?_
  refine o_bind ?_; intro x3 hx3
  refine f_op rfl rfl (s_load Try.underlying83 rfl rfl (ldSl_eq hx3)) ?_
  refine f_op rfl rfl (s_fieldAddr Try.underlying105 rfl ty32 rfl) ?_
  refine o_bind ?_; intro x4 hx4
  refine o_bind ?_; intro x5 hx5
  refine o_bind ?_; intro x6 hx6
  refine o_bind ?_; intro x7 hx7
  refine f_op rfl rfl (s_loads Try.underlying32 rfl ty32 rfl (lds_cons (ldI_eq hx4) (lds_cons (ldI_eq hx5) (lds_cons (ldI_eq hx6) (lds_cons (ldI_eq hx7) (lds_nil)))))) ?_
  refine f_op rfl rfl (s_buildSlice (cs := [.int .i64 x4, .int .i64 x5, .int .i64 x6, .int .i64 x7]) Try.underlying83 ty32 (by decide) (by decide) rfl (by decide) rfl) ?_
  refine o_bind ?_; intro x8 hx8
  refine f_op rfl rfl (s_ap rfl rfl Try.underlying83 Try.underlying83 ty32 rfl rfl rfl rfl rfl rfl rfl hx8) ?_
  refine o_bind ?_; intro H9 hH9
  refine f_op rfl rfl (s_store (s := 1) ty83 rfl rfl rfl hH9) ?_
  refine f_nil ?_
  refine f_inBlock ?_
  exact f_rend

/- 62 congou/congoulaw02.plus -/
theorem ok62 : FnOk Try.prog 62 := ⟨⟨Try.f62, Try.func62, by kernel_rfl, rfl⟩⟩
theorem sim62 {a0_0 : Int} {a0_1 : Int} {a1 : Int} {H : Hp} {p : (Int × Int) × Hp} (h : r62 a0_0 a0_1 a1 H = some p) : CallSim Try.prog 62 [.agg [.int .i64 a0_0, .int .i64 a0_1], .int .i64 a1] H (.agg [.int .i64 p.1.1, .int .i64 p.1.2]) p.2 := by
  refine callSim (fn := Try.f62) (ret := ret62) Try.func62 rfl Try.ntmps62 rfl ?_ h
  unfold r62
  refine f_seq ?_
  refine f_region ?_
  refine f_op rfl rfl (s_box (v := .agg [.int .i64 a0_0, .int .i64 a0_1]) rfl rfl) ?_
  refine f_op rfl rfl (s_alloc (zs := [.int .i64 0, .int .i64 0]) ty24 rfl rfl) ?_
  refine o_hp ?_; intro H1 hH1
  refine f_nil ?_
  refine f_seq ?_
  refine f_region ?_
  refine f_op rfl rfl (s_fieldAddr Try.underlying24 rfl ty3 rfl) ?_
  refine o_bind ?_; intro x2 hx2
  refine f_op rfl rfl (s_load Try.underlying3 rfl rfl (ldI_eq hx2)) ?_
  refine f_op rfl rfl (s_mv (v := .int .i64 a1) rfl) ?_
  refine f_op rfl rfl (s_fieldAddr Try.underlying24 rfl ty3 rfl) ?_
  refine o_bind ?_; intro x3 hx3
  refine f_op rfl rfl (s_load Try.underlying3 rfl rfl (ldI_eq hx3)) ?_
  refine f_op rfl rfl (s_mul rfl rfl) ?_
  refine f_op rfl rfl (s_add rfl rfl) ?_
  refine f_op rfl rfl (s_fieldAddr Try.underlying24 rfl ty3 rfl) ?_
  refine o_bind ?_; intro x4 hx4
  refine f_op rfl rfl (s_load Try.underlying3 rfl rfl (ldI_eq hx4)) ?_
  refine f_op rfl rfl (s_build (cs := [.int .i64 (w64 (x2 + (w64 (a1 * x3)))), .int .i64 x4]) Try.underlying24 ty24 rfl pl24 rfl) ?_
  refine o_bind ?_; intro H5 hH5
  refine f_op rfl rfl (s_stores ty24 rfl rfl rfl rfl hH5 (Nat.le_of_eq (sts_mono hH5).symm)) ?_
  refine f_nil ?_
  refine f_bind ?_; intro x6 hx6
  refine f_bind ?_; intro x7 hx7
  exact f_ret (.cells Try.underlying24 rfl sz24 rfl (lds_cons (ldI_eq hx6) (lds_cons (ldI_eq hx7) (lds_nil))) (.nil)) rfl

end Go.Lt.P2
