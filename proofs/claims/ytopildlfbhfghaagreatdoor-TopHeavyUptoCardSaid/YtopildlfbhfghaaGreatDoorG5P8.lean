/- PRINTED BY A PROGRAM OF OURS: what each function that 'TopHeavy' reaches computes on the abstract heap, and that the translated code does just that. Nothing is asked of the input. -/
import Derived.Test.YtopildlfbhfghaaGreatDoorG5P7
set_option linter.unusedVariables false
set_option linter.unusedSimpArgs false
set_option maxRecDepth 100000
set_option maxHeartbeats 4000000
namespace Go.Lt.P10
open Go Go.Lt Go.Proofs Go.Proofs.Tryz
/- 298 slices.pdqsortCmpFunc[congou/sketch.Count] -/
theorem ok298 : FnOk prog 298 := ⟨⟨f298, func298, by kernel_rfl, rfl⟩⟩
theorem s298_j1 {app : App} (happ : AppSim prog app) (kt0 : Sl → Int → Int → Int → AV → Bool → Bool → Hp → Option (Unit × Hp)) (hkt0 : ∀ (v1 : Sl) (v2 v3 v4 : Int) (v5 : AV) (v6 v7 : Bool) (H : Hp), Fin prog f298 ret298 148 (todoAt (bodyOf f298) [1, 1, 0, 0] []) [(0, .sl v1), (1, .int .i64 v2), (2, .int .i64 v3), (3, .int .i64 v4), (4, v5), (10, .bool v6), (11, .bool v7)] H (kt0 v1 v2 v3 v4 v5 v6 v7 H)) (v1 : Sl) (v2 v3 v4 : Int) (v5 : AV) (v6 v7 : Bool) (v8 v9 : Int) (v10 : Bool) (H : Hp) : Fin prog f298 ret298 148 (todoAt (bodyOf f298) [1, 1, 0, 0, 0, 1, 1, 1, 1, 1, 1, 1, 0, 1] []) [(0, .sl v1), (1, .int .i64 v2), (2, .int .i64 v3), (3, .int .i64 v4), (4, v5), (10, .bool v6), (11, .bool v7), (12, .int .i64 v8), (13, .int .i64 v9), (97, .bool v10)] H (r298_j1 app kt0 v1 v2 v3 v4 v5 v6 v7 v8 v9 v10 H) := by
 unfold r298_j1
 refine f_if (fun h1 => ?_) (fun h1 => ?_)
 ·refine bT 97 h1 rfl (q_ (m_ (.sl v1) rfl (m_ (.int .i64 v2) rfl (m_ (.int .i64 v3) rfl (m_ (.int .i64 v9) rfl (m_ v5 rfl (o_bind fun p2 hp2 => p_ rfl (s_callF rfl ok337 (sim337 happ hp2)) (a_ (.int .i64 p2.1) rfl (n_ (m_ (.int .i64 p2.1) rfl ?_))))))))))
  exact a_ (.int .i64 p2.1) rfl (f_nil (f_exit rfl (f_inLoop (f_keep [0, 1, 2, 3, 4, 10, 11] (hkt0 v1 p2.1 v3 v4 v5 v6 v7 p2.2)))))
 ·refine bF 97 h1 rfl (f_skip (q_ (m_ (.sl v1) rfl (m_ (.int .i64 v2) rfl (m_ (.int .i64 v3) rfl (m_ (.int .i64 v9) rfl (m_ v5 rfl (o_bind fun p3 hp3 => p_ rfl (s_callF rfl ok338 (sim338 happ hp3)) (m_ (.tup [.int .i64 p3.1.1, .bool p3.1.2]) rfl (p_ rfl (s_extract (r := .int .i64 p3.1.1) rfl rfl) (p_ rfl (s_extract (r := .bool p3.1.2) rfl rfl) (a_ (.int .i64 p3.1.1) rfl ?_))))))))))))
  refine a_ (.bool p3.1.2) rfl (n_ (m_ (.bool p3.1.2) rfl (a_ (.bool p3.1.2) rfl (n_ (m_ (.int .i64 p3.1.1) rfl (m_ (.int .i64 v2) rfl (p_ rfl (s_sub rfl rfl) (m_ (.int .i64 v3) rfl (m_ (.int .i64 p3.1.1) rfl (p_ rfl (s_sub rfl rfl) (a_ (.int .i64 (w64 (p3.1.1 - v2))) rfl ?_)))))))))))
  refine a_ (.int .i64 (w64 (v3 - p3.1.1))) rfl (n_ (m_ (.int .i64 v8) rfl (p_ rfl (s_quo rfl rfl (by decide)) (a_ (.int .i64 (w64 (Int.tdiv v8 8))) rfl (n_ (m_ (.int .i64 (w64 (p3.1.1 - v2))) rfl (m_ (.int .i64 (w64 (v3 - p3.1.1))) rfl (p_ rfl (s_lss rfl rfl) (f_nil ?_)))))))))
  refine f_if (fun h4 => ?_) (fun h4 => ?_)
  ·refine kT 125 h4 rfl (q_ (m_ (.int .i64 (w64 (p3.1.1 - v2))) rfl (m_ (.int .i64 (w64 (Int.tdiv v8 8))) rfl (p_ rfl (s_geq rfl rfl) (a_ (.bool (decide ((w64 (Int.tdiv v8 8)) ≤ (w64 (p3.1.1 - v2))))) rfl (n_ (m_ (.sl v1) rfl (m_ (.int .i64 v2) rfl (m_ (.int .i64 p3.1.1) rfl (m_ (.int .i64 v4) rfl (m_ v5 rfl ?_)))))))))))
   exact o_bind fun p5 hp5 => p_ rfl (s_callA happ rfl hp5) (f_nil (f_region (m_ (.int .i64 p3.1.1) rfl (p_ rfl (s_add rfl rfl) (a_ (.int .i64 (w64 (p3.1.1 + 1))) rfl (f_nil (f_inBlock (f_inLoop (f_keep [0, 1, 2, 3, 4, 10, 11] (hkt0 v1 (w64 (p3.1.1 + 1)) v3 v4 v5 (decide ((w64 (Int.tdiv v8 8)) ≤ (w64 (p3.1.1 - v2)))) p3.1.2 p5.2))))))))))
  ·refine kF 125 h4 rfl (q_ (m_ (.int .i64 (w64 (v3 - p3.1.1))) rfl (m_ (.int .i64 (w64 (Int.tdiv v8 8))) rfl (p_ rfl (s_geq rfl rfl) (a_ (.bool (decide ((w64 (Int.tdiv v8 8)) ≤ (w64 (v3 - p3.1.1))))) rfl (n_ (m_ (.sl v1) rfl (m_ (.int .i64 p3.1.1) rfl (p_ rfl (s_add rfl rfl) (m_ (.int .i64 v3) rfl (m_ (.int .i64 v4) rfl ?_)))))))))))
   exact m_ v5 rfl (o_bind fun p6 hp6 => p_ rfl (s_callA happ rfl hp6) (f_nil (f_region (m_ (.int .i64 p3.1.1) rfl (a_ (.int .i64 p3.1.1) rfl (f_nil (f_inBlock (f_inLoop (f_keep [0, 1, 2, 3, 4, 10, 11] (hkt0 v1 v2 p3.1.1 v4 v5 (decide ((w64 (Int.tdiv v8 8)) ≤ (w64 (v3 - p3.1.1)))) p3.1.2 p6.2))))))))))

theorem s298_j2 {app : App} (happ : AppSim prog app) (kt0 : Sl → Int → Int → Int → AV → Bool → Bool → Hp → Option (Unit × Hp)) (hkt0 : ∀ (v1 : Sl) (v2 v3 v4 : Int) (v5 : AV) (v6 v7 : Bool) (H : Hp), Fin prog f298 ret298 148 (todoAt (bodyOf f298) [1, 1, 0, 0] []) [(0, .sl v1), (1, .int .i64 v2), (2, .int .i64 v3), (3, .int .i64 v4), (4, v5), (10, .bool v6), (11, .bool v7)] H (kt0 v1 v2 v3 v4 v5 v6 v7 H)) (v1 : Sl) (v2 v3 v4 : Int) (v5 : AV) (v6 v7 : Bool) (v8 v9 : Int) (H : Hp) : Fin prog f298 ret298 148 (todoAt (bodyOf f298) [1, 1, 0, 0, 0, 1, 1, 1, 1, 1, 1, 1] []) [(0, .sl v1), (1, .int .i64 v2), (2, .int .i64 v3), (3, .int .i64 v4), (4, v5), (10, .bool v6), (11, .bool v7), (12, .int .i64 v8), (13, .int .i64 v9)] H (r298_j2 app kt0 v1 v2 v3 v4 v5 v6 v7 v8 v9 H) := by
 unfold r298_j2
 refine f_seq (f_seq ?_)
 refine f_if (fun h1 => ?_) (fun h1 => ?_)
 ·exact f_ck fun g2 => f_bind fun x3 hx3 => f_bind fun x4 hx4 => f_bind fun x5 hx5 => f_ck fun g6 => f_bind fun x7 hx7 => f_bind fun x8 hx8 => f_bind fun x9 hx9 => f_bind fun p10 hp10 => f_bind fun x11 hx11 => f_draw (Φ := fun _ => True) (lim := 1000000) [0, 0, 0, 0, 0, 0, 0, 0, 1, 0, 0, 0, 1, 2, 0, 0, 0] (tm (.int .i64 v2) rfl (t_ rfl (fun _ => s_gtr rfl rfl) (tm (.bool (decide (0 < v2))) rfl (Trc.know 83 rfl (dec_true h1) (tm v5 rfl (tm (.sl v1) rfl (tm (.int .i64 v2) rfl (t_ rfl (fun _ => s_sub rfl rfl) (t_ rfl (fun _ => s_idx underlying58 ty63 rfl rfl g2) (tr rfl (s_loads underlying63 rfl ty63 rfl (lds_cons (ldI_eq hx3) (lds_cons (ldI_eq hx4) (lds_cons (ldI_eq hx5) (lds_nil))))) (tm (.sl v1) rfl (tm (.int .i64 v9) rfl (t_ rfl (fun _ => s_idx underlying58 ty63 rfl rfl g6) (tr rfl (s_loads underlying63 rfl ty63 rfl (lds_cons (ldI_eq hx7) (lds_cons (ldI_eq hx8) (lds_cons (ldI_eq hx9) (lds_nil))))) (Trc.eff rfl rfl rfl (fun _ => trivial) (s_callv happ rfl rfl hp10) (Trc.know 94 rfl (asI_eq hx11) (t_ rfl (fun _ => s_lss rfl rfl) (t_ rfl (fun _ => s_not rfl) (t_ rfl (fun _ => s_pickT (v := .bool (!(decide (x11 < 0)))) rfl rfl) (Trc.nil (fun _ => trivial))))))))))))))))))))) rfl (by decide +kernel) mixed (f_keep [0, 1, 2, 3, 4, 10, 11, 12, 13, 97] (s298_j1 happ _ hkt0 v1 v2 v3 v4 v5 v6 v7 v8 v9 (!(decide (x11 < 0))) p10.2))
 ·exact f_draw (Φ := fun _ => True) (lim := 1000000) [0, 0, 0, 0, 0, 0, 0, 0, 0, 0, 0, 0, 0, 0, 0, 0, 0] (tm (.int .i64 v2) rfl (t_ rfl (fun _ => s_gtr rfl rfl) (tm (.bool (decide (0 < v2))) rfl (Trc.know 83 rfl (dec_false h1) (Trc.no rfl rfl rfl (Trc.no rfl rfl rfl (Trc.no rfl rfl rfl (Trc.no rfl rfl rfl (Trc.no rfl rfl rfl (Trc.no rfl rfl rfl (Trc.no rfl rfl rfl (Trc.no rfl rfl rfl (Trc.no rfl rfl rfl (Trc.no rfl rfl rfl (Trc.no rfl rfl rfl (Trc.no rfl rfl rfl (Trc.no rfl rfl rfl (t_ rfl (fun _ => s_pickF (v := .bool false) rfl rfl) (Trc.nil (fun _ => trivial)))))))))))))))))))) rfl (by decide +kernel) mixed (f_keep [0, 1, 2, 3, 4, 10, 11, 12, 13, 97] (s298_j1 happ _ hkt0 v1 v2 v3 v4 v5 v6 v7 v8 v9 false H))

theorem s298_j3 {app : App} (happ : AppSim prog app) (kt0 : Sl → Int → Int → Int → AV → Bool → Bool → Hp → Option (Unit × Hp)) (hkt0 : ∀ (v1 : Sl) (v2 v3 v4 : Int) (v5 : AV) (v6 v7 : Bool) (H : Hp), Fin prog f298 ret298 148 (todoAt (bodyOf f298) [1, 1, 0, 0] []) [(0, .sl v1), (1, .int .i64 v2), (2, .int .i64 v3), (3, .int .i64 v4), (4, v5), (10, .bool v6), (11, .bool v7)] H (kt0 v1 v2 v3 v4 v5 v6 v7 H)) (v1 : Sl) (v2 v3 v4 : Int) (v5 : AV) (v6 v7 : Bool) (v8 v9 : Int) (v10 : Bool) (H : Hp) : Fin prog f298 ret298 148 (todoAt (bodyOf f298) [1, 1, 0, 0, 0, 1, 1, 1, 1, 1, 1, 0, 1] []) [(0, .sl v1), (1, .int .i64 v2), (2, .int .i64 v3), (3, .int .i64 v4), (4, v5), (10, .bool v6), (11, .bool v7), (12, .int .i64 v8), (13, .int .i64 v9), (75, .bool v10)] H (r298_j3 app kt0 v1 v2 v3 v4 v5 v6 v7 v8 v9 v10 H) := by
 unfold r298_j3
 refine f_if (fun h1 => ?_) (fun h1 => ?_)
 ·refine bT 75 h1 rfl (q_ (m_ (.sl v1) rfl (m_ (.int .i64 v2) rfl (m_ (.int .i64 v3) rfl (m_ v5 rfl (o_bind fun p2 hp2 => p_ rfl (s_callF rfl ok336 (sim336 happ hp2)) (f_nil ?_)))))))
  refine f_if (fun h3 => ?_) (fun h3 => ?_)
  ·exact bT 80 h3 rfl (f_ret (.nil) rfl)
  ·exact bF 80 h3 rfl (f_skip (f_keep [0, 1, 2, 3, 4, 10, 11, 12, 13] (s298_j2 happ _ hkt0 v1 v2 v3 v4 v5 v6 v7 v8 v9 p2.2)))
 ·exact bF 75 h1 rfl (f_skip (f_keep [0, 1, 2, 3, 4, 10, 11, 12, 13] (s298_j2 happ _ hkt0 v1 v2 v3 v4 v5 v6 v7 v8 v9 H)))

theorem s298_j4 {app : App} (happ : AppSim prog app) (kt0 : Sl → Int → Int → Int → AV → Bool → Bool → Hp → Option (Unit × Hp)) (hkt0 : ∀ (v1 : Sl) (v2 v3 v4 : Int) (v5 : AV) (v6 v7 : Bool) (H : Hp), Fin prog f298 ret298 148 (todoAt (bodyOf f298) [1, 1, 0, 0] []) [(0, .sl v1), (1, .int .i64 v2), (2, .int .i64 v3), (3, .int .i64 v4), (4, v5), (10, .bool v6), (11, .bool v7)] H (kt0 v1 v2 v3 v4 v5 v6 v7 H)) (v1 : Sl) (v2 v3 v4 : Int) (v5 : AV) (v6 v7 : Bool) (v8 v9 v10 : Int) (H : Hp) : Fin prog f298 ret298 148 (todoAt (bodyOf f298) [1, 1, 0, 0, 0, 1, 1, 1, 1, 1, 1] []) [(0, .sl v1), (1, .int .i64 v2), (2, .int .i64 v3), (3, .int .i64 v4), (4, v5), (10, .bool v6), (11, .bool v7), (12, .int .i64 v8), (13, .int .i64 v9), (14, .int .i64 v10)] H (r298_j4 app kt0 v1 v2 v3 v4 v5 v6 v7 v8 v9 v10 H) := by
 unfold r298_j4
 refine f_seq (q_ (m_ (.bool v6) rfl (m_ (.bool v6) rfl ?_)))
 refine o_if (fun h1 => ?_) (fun h1 => ?_)
 ·refine o_know 69 rfl (bool_T h1) (m_ (.bool v7) rfl (p_ rfl (s_pickT (v := .bool v7) rfl rfl) (m_ (.bool v7) rfl ?_)))
  refine o_if (fun h2 => ?_) (fun h2 => ?_)
  ·exact o_know 72 rfl (bool_T h2) (m_ (.int .i64 v10) rfl (p_ rfl (s_eql rfl rfl) (p_ rfl (s_pickT (v := .bool (decide (v10 = 1))) rfl rfl) (f_nil (f_know 10 rfl (bool_T h1) (f_know 11 rfl (bool_T h2) (f_keep [0, 1, 2, 3, 4, 10, 11, 12, 13, 75] (s298_j3 happ _ hkt0 v1 v2 v3 v4 v5 true true v8 v9 (decide (v10 = 1)) H))))))))
  ·exact o_know 72 rfl (bool_F h2) (no_ rfl (no_ rfl (p_ rfl (s_pickF (v := .bool false) rfl rfl) (f_nil (f_know 10 rfl (bool_T h1) (f_know 11 rfl (bool_F h2) (f_keep [0, 1, 2, 3, 4, 10, 11, 12, 13, 75] (s298_j3 happ _ hkt0 v1 v2 v3 v4 v5 true false v8 v9 false H))))))))
 ·exact o_know 69 rfl (bool_F h1) (no_ rfl (p_ rfl (s_pickF (v := .bool false) rfl rfl) (m_ (.bool false) rfl (no_ rfl (no_ rfl (p_ rfl (s_pickF (v := .bool false) rfl rfl) (f_nil (f_know 10 rfl (bool_F h1) (f_keep [0, 1, 2, 3, 4, 10, 11, 12, 13, 75] (s298_j3 happ _ hkt0 v1 v2 v3 v4 v5 false v7 v8 v9 false H))))))))))

theorem s298_j5 {app : App} (happ : AppSim prog app) (kt0 : Sl → Int → Int → Int → AV → Bool → Bool → Hp → Option (Unit × Hp)) (hkt0 : ∀ (v1 : Sl) (v2 v3 v4 : Int) (v5 : AV) (v6 v7 : Bool) (H : Hp), Fin prog f298 ret298 148 (todoAt (bodyOf f298) [1, 1, 0, 0] []) [(0, .sl v1), (1, .int .i64 v2), (2, .int .i64 v3), (3, .int .i64 v4), (4, v5), (10, .bool v6), (11, .bool v7)] H (kt0 v1 v2 v3 v4 v5 v6 v7 H)) (v1 : Sl) (v2 v3 v4 : Int) (v5 : AV) (v6 v7 : Bool) (v8 : Int) (H : Hp) : Fin prog f298 ret298 148 (todoAt (bodyOf f298) [1, 1, 0, 0, 0, 1, 1, 1, 1] []) [(0, .sl v1), (1, .int .i64 v2), (2, .int .i64 v3), (3, .int .i64 v4), (4, v5), (10, .bool v6), (11, .bool v7), (12, .int .i64 v8)] H (r298_j5 app kt0 v1 v2 v3 v4 v5 v6 v7 v8 H) := by
 unfold r298_j5
 refine q_ (m_ (.sl v1) rfl (m_ (.int .i64 v2) rfl (m_ (.int .i64 v3) rfl (m_ v5 rfl (o_bind fun p1 hp1 => p_ rfl (s_callF rfl ok334 (sim334 happ hp1)) (m_ (.tup [.int .i64 p1.1.1, .int .i64 p1.1.2]) rfl (p_ rfl (s_extract (r := .int .i64 p1.1.1) rfl rfl) (p_ rfl (s_extract (r := .int .i64 p1.1.2) rfl rfl) (a_ (.int .i64 p1.1.1) rfl (a_ (.int .i64 p1.1.2) rfl (f_nil (f_seq (f_seq ?_)))))))))))))
 refine f_region (m_ (.int .i64 p1.1.2) rfl (p_ rfl (s_eql rfl rfl) (f_nil ?_)))
 refine f_if (fun h2 => ?_) (fun h2 => ?_)
 ·refine kT 56 h2 rfl (q_ (m_ (.sl v1) rfl (m_ (.int .i64 v2) rfl (m_ (.int .i64 v3) rfl (m_ v5 rfl (o_bind fun p3 hp3 => p_ rfl (s_callF rfl ok335 (sim335 hp3)) (n_ (m_ (.int .i64 v3) rfl (p_ rfl (s_sub rfl rfl) (m_ (.int .i64 p1.1.1) rfl ?_))))))))))
  exact m_ (.int .i64 v2) rfl (p_ rfl (s_sub rfl rfl) (p_ rfl (s_sub rfl rfl) (a_ (.int .i64 (w64 ((w64 (v3 - 1)) - (w64 (p1.1.1 - v2))))) rfl (f_nil (f_region (a_ (.int .i64 1) rfl (f_nil (f_keep [0, 1, 2, 3, 4, 10, 11, 12, 13, 14] (s298_j4 happ _ hkt0 v1 v2 v3 v4 v5 v6 v7 v8 (w64 ((w64 (v3 - 1)) - (w64 (p1.1.1 - v2)))) 1 p3.2)))))))))
 ·exact kF 56 h2 rfl (f_skip (f_keep [0, 1, 2, 3, 4, 10, 11, 12, 13, 14] (s298_j4 happ _ hkt0 v1 v2 v3 v4 v5 v6 v7 v8 p1.1.1 p1.1.2 p1.2)))

theorem s298_l0 {app : App} (happ : AppSim prog app) : ∀ (k_ : Nat) (v1 : Sl) (v2 v3 v4 : Int) (v5 : AV) (v6 v7 : Bool) (H : Hp), Fin prog f298 ret298 148 (todoAt (bodyOf f298) [1, 1, 0, 0] []) [(0, .sl v1), (1, .int .i64 v2), (2, .int .i64 v3), (3, .int .i64 v4), (4, v5), (10, .bool v6), (11, .bool v7)] H (r298_l0 app k_ v1 v2 v3 v4 v5 v6 v7 H) := by
 intro k_
 induction k_ with
 | zero => intro _ _ _ _ _ _ _ _; exact f_none
 | succ k_ ih =>
  intro v1 v2 v3 v4 v5 v6 v7 H
  rw [r298_l0]
  refine f_block (q_ (m_ (.int .i64 v3) rfl (m_ (.int .i64 v2) rfl (p_ rfl (s_sub rfl rfl) (a_ (.int .i64 (w64 (v3 - v2))) rfl (f_nil (f_seq (q_ (m_ (.int .i64 (w64 (v3 - v2))) rfl (p_ rfl (s_leq rfl rfl) (f_nil ?_)))))))))))
  refine f_if (fun h1 => ?_) (fun h1 => ?_)
  ·exact kT 25 h1 rfl (q_ (m_ (.sl v1) rfl (m_ (.int .i64 v2) rfl (m_ (.int .i64 v3) rfl (m_ v5 rfl (o_bind fun p2 hp2 => p_ rfl (s_callF rfl ok331 (sim331 happ hp2)) (f_nil (f_ret (.nil) rfl))))))))
  ·refine kF 25 h1 rfl (f_skip (f_seq (q_ (m_ (.int .i64 v4) rfl (p_ rfl (s_eql rfl rfl) (f_nil ?_))))))
   refine f_if (fun h3 => ?_) (fun h3 => ?_)
   ·exact kT 32 h3 rfl (q_ (m_ (.sl v1) rfl (m_ (.int .i64 v2) rfl (m_ (.int .i64 v3) rfl (m_ v5 rfl (o_bind fun p4 hp4 => p_ rfl (s_callF rfl ok332 (sim332 happ hp4)) (f_nil (f_ret (.nil) rfl))))))))
   ·refine kF 32 h3 rfl (f_skip (f_seq (q_ (m_ (.bool v6) rfl (p_ rfl (s_not rfl) (f_nil ?_))))))
    refine f_if (fun h5 => ?_) (fun h5 => ?_)
    ·exact f_know 39 rfl (bool_notT h5) (f_condF rfl (f_skip (f_know 10 rfl (bool_T h5) (f_keep [0, 1, 2, 3, 4, 10, 11, 12] (s298_j5 happ _ ih v1 v2 v3 v4 v5 true v7 (w64 (v3 - v2)) H)))))
    ·refine f_know 39 rfl (bool_notF h5) (f_condT rfl (q_ (m_ (.sl v1) rfl (m_ (.int .i64 v2) rfl (m_ (.int .i64 v3) rfl (m_ v5 rfl (o_bind fun p6 hp6 => p_ rfl (s_callF rfl ok333 (sim333 hp6)) (f_nil (f_region (m_ (.int .i64 v4) rfl (p_ rfl (s_sub rfl rfl) (a_ (.int .i64 (w64 (v4 - 1))) rfl (f_nil ?_)))))))))))))
     exact f_know 10 rfl (bool_F h5) (f_keep [0, 1, 2, 3, 4, 10, 11, 12] (s298_j5 happ _ ih v1 v2 v3 (w64 (v4 - 1)) v5 false v7 (w64 (v3 - v2)) p6.2))

theorem sim298 {app : App} (happ : AppSim prog app) {a0 : Sl} {a1 : Int} {a2 : Int} {a3 : Int} {a4 : AV} {H : Hp} {p : Unit × Hp} (h : r298 app a0 a1 a2 a3 a4 H = some p) : CallSim prog 298 [.sl a0, .int .i64 a1, .int .i64 a2, .int .i64 a3, a4] H (.tup []) p.2 := by
 refine callSim (fn := f298) (ret := ret298) func298 rfl Tryz.ntmps298 rfl ?_ h
 unfold r298
 exact q_ (a_ (.bool true) rfl (n_ (a_ (.bool true) rfl (f_nil (f_block (f_loop (f_keep [0, 1, 2, 3, 4, 10, 11] (s298_l0 happ FUEL a0 a1 a2 a3 a4 true true H))))))))

/- 235 slices.SortFunc[[]congou/sketch.Count,congou/sketch.Count] -/
theorem ok235 : FnOk prog 235 := ⟨⟨f235, func235, by kernel_rfl, rfl⟩⟩
theorem sim235 {app : App} (happ : AppSim prog app) {a0 : Sl} {a1 : AV} {H : Hp} {p : Unit × Hp} (h : r235 app a0 a1 H = some p) : CallSim prog 235 [.sl a0, a1] H (.tup []) p.2 := by
 refine callSim (fn := f235) (ret := ret235) func235 rfl Tryz.ntmps235 rfl ?_ h
 unfold r235
 refine q_ (m_ (.sl a0) rfl (p_ rfl (s_lenS rfl underlying58 rfl) (a_ (.int .i64 (a0.len : Int)) rfl (f_nil (f_region (m_ (.sl a0) rfl (m_ (.int .i64 (a0.len : Int)) rfl (m_ (.int .i64 (a0.len : Int)) rfl (p_ rfl (s_convInt underlying3 underlying46 rfl) (o_bind fun p1 hp1 => p_ rfl (s_callF rfl ok296 (sim296 hp1)) (m_ a1 rfl (o_bind fun p2 hp2 => p_ rfl (s_callF rfl ok298 (sim298 happ hp2)) ?_))))))))))))
 exact f_nil (f_end (.nil) rfl)

/- 176 slices.SortedFunc[congou/sketch.Count] -/
theorem ok176 : FnOk prog 176 := ⟨⟨f176, func176, by kernel_rfl, rfl⟩⟩
theorem sim176 {app : App} (happ : AppSim prog app) {a0 : AV} {a1 : AV} {H : Hp} {p : Sl × Hp} (h : r176 app a0 a1 H = some p) : CallSim prog 176 [a0, a1] H (.sl p.1) p.2 := by
 refine callSim (fn := f176) (ret := ret176) func176 rfl Tryz.ntmps176 rfl ?_ h
 unfold r176
 refine q_ (a_ (.sl ⟨true, 0, 0, 0, 0, 0⟩) rfl (n_ (m_ a0 rfl (o_bind fun p1 hp1 => p_ rfl (s_callF rfl ok234 (sim234 happ hp1)) (a_ (.sl p1.1) rfl (n_ (m_ (.sl p1.1) rfl (m_ a1 rfl (o_bind fun p2 hp2 => ?_)))))))))
 exact p_ rfl (s_callF rfl ok235 (sim235 happ hp2)) (n_ (m_ (.sl p1.1) rfl (a_ (.sl p1.1) rfl (f_nil (f_ret (.tmp rfl (.nil)) rfl)))))

/- 177 slices.Values[[]congou/sketch.Count,congou/sketch.Count] -/
theorem ok177 : FnOk prog 177 := ⟨⟨f177, func177, by kernel_rfl, rfl⟩⟩
theorem sim177 {a0 : Sl} {H : Hp} {p : AV × Hp} (h : r177 a0 H = some p) : CallSim prog 177 [.sl a0] H (p.1) p.2 := by
 refine callSim (fn := f177) (ret := ret177) func177 rfl Tryz.ntmps177 rfl ?_ h
 unfold r177
 exact q_ (p_ rfl (s_box1 (v := .sl a0) rfl rfl) (a_ (.nilfn) rfl (o_hp fun H1 hH1 => n_ (p_ rfl (s_makeFunc rfl rfl) (a_ (.fn 236 [] [.ptr H.n 0]) rfl (f_nil (f_ret (.tmp rfl (.nil)) rfl)))))))

/- 237 cmp.isNaN[int] -/
theorem ok237 : FnOk prog 237 := ⟨⟨f237, func237, by kernel_rfl, rfl⟩⟩
theorem sim237 {a0 : Int} {H : Hp} {p : Bool × Hp} (h : r237 a0 H = some p) : CallSim prog 237 [.int .i64 a0] H (.bool p.1) p.2 := by
 refine callSim (fn := f237) (ret := ret237) func237 rfl Tryz.ntmps237 rfl ?_ h
 unfold r237
 exact q_ (a_ (.bool false) rfl (n_ (m_ (.int .i64 a0) rfl (m_ (.int .i64 a0) rfl (p_ rfl (s_neq rfl rfl) (a_ (.bool (decide (a0 ≠ a0))) rfl (f_nil (f_ret (.tmp rfl (.nil)) rfl))))))))

/- 179 cmp.Compare[int] -/
theorem ok179 : FnOk prog 179 := ⟨⟨f179, func179, by kernel_rfl, rfl⟩⟩
theorem sim179 {a0 : Int} {a1 : Int} {H : Hp} {p : Int × Hp} (h : r179 a0 a1 H = some p) : CallSim prog 179 [.int .i64 a0, .int .i64 a1] H (.int .i64 p.1) p.2 := by
 refine callSim (fn := f179) (ret := ret179) func179 rfl Tryz.ntmps179 rfl ?_ h
 unfold r179
 refine q_ (a_ (.int .i64 0) rfl (n_ (m_ (.int .i64 a0) rfl (o_bind fun p1 hp1 => p_ rfl (s_callF rfl ok237 (sim237 hp1)) (a_ (.bool p1.1) rfl (n_ (m_ (.int .i64 a1) rfl (o_bind fun p2 hp2 => p_ rfl (s_callF rfl ok237 (sim237 hp2)) ?_))))))))
 refine a_ (.bool p2.1) rfl (f_nil (f_seq (q_ (m_ (.bool p1.1) rfl (f_nil ?_)))))
 refine f_if (fun h3 => ?_) (fun h3 => ?_)
 ·refine bT 11 h3 rfl (f_seq (q_ (m_ (.bool p2.1) rfl (f_nil ?_))))
  refine f_if (fun h4 => ?_) (fun h4 => ?_)
  ·exact bT 12 h4 rfl (q_ (a_ (.int .i64 0) rfl (f_nil (f_ret (.tmp rfl (.nil)) rfl))))
  ·exact bF 12 h4 rfl (f_skip (q_ (a_ (.int .i64 (-1)) rfl (f_nil (f_ret (.tmp rfl (.nil)) rfl)))))
 ·refine bF 11 h3 rfl (f_skip (f_seq (q_ (m_ (.bool p2.1) rfl (f_nil ?_)))))
  refine f_if (fun h5 => ?_) (fun h5 => ?_)
  ·exact bT 13 h5 rfl (q_ (a_ (.int .i64 1) rfl (f_nil (f_ret (.tmp rfl (.nil)) rfl))))
  ·refine bF 13 h5 rfl (f_skip (f_seq (q_ (m_ (.int .i64 a0) rfl (m_ (.int .i64 a1) rfl (p_ rfl (s_lss rfl rfl) (f_nil ?_)))))))
   refine f_if (fun h6 => ?_) (fun h6 => ?_)
   ·exact kT 16 h6 rfl (q_ (a_ (.int .i64 (-1)) rfl (f_nil (f_ret (.tmp rfl (.nil)) rfl))))
   ·refine kF 16 h6 rfl (f_skip (f_seq (q_ (m_ (.int .i64 a0) rfl (m_ (.int .i64 a1) rfl (p_ rfl (s_gtr rfl rfl) (f_nil ?_)))))))
    refine f_if (fun h7 => ?_) (fun h7 => ?_)
    ·exact kT 19 h7 rfl (q_ (a_ (.int .i64 1) rfl (f_nil (f_ret (.tmp rfl (.nil)) rfl))))
    ·exact kF 19 h7 rfl (f_skip (q_ (a_ (.int .i64 0) rfl (f_nil (f_ret (.tmp rfl (.nil)) rfl)))))

/- 178 (*congou/sketch.list).told$1 -/
theorem ok178 : FnOk prog 178 := ⟨⟨f178, func178, by kernel_rfl, rfl⟩⟩
theorem sim178 {a0_0 : Int} {a0_1 : Int} {a0_2 : Int} {a1_0 : Int} {a1_1 : Int} {a1_2 : Int} {H : Hp} {p : Int × Hp} (h : r178 a0_0 a0_1 a0_2 a1_0 a1_1 a1_2 H = some p) : CallSim prog 178 [.agg [.int .i64 a0_0, .int .i64 a0_1, .int .i64 a0_2], .agg [.int .i64 a1_0, .int .i64 a1_1, .int .i64 a1_2]] H (.int .i64 p.1) p.2 := by
 refine callSim (fn := f178) (ret := ret178) func178 rfl Tryz.ntmps178 rfl ?_ h
 unfold r178
 refine q_ (p_ rfl (s_box (v := .agg [.int .i64 a0_0, .int .i64 a0_1, .int .i64 a0_2]) rfl rfl) (p_ rfl (s_box (v := .agg [.int .i64 a1_0, .int .i64 a1_1, .int .i64 a1_2]) rfl rfl) (a_ (.int .i64 0) rfl (o_hp fun H1 hH1 => n_ (p_ rfl (s_fieldAddr underlying63 rfl ty3 rfl) (o_bind fun x2 hx2 => p_ rfl (s_load underlying3 rfl rfl (ldI_eq hx2)) (p_ rfl (s_fieldAddr underlying63 rfl ty3 rfl) (o_bind fun x3 hx3 => p_ rfl (s_load underlying3 rfl rfl (ldI_eq hx3)) (o_bind fun p4 hp4 => ?_)))))))))
 exact p_ rfl (s_callF rfl ok179 (sim179 hp4)) (a_ (.int .i64 p4.1) rfl (f_nil (f_ret (.tmp rfl (.nil)) rfl)))

/- 126 (*congou/sketch.list).told -/
theorem ok126 : FnOk prog 126 := ⟨⟨f126, func126, by kernel_rfl, rfl⟩⟩
theorem sim126 {app : App} (happ : AppSim prog app) {a0b : Nat} {a0o : Nat} {H : Hp} {p : Sl × Hp} (h : r126 app a0b a0o H = some p) : CallSim prog 126 [.ptr a0b a0o] H (.sl p.1) p.2 := by
 refine callSim (fn := f126) (ret := ret126) func126 rfl Tryz.ntmps126 rfl ?_ h
 unfold r126
 refine q_ (a_ (.sl ⟨true, 0, 0, 0, 0, 0⟩) rfl (n_ (m_ (.ptr a0b a0o) rfl (p_ rfl (s_nilCheck rfl) (p_ rfl (s_fieldAddr underlying129 rfl ty58 rfl) (o_bind fun x1 hx1 => p_ rfl (s_load underlying58 rfl rfl (ldSl_eq hx1)) (o_bind fun p2 hp2 => p_ rfl (s_callF rfl ok177 (sim177 hp2)) (o_bind fun p3 hp3 => p_ rfl (s_callF rfl ok176 (sim176 happ hp3)) (a_ (.sl p3.1) rfl ?_)))))))))
 exact f_nil (f_ret (.tmp rfl (.nil)) rfl)

/- 72 (*congou/sketch.list).read -/
theorem ok72 : FnOk prog 72 := ⟨⟨f72, func72, by kernel_rfl, rfl⟩⟩
theorem s72_l0 {app : App} (happ : AppSim prog app) : ∀ (k_ v1 v2 : Nat) (v3 : Sl) (v4 v5 : Int) (H : Hp), Fin prog f72 ret72 63 (todoAt (bodyOf f72) [1, 0, 1, 0, 0] []) [(0, .ptr v1 v2), (8, .sl v3), (9, .int .i64 v4), (10, .int .i64 v5)] H (r72_l0 app k_ v1 v2 v3 v4 v5 H) := by
 intro k_
 induction k_ with
 | zero => intro _ _ _ _ _ _; exact f_none
 | succ k_ ih =>
  intro v1 v2 v3 v4 v5 H
  rw [r72_l0]
  refine q_ (p_ rfl (s_lss rfl rfl) (f_nil (f_seq ?_)))
  refine f_if (fun h1 => ?_) (fun h1 => ?_)
  ·refine kT 11 h1 rfl (f_skip (f_seq (f_block (q_ (o_ck fun g2 => p_ rfl (s_idx underlying25 ty3 rfl rfl g2) (o_bind fun x3 hx3 => p_ rfl (s_load underlying3 rfl rfl (ldI_eq hx3)) (a_ (.int .i64 x3) rfl (n_ (m_ (.ptr v1 v2) rfl ?_)))))))))
   refine m_ (.int .i64 x3) rfl (o_bind fun p4 hp4 => p_ rfl (s_callF rfl ok125 (sim125 happ hp4)) (a_ (.int .i64 p4.1) rfl (f_nil (f_block (q_ (m_ (.int .i64 p4.1) rfl (p_ rfl (s_geq rfl rfl) (a_ (.bool (decide (0 ≤ p4.1))) rfl (f_nil ?_)))))))))
   refine f_if (fun h5 => ?_) (fun h5 => ?_)
   ·refine kT 24 h5 rfl (f_region (m_ (.ptr v1 v2) rfl (p_ rfl (s_nilCheck rfl) (p_ rfl (s_fieldAddr underlying129 rfl ty58 rfl) (o_bind fun x6 hx6 => p_ rfl (s_load underlying58 rfl rfl (ldSl_eq hx6)) (m_ (.int .i64 p4.1) rfl (o_ck fun g7 => p_ rfl (s_idx underlying58 ty63 rfl rfl g7) (p_ rfl (s_fieldAddr underlying63 rfl ty3 rfl) (o_bind fun x8 hx8 => p_ rfl (s_load underlying3 rfl rfl (ldI_eq hx8)) (p_ rfl (s_add rfl rfl) (o_ck fun g9 => ?_)))))))))))
    exact p_ rfl (s_idx underlying58 ty63 rfl rfl g9) (p_ rfl (s_fieldAddr underlying63 rfl ty3 rfl) (o_bind fun H10 hH10 => p_ rfl (s_store (s := 1) ty3 rfl rfl rfl hH10) (f_nil (f_inBlock (f_inBlock (f_region (p_ rfl (s_add rfl rfl) (m_ (.int .i64 (w64 (v5 + 1))) rfl (f_nil (f_inLoop (f_keep [0, 8, 9, 10] (ih v1 v2 v3 v4 (w64 (v5 + 1)) H10))))))))))))
   ·refine kF 24 h5 rfl (f_seq (f_bind fun x11 hx11 => f_bind fun x12 hx12 => f_draw (Φ := fun _ => True) (lim := 1000000) [0, 0, 0, 1, 0, 0, 0, 0, 1, 0, 0] (tm (.ptr v1 v2) rfl (t_ rfl (fun _ => s_nilCheck rfl) (t_ rfl (fun _ => s_fieldAddr underlying129 rfl ty58 rfl) (tr rfl (s_load underlying58 rfl rfl (ldSl_eq hx11)) (t_ rfl (fun _ => s_lenS rfl underlying58 rfl) (tm (.ptr v1 v2) rfl (t_ rfl (fun _ => s_nilCheck rfl) (t_ rfl (fun _ => s_fieldAddr underlying129 rfl ty3 rfl) (tr rfl (s_load underlying3 rfl rfl (ldI_eq hx12)) (t_ rfl (fun _ => s_lss rfl rfl) (t_ rfl (fun _ => s_as (v := .bool (decide ((x11.len : Int) < x12))) rfl) (Trc.nil (fun _ => trivial))))))))))))) rfl (by decide +kernel) mixed ?_))
    refine f_if (fun h13 => ?_) (fun h13 => ?_)
    ·refine kT 38 h13 rfl (f_region (m_ (.ptr v1 v2) rfl (m_ (.ptr v1 v2) rfl (p_ rfl (s_nilCheck rfl) (p_ rfl (s_fieldAddr underlying129 rfl ty58 rfl) (o_bind fun x14 hx14 => p_ rfl (s_load underlying58 rfl rfl (ldSl_eq hx14)) (m_ (.int .i64 x3) rfl (p_ rfl (s_build (cs := [.int .i64 x3, .int .i64 1, .int .i64 0]) underlying63 ty63 rfl pl63 rfl) (p_ rfl (s_buildSlice (cs := [.int .i64 x3, .int .i64 1, .int .i64 0]) underlying58 ty63 (by decide) (by decide) rfl (by decide) rfl) (o_bind fun x15 hx15 => p_ rfl (s_ap rfl rfl underlying58 underlying58 ty63 rfl rfl rfl rfl rfl rfl rfl hx15) (p_ rfl (s_nilCheck rfl) (p_ rfl (s_fieldAddr underlying129 rfl ty58 rfl) ?_))))))))))))
     exact o_bind fun H16 hH16 => p_ rfl (s_store (s := 1) ty58 rfl rfl rfl hH16) (f_nil (f_inBlock (f_inBlock (f_region (p_ rfl (s_add rfl rfl) (m_ (.int .i64 (w64 (v5 + 1))) rfl (f_nil (f_inLoop (f_keep [0, 8, 9, 10] (ih v1 v2 v3 v4 (w64 (v5 + 1)) H16))))))))))
    ·refine kF 38 h13 rfl (f_region (m_ (.ptr v1 v2) rfl (p_ rfl (s_nilCheck rfl) (p_ rfl (s_fieldAddr underlying129 rfl ty126 rfl) (o_bind fun x17 hx17 => p_ rfl (s_load underlying126 rfl rfl (ldV_eq hx17)) (m_ (.ptr v1 v2) rfl (m_ (.int .i64 x3) rfl (o_bind fun p18 hp18 => p_ rfl (s_callv happ rfl rfl hp18) (f_nil (f_inBlock (f_inBlock (f_region ?_))))))))))))
     exact p_ rfl (s_add rfl rfl) (m_ (.int .i64 (w64 (v5 + 1))) rfl (f_nil (f_inLoop (f_keep [0, 8, 9, 10] (ih v1 v2 v3 v4 (w64 (v5 + 1)) p18.2)))))
  ·exact kF 11 h1 rfl (f_exit rfl (q_ (m_ (.ptr v1 v2) rfl (o_bind fun p19 hp19 => p_ rfl (s_callF rfl ok126 (sim126 happ hp19)) (a_ (.sl p19.1) rfl (f_nil (f_ret (.tmp rfl (.nil)) rfl)))))))

theorem sim72 {app : App} (happ : AppSim prog app) {a0b : Nat} {a0o : Nat} {a1 : Sl} {H : Hp} {p : Sl × Hp} (h : r72 app a0b a0o a1 H = some p) : CallSim prog 72 [.ptr a0b a0o, .sl a1] H (.sl p.1) p.2 := by
 refine callSim (fn := f72) (ret := ret72) func72 rfl Tryz.ntmps72 rfl ?_ h
 unfold r72
 exact q_ (a_ (.sl ⟨true, 0, 0, 0, 0, 0⟩) rfl (f_nil (f_seq (q_ (m_ (.sl a1) rfl (p_ rfl (s_lenS rfl underlying25 rfl) (m_ (.int .i64 0) rfl (f_nil (f_block (f_loop (f_keep [0, 8, 9, 10] (s72_l0 happ FUEL a0b a0o a1 (a1.len : Int) 0 H))))))))))))

/- 26 congou/sketch.Short -/
theorem ok26 : FnOk prog 26 := ⟨⟨f26, func26, by kernel_rfl, rfl⟩⟩
theorem s26_j0 {app : App} (happ : AppSim prog app) (v1 : Int) (v2 : Sl) (v3 : Bool) (H : Hp) : Fin prog f26 ret26 19 (todoAt (bodyOf f26) [1, 0, 1] []) [(0, .int .i64 v1), (1, .sl v2), (13, .bool v3)] H (r26_j0 app v1 v2 v3 H) := by
 unfold r26_j0
 refine f_if (fun h1 => ?_) (fun h1 => ?_)
 ·exact bT 13 h1 rfl (q_ (a_ (.sl ⟨true, 0, 0, 0, 0, 0⟩) rfl (a_ (.int .i64 2) rfl (f_nil (f_ret (.tmp rfl (.tmp rfl (.nil))) rfl)))))
 ·exact bF 13 h1 rfl (f_skip (q_ (m_ (.int .i64 v1) rfl (p_ rfl (s_build (cs := [.int .i64 v1, .fn 71 [] [], .sl ⟨true, 0, 0, 0, 0, 0⟩]) underlying129 ty129 rfl pl129 rfl) (p_ rfl (s_box (v := .agg [.int .i64 v1, .fn 71 [] [], .sl ⟨true, 0, 0, 0, 0, 0⟩]) rfl rfl) (m_ (.sl v2) rfl (o_bind fun p2 hp2 => p_ rfl (s_callF rfl ok72 (sim72 happ hp2)) (a_ (.sl p2.1) rfl (a_ (.int .i64 0) rfl (f_nil (f_ret (.tmp rfl (.tmp rfl (.nil))) rfl)))))))))))

theorem sim26 {app : App} (happ : AppSim prog app) {a0 : Int} {a1 : Sl} {H : Hp} {p : (Sl × Int) × Hp} (h : r26 app a0 a1 H = some p) : CallSim prog 26 [.int .i64 a0, .sl a1] H (.tup [.sl p.1.1, .int .i64 p.1.2]) p.2 := by
 refine callSim (fn := f26) (ret := ret26) func26 rfl Tryz.ntmps26 rfl ?_ h
 unfold r26
 refine q_ (a_ (.sl ⟨true, 0, 0, 0, 0, 0⟩) rfl (a_ (.int .i64 0) rfl (f_nil (f_seq (q_ (m_ (.int .i64 a0) rfl (o_bind fun p1 hp1 => p_ rfl (s_callF rfl ok68 (sim68 hp1)) (p_ rfl (s_not rfl) (m_ (.bool (!p1.1)) rfl ?_)))))))))
 refine o_if (fun h2 => ?_) (fun h2 => ?_)
 ·exact o_know 9 rfl (bool_notT h2) (m_ (.sl a1) rfl (o_bind fun p3 hp3 => p_ rfl (s_callF rfl ok69 (sim69 happ hp3)) (p_ rfl (s_not rfl) (p_ rfl (s_pickF (v := .bool (!p3.1)) rfl rfl) (f_nil (f_keep [0, 1, 13] (s26_j0 happ a0 a1 (!p3.1) p3.2)))))))
 ·exact o_know 9 rfl (bool_notF h2) (no_ rfl (no_ rfl (no_ rfl (p_ rfl (s_pickT (v := .bool true) rfl rfl) (f_nil (f_keep [0, 1, 13] (s26_j0 happ a0 a1 true p1.2)))))))

/- 27 slices.ContainsFunc[[]congou/sketch.Count,congou/sketch.Count] -/
theorem ok27 : FnOk prog 27 := ⟨⟨f27, func27, by kernel_rfl, rfl⟩⟩
theorem sim27 {app : App} (happ : AppSim prog app) {a0 : Sl} {a1 : AV} {H : Hp} {p : Bool × Hp} (h : r27 app a0 a1 H = some p) : CallSim prog 27 [.sl a0, a1] H (.bool p.1) p.2 := by
 refine callSim (fn := f27) (ret := ret27) func27 rfl Tryz.ntmps27 rfl ?_ h
 unfold r27
 exact q_ (a_ (.bool false) rfl (n_ (m_ (.sl a0) rfl (m_ a1 rfl (o_bind fun p1 hp1 => p_ rfl (s_callF rfl ok73 (sim73 happ hp1)) (p_ rfl (s_geq rfl rfl) (a_ (.bool (decide (0 ≤ p1.1))) rfl (f_nil (f_ret (.tmp rfl (.nil)) rfl)))))))))

/- 29 congou/sketch.Often -/
theorem ok29 : FnOk prog 29 := ⟨⟨f29, func29, by kernel_rfl, rfl⟩⟩
theorem s29_j0 {app : App} (happ : AppSim prog app) (v1 : Sl) (v2 : Int) (v3 : Bool) (H : Hp) : Fin prog f29 ret29 18 (todoAt (bodyOf f29) [1, 0, 1] []) [(0, .sl v1), (1, .int .i64 v2), (13, .bool v3)] H (r29_j0 app v1 v2 v3 H) := by
 unfold r29_j0
 refine f_if (fun h1 => ?_) (fun h1 => ?_)
 ·exact bT 13 h1 rfl (q_ (a_ (.int .i64 0) rfl (a_ (.int .i64 2) rfl (f_nil (f_ret (.tmp rfl (.tmp rfl (.nil))) rfl)))))
 ·refine bF 13 h1 rfl (f_skip (q_ (m_ (.sl v1) rfl (o_bind fun p2 hp2 => p_ rfl (s_callF rfl ok70 (sim70 hp2)) (m_ (.int .i64 v2) rfl (o_ck fun g3 => o_bind fun x4 hx4 => o_bind fun x5 hx5 => p_ rfl (s_index underlying123 underlying3 ty3 rfl rfl g3 hx4) (o_know 17 rfl (asI_eq hx5) (a_ (.int .i64 x5) rfl (a_ (.int .i64 0) rfl ?_)))))))))
  exact f_nil (f_ret (.tmp rfl (.tmp rfl (.nil))) rfl)

theorem sim29 {app : App} (happ : AppSim prog app) {a0 : Sl} {a1 : Int} {H : Hp} {p : (Int × Int) × Hp} (h : r29 app a0 a1 H = some p) : CallSim prog 29 [.sl a0, .int .i64 a1] H (.tup [.int .i64 p.1.1, .int .i64 p.1.2]) p.2 := by
 refine callSim (fn := f29) (ret := ret29) func29 rfl Tryz.ntmps29 rfl ?_ h
 unfold r29
 refine q_ (a_ (.int .i64 0) rfl (a_ (.int .i64 0) rfl (f_nil (f_seq (q_ (m_ (.sl a0) rfl (o_bind fun p1 hp1 => p_ rfl (s_callF rfl ok69 (sim69 happ hp1)) (p_ rfl (s_not rfl) (m_ (.bool (!p1.1)) rfl ?_)))))))))
 refine o_if (fun h2 => ?_) (fun h2 => ?_)
 ·exact o_know 9 rfl (bool_notT h2) (m_ (.int .i64 a1) rfl (o_bind fun p3 hp3 => p_ rfl (s_callF rfl ok74 (sim74 hp3)) (p_ rfl (s_not rfl) (p_ rfl (s_pickF (v := .bool (!p3.1)) rfl rfl) (f_nil (f_keep [0, 1, 13] (s29_j0 happ a0 a1 (!p3.1) p3.2)))))))
 ·exact o_know 9 rfl (bool_notF h2) (no_ rfl (no_ rfl (no_ rfl (p_ rfl (s_pickT (v := .bool true) rfl rfl) (f_nil (f_keep [0, 1, 13] (s29_j0 happ a0 a1 true p1.2)))))))

end Go.Lt.P10
