/- PRINTED BY A PROGRAM OF OURS: what each function that 'TopGap' reaches computes on the abstract heap, and that the translated code does just that. Nothing is asked of the input. -/
import Derived.Test.YtopildlfbhfghaaGreatDoorG4P5
set_option linter.unusedVariables false
set_option linter.unusedSimpArgs false
set_option maxRecDepth 100000
set_option maxHeartbeats 4000000
namespace Go.Lt.P10
open Go Go.Lt Go.Proofs Go.Proofs.Tryz
/- 329 slices.partitionCmpFunc[int] -/
theorem ok329 : FnOk prog 329 := ⟨⟨f329, func329, by kernel_rfl, rfl⟩⟩
theorem s329_j8 {app : App} (happ : AppSim prog app) (kt3 : Sl → Int → AV → Int → Int → Hp → Option ((Int × Bool) × Hp)) (hkt3 : ∀ (v1 : Sl) (v2 : Int) (v3 : AV) (v4 v5 : Int) (H : Hp), Fin prog f329 ret329 178 (todoAt (bodyOf f329) [1, 1, 1, 1, 1, 1, 1, 1, 1, 0, 0, 0] []) [(0, .sl v1), (1, .int .i64 v2), (4, v3), (12, .int .i64 v4), (13, .int .i64 v5)] H (kt3 v1 v2 v3 v4 v5 H)) (kt6 : Sl → Int → AV → Int → Int → Hp → Option ((Int × Bool) × Hp)) (hkt6 : ∀ (v1 : Sl) (v2 : Int) (v3 : AV) (v4 v5 : Int) (H : Hp), Fin prog f329 ret329 178 (todoAt (bodyOf f329) [1, 1, 1, 1, 1, 1, 1, 1, 1, 0, 0, 0, 0, 1, 0, 0, 0] []) [(0, .sl v1), (1, .int .i64 v2), (4, v3), (12, .int .i64 v4), (13, .int .i64 v5)] H (kt6 v1 v2 v3 v4 v5 H)) (v1 : Sl) (v2 : Int) (v3 : AV) (v4 v5 : Int) (v6 : Bool) (H : Hp) : Fin prog f329 ret329 178 (todoAt (bodyOf f329) [1, 1, 1, 1, 1, 1, 1, 1, 1, 0, 0, 0, 0, 1, 0, 0, 0, 0, 1] []) [(0, .sl v1), (1, .int .i64 v2), (4, v3), (12, .int .i64 v4), (13, .int .i64 v5), (139, .bool v6)] H (r329_j8 app kt3 kt6 v1 v2 v3 v4 v5 v6 H) := by
  unfold r329_j8
  refine f_if (fun h1 => ?_) (fun h1 => ?_)
  · exact bT 139 h1 rfl (f_skip (f_block (f_region (m_ (.int .i64 v5) rfl (p_ rfl (s_sub rfl rfl) (a_ (.int .i64 (w64 (v5 - 1))) rfl (f_nil (f_inBlock (f_inLoop (f_keep [0, 1, 4, 12, 13] (hkt6 v1 v2 v3 v4 (w64 (v5 - 1)) H)))))))))))
  · refine bF 139 h1 rfl (f_exit rfl (f_seq (q_ (m_ (.int .i64 v4) rfl (m_ (.int .i64 v5) rfl (p_ rfl (s_gtr rfl rfl) (f_nil ?_)))))))
    refine f_if (fun h2 => ?_) (fun h2 => ?_)
    · refine kT 144 h2 rfl (f_exit rfl (f_seq (f_ck fun g3 => f_bind fun x4 hx4 => f_ck fun g5 => f_bind fun x6 hx6 => f_ck fun g7 => f_bind fun H8 hH8 => f_ck fun g9 => f_bind fun H10 hH10 => f_draw (Φ := fun _ => True) (lim := 1000000) [0, 0, 0, 0, 0, 0, 0, 1, 0, 0, 0, 1, 0, 2, 0, 2] (tm (.sl v1) rfl (tm (.int .i64 v5) rfl (tm (.sl v1) rfl (tm (.int .i64 v2) rfl (tm (.sl v1) rfl (tm (.int .i64 v2) rfl (t_ rfl (fun _ => s_idx underlying25 ty3 rfl rfl g3) (tr rfl (s_load underlying3 rfl rfl (ldI_eq hx4)) (tm (.sl v1) rfl (tm (.int .i64 v5) rfl (t_ rfl (fun _ => s_idx underlying25 ty3 rfl rfl g5) (tr rfl (s_load underlying3 rfl rfl (ldI_eq hx6)) (t_ rfl (fun _ => s_idx underlying25 ty3 rfl rfl g7) (Trc.eff rfl rfl rfl (fun _ => trivial) (s_store (s := 1) ty3 rfl rfl rfl hH8) (t_ rfl (fun _ => s_idx underlying25 ty3 rfl rfl g9) (Trc.eff rfl rfl rfl (fun _ => trivial) (s_store (s := 1) ty3 rfl rfl rfl hH10) (Trc.nil (fun _ => trivial)))))))))))))))))) rfl (by decide +kernel) mixed (q_ (m_ (.int .i64 v5) rfl ?_)))))
      exact a_ (.int .i64 v5) rfl (a_ (.bool false) rfl (f_nil (f_ret (.tmp rfl (.tmp rfl (.nil))) rfl)))
    · refine kF 144 h2 rfl (f_skip (f_seq (f_ck fun g11 => f_bind fun x12 hx12 => f_ck fun g13 => f_bind fun x14 hx14 => f_ck fun g15 => f_bind fun H16 hH16 => f_ck fun g17 => f_bind fun H18 hH18 => f_draw (Φ := fun _ => True) (lim := 1000000) [0, 0, 0, 0, 0, 0, 0, 1, 0, 0, 0, 1, 0, 2, 0, 2] (tm (.sl v1) rfl (tm (.int .i64 v4) rfl (tm (.sl v1) rfl (tm (.int .i64 v5) rfl (tm (.sl v1) rfl (tm (.int .i64 v5) rfl (t_ rfl (fun _ => s_idx underlying25 ty3 rfl rfl g11) (tr rfl (s_load underlying3 rfl rfl (ldI_eq hx12)) (tm (.sl v1) rfl (tm (.int .i64 v4) rfl (t_ rfl (fun _ => s_idx underlying25 ty3 rfl rfl g13) (tr rfl (s_load underlying3 rfl rfl (ldI_eq hx14)) (t_ rfl (fun _ => s_idx underlying25 ty3 rfl rfl g15) (Trc.eff rfl rfl rfl (fun _ => trivial) (s_store (s := 1) ty3 rfl rfl rfl hH16) (t_ rfl (fun _ => s_idx underlying25 ty3 rfl rfl g17) (Trc.eff rfl rfl rfl (fun _ => trivial) (s_store (s := 1) ty3 rfl rfl rfl hH18) (Trc.nil (fun _ => trivial)))))))))))))))))) rfl (by decide +kernel) mixed (q_ (m_ (.int .i64 v4) rfl ?_)))))
      exact p_ rfl (s_add rfl rfl) (a_ (.int .i64 (w64 (v4 + 1))) rfl (f_nil (f_region (m_ (.int .i64 v5) rfl (p_ rfl (s_sub rfl rfl) (a_ (.int .i64 (w64 (v5 - 1))) rfl (f_nil (f_inBlock (f_inLoop (f_keep [0, 1, 4, 12, 13] (hkt3 v1 v2 v3 (w64 (v4 + 1)) (w64 (v5 - 1)) H18)))))))))))

theorem s329_l6 {app : App} (happ : AppSim prog app) (kt3 : Sl → Int → AV → Int → Int → Hp → Option ((Int × Bool) × Hp)) (hkt3 : ∀ (v1 : Sl) (v2 : Int) (v3 : AV) (v4 v5 : Int) (H : Hp), Fin prog f329 ret329 178 (todoAt (bodyOf f329) [1, 1, 1, 1, 1, 1, 1, 1, 1, 0, 0, 0] []) [(0, .sl v1), (1, .int .i64 v2), (4, v3), (12, .int .i64 v4), (13, .int .i64 v5)] H (kt3 v1 v2 v3 v4 v5 H)) : ∀ (k_ : Nat) (v1 : Sl) (v2 : Int) (v3 : AV) (v4 v5 : Int) (H : Hp), Fin prog f329 ret329 178 (todoAt (bodyOf f329) [1, 1, 1, 1, 1, 1, 1, 1, 1, 0, 0, 0, 0, 1, 0, 0, 0] []) [(0, .sl v1), (1, .int .i64 v2), (4, v3), (12, .int .i64 v4), (13, .int .i64 v5)] H (r329_l6 app kt3 k_ v1 v2 v3 v4 v5 H) := by
  intro k_
  induction k_ with
  | zero => intro _ _ _ _ _ _; exact f_none
  | succ k_ ih =>
    intro v1 v2 v3 v4 v5 H
    rw [r329_l6]
    refine f_seq (f_seq ?_)
    refine f_if (fun h1 => ?_) (fun h1 => ?_)
    · exact f_ck fun g2 => f_bind fun x3 hx3 => f_ck fun g4 => f_bind fun x5 hx5 => f_bind fun p6 hp6 => f_bind fun x7 hx7 => f_draw (Φ := fun _ => True) (lim := 1000000) [0, 0, 0, 0, 0, 0, 0, 0, 1, 0, 0, 0, 1, 2, 0, 0, 0] (tm (.int .i64 v4) rfl (tm (.int .i64 v5) rfl (t_ rfl (fun _ => s_leq rfl rfl) (tm (.bool (decide (v4 ≤ v5))) rfl (Trc.know 126 rfl (dec_true h1) (tm v3 rfl (tm (.sl v1) rfl (tm (.int .i64 v5) rfl (t_ rfl (fun _ => s_idx underlying25 ty3 rfl rfl g2) (tr rfl (s_load underlying3 rfl rfl (ldI_eq hx3)) (tm (.sl v1) rfl (tm (.int .i64 v2) rfl (t_ rfl (fun _ => s_idx underlying25 ty3 rfl rfl g4) (tr rfl (s_load underlying3 rfl rfl (ldI_eq hx5)) (Trc.eff rfl rfl rfl (fun _ => trivial) (s_callv happ rfl rfl hp6) (Trc.know 136 rfl (asI_eq hx7) (t_ rfl (fun _ => s_lss rfl rfl) (t_ rfl (fun _ => s_not rfl) (t_ rfl (fun _ => s_pickT (v := .bool (!(decide (x7 < 0)))) rfl rfl) (Trc.nil (fun _ => trivial))))))))))))))))))))) rfl (by decide +kernel) mixed (f_keep [0, 1, 4, 12, 13, 139] (s329_j8 happ _ hkt3 _ ih v1 v2 v3 v4 v5 (!(decide (x7 < 0))) p6.2))
    · exact f_draw (Φ := fun _ => True) (lim := 1000000) [0, 0, 0, 0, 0, 0, 0, 0, 0, 0, 0, 0, 0, 0, 0, 0, 0] (tm (.int .i64 v4) rfl (tm (.int .i64 v5) rfl (t_ rfl (fun _ => s_leq rfl rfl) (tm (.bool (decide (v4 ≤ v5))) rfl (Trc.know 126 rfl (dec_false h1) (Trc.no rfl rfl rfl (Trc.no rfl rfl rfl (Trc.no rfl rfl rfl (Trc.no rfl rfl rfl (Trc.no rfl rfl rfl (Trc.no rfl rfl rfl (Trc.no rfl rfl rfl (Trc.no rfl rfl rfl (Trc.no rfl rfl rfl (Trc.no rfl rfl rfl (Trc.no rfl rfl rfl (Trc.no rfl rfl rfl (t_ rfl (fun _ => s_pickF (v := .bool false) rfl rfl) (Trc.nil (fun _ => trivial)))))))))))))))))))) rfl (by decide +kernel) mixed (f_keep [0, 1, 4, 12, 13, 139] (s329_j8 happ _ hkt3 _ ih v1 v2 v3 v4 v5 false H))

theorem s329_j7 {app : App} (happ : AppSim prog app) (kt3 : Sl → Int → AV → Int → Int → Hp → Option ((Int × Bool) × Hp)) (hkt3 : ∀ (v1 : Sl) (v2 : Int) (v3 : AV) (v4 v5 : Int) (H : Hp), Fin prog f329 ret329 178 (todoAt (bodyOf f329) [1, 1, 1, 1, 1, 1, 1, 1, 1, 0, 0, 0] []) [(0, .sl v1), (1, .int .i64 v2), (4, v3), (12, .int .i64 v4), (13, .int .i64 v5)] H (kt3 v1 v2 v3 v4 v5 H)) (kt5 : Sl → Int → AV → Int → Int → Hp → Option ((Int × Bool) × Hp)) (hkt5 : ∀ (v1 : Sl) (v2 : Int) (v3 : AV) (v4 v5 : Int) (H : Hp), Fin prog f329 ret329 178 (todoAt (bodyOf f329) [1, 1, 1, 1, 1, 1, 1, 1, 1, 0, 0, 0, 0, 0, 0, 0] []) [(0, .sl v1), (1, .int .i64 v2), (4, v3), (12, .int .i64 v4), (13, .int .i64 v5)] H (kt5 v1 v2 v3 v4 v5 H)) (v1 : Sl) (v2 : Int) (v3 : AV) (v4 v5 : Int) (v6 : Bool) (H : Hp) : Fin prog f329 ret329 178 (todoAt (bodyOf f329) [1, 1, 1, 1, 1, 1, 1, 1, 1, 0, 0, 0, 0, 0, 0, 0, 0, 1] []) [(0, .sl v1), (1, .int .i64 v2), (4, v3), (12, .int .i64 v4), (13, .int .i64 v5), (120, .bool v6)] H (r329_j7 app kt3 kt5 v1 v2 v3 v4 v5 v6 H) := by
  unfold r329_j7
  refine f_if (fun h1 => ?_) (fun h1 => ?_)
  · exact bT 120 h1 rfl (f_skip (f_block (f_region (m_ (.int .i64 v4) rfl (p_ rfl (s_add rfl rfl) (a_ (.int .i64 (w64 (v4 + 1))) rfl (f_nil (f_inBlock (f_inLoop (f_keep [0, 1, 4, 12, 13] (hkt5 v1 v2 v3 (w64 (v4 + 1)) v5 H)))))))))))
  · exact bF 120 h1 rfl (f_exit rfl (f_seq (f_block (f_loop (f_keep [0, 1, 4, 12, 13] (s329_l6 happ _ hkt3 FUEL v1 v2 v3 v4 v5 H))))))

theorem s329_l5 {app : App} (happ : AppSim prog app) (kt3 : Sl → Int → AV → Int → Int → Hp → Option ((Int × Bool) × Hp)) (hkt3 : ∀ (v1 : Sl) (v2 : Int) (v3 : AV) (v4 v5 : Int) (H : Hp), Fin prog f329 ret329 178 (todoAt (bodyOf f329) [1, 1, 1, 1, 1, 1, 1, 1, 1, 0, 0, 0] []) [(0, .sl v1), (1, .int .i64 v2), (4, v3), (12, .int .i64 v4), (13, .int .i64 v5)] H (kt3 v1 v2 v3 v4 v5 H)) : ∀ (k_ : Nat) (v1 : Sl) (v2 : Int) (v3 : AV) (v4 v5 : Int) (H : Hp), Fin prog f329 ret329 178 (todoAt (bodyOf f329) [1, 1, 1, 1, 1, 1, 1, 1, 1, 0, 0, 0, 0, 0, 0, 0] []) [(0, .sl v1), (1, .int .i64 v2), (4, v3), (12, .int .i64 v4), (13, .int .i64 v5)] H (r329_l5 app kt3 k_ v1 v2 v3 v4 v5 H) := by
  intro k_
  induction k_ with
  | zero => intro _ _ _ _ _ _; exact f_none
  | succ k_ ih =>
    intro v1 v2 v3 v4 v5 H
    rw [r329_l5]
    refine f_seq (f_seq ?_)
    refine f_if (fun h1 => ?_) (fun h1 => ?_)
    · exact f_ck fun g2 => f_bind fun x3 hx3 => f_ck fun g4 => f_bind fun x5 hx5 => f_bind fun p6 hp6 => f_bind fun x7 hx7 => f_draw (Φ := fun _ => True) (lim := 1000000) [0, 0, 0, 0, 0, 0, 0, 0, 1, 0, 0, 0, 1, 2, 0, 0] (tm (.int .i64 v4) rfl (tm (.int .i64 v5) rfl (t_ rfl (fun _ => s_leq rfl rfl) (tm (.bool (decide (v4 ≤ v5))) rfl (Trc.know 108 rfl (dec_true h1) (tm v3 rfl (tm (.sl v1) rfl (tm (.int .i64 v4) rfl (t_ rfl (fun _ => s_idx underlying25 ty3 rfl rfl g2) (tr rfl (s_load underlying3 rfl rfl (ldI_eq hx3)) (tm (.sl v1) rfl (tm (.int .i64 v2) rfl (t_ rfl (fun _ => s_idx underlying25 ty3 rfl rfl g4) (tr rfl (s_load underlying3 rfl rfl (ldI_eq hx5)) (Trc.eff rfl rfl rfl (fun _ => trivial) (s_callv happ rfl rfl hp6) (Trc.know 118 rfl (asI_eq hx7) (t_ rfl (fun _ => s_lss rfl rfl) (t_ rfl (fun _ => s_pickT (v := .bool (decide (x7 < 0))) rfl rfl) (Trc.nil (fun _ => trivial)))))))))))))))))))) rfl (by decide +kernel) mixed (f_keep [0, 1, 4, 12, 13, 120] (s329_j7 happ _ hkt3 _ ih v1 v2 v3 v4 v5 (decide (x7 < 0)) p6.2))
    · exact f_draw (Φ := fun _ => True) (lim := 1000000) [0, 0, 0, 0, 0, 0, 0, 0, 0, 0, 0, 0, 0, 0, 0, 0] (tm (.int .i64 v4) rfl (tm (.int .i64 v5) rfl (t_ rfl (fun _ => s_leq rfl rfl) (tm (.bool (decide (v4 ≤ v5))) rfl (Trc.know 108 rfl (dec_false h1) (Trc.no rfl rfl rfl (Trc.no rfl rfl rfl (Trc.no rfl rfl rfl (Trc.no rfl rfl rfl (Trc.no rfl rfl rfl (Trc.no rfl rfl rfl (Trc.no rfl rfl rfl (Trc.no rfl rfl rfl (Trc.no rfl rfl rfl (Trc.no rfl rfl rfl (Trc.no rfl rfl rfl (t_ rfl (fun _ => s_pickF (v := .bool false) rfl rfl) (Trc.nil (fun _ => trivial))))))))))))))))))) rfl (by decide +kernel) mixed (f_keep [0, 1, 4, 12, 13, 120] (s329_j7 happ _ hkt3 _ ih v1 v2 v3 v4 v5 false H))

theorem s329_l3 {app : App} (happ : AppSim prog app) : ∀ (k_ : Nat) (v1 : Sl) (v2 : Int) (v3 : AV) (v4 v5 : Int) (H : Hp), Fin prog f329 ret329 178 (todoAt (bodyOf f329) [1, 1, 1, 1, 1, 1, 1, 1, 1, 0, 0, 0] []) [(0, .sl v1), (1, .int .i64 v2), (4, v3), (12, .int .i64 v4), (13, .int .i64 v5)] H (r329_l3 app k_ v1 v2 v3 v4 v5 H) := by
  intro k_
  induction k_ with
  | zero => intro _ _ _ _ _ _; exact f_none
  | succ k_ ih =>
    intro v1 v2 v3 v4 v5 H
    rw [r329_l3]
    exact f_block (f_seq (f_block (f_loop (f_keep [0, 1, 4, 12, 13] (s329_l5 happ _ ih FUEL v1 v2 v3 v4 v5 H)))))

theorem s329_j4 {app : App} (happ : AppSim prog app) (kt1 : Sl → Int → AV → Int → Int → Hp → Option ((Int × Bool) × Hp)) (hkt1 : ∀ (v1 : Sl) (v2 : Int) (v3 : AV) (v4 v5 : Int) (H : Hp), Fin prog f329 ret329 178 (todoAt (bodyOf f329) [1, 1, 1, 1, 0, 0, 0] []) [(0, .sl v1), (1, .int .i64 v2), (4, v3), (12, .int .i64 v4), (13, .int .i64 v5)] H (kt1 v1 v2 v3 v4 v5 H)) (v1 : Sl) (v2 : Int) (v3 : AV) (v4 v5 : Int) (v6 : Bool) (H : Hp) : Fin prog f329 ret329 178 (todoAt (bodyOf f329) [1, 1, 1, 1, 0, 0, 0, 0, 1] []) [(0, .sl v1), (1, .int .i64 v2), (4, v3), (12, .int .i64 v4), (13, .int .i64 v5), (66, .bool v6)] H (r329_j4 app kt1 v1 v2 v3 v4 v5 v6 H) := by
  unfold r329_j4
  refine f_if (fun h1 => ?_) (fun h1 => ?_)
  · exact bT 66 h1 rfl (f_skip (f_block (f_region (m_ (.int .i64 v5) rfl (p_ rfl (s_sub rfl rfl) (a_ (.int .i64 (w64 (v5 - 1))) rfl (f_nil (f_inBlock (f_inLoop (f_keep [0, 1, 4, 12, 13] (hkt1 v1 v2 v3 v4 (w64 (v5 - 1)) H)))))))))))
  · refine bF 66 h1 rfl (f_exit rfl (f_seq (q_ (m_ (.int .i64 v4) rfl (m_ (.int .i64 v5) rfl (p_ rfl (s_gtr rfl rfl) (f_nil ?_)))))))
    refine f_if (fun h2 => ?_) (fun h2 => ?_)
    · refine kT 71 h2 rfl (f_seq (f_ck fun g3 => f_bind fun x4 hx4 => f_ck fun g5 => f_bind fun x6 hx6 => f_ck fun g7 => f_bind fun H8 hH8 => f_ck fun g9 => f_bind fun H10 hH10 => f_draw (Φ := fun _ => True) (lim := 1000000) [0, 0, 0, 0, 0, 0, 0, 1, 0, 0, 0, 1, 0, 2, 0, 2] (tm (.sl v1) rfl (tm (.int .i64 v5) rfl (tm (.sl v1) rfl (tm (.int .i64 v2) rfl (tm (.sl v1) rfl (tm (.int .i64 v2) rfl (t_ rfl (fun _ => s_idx underlying25 ty3 rfl rfl g3) (tr rfl (s_load underlying3 rfl rfl (ldI_eq hx4)) (tm (.sl v1) rfl (tm (.int .i64 v5) rfl (t_ rfl (fun _ => s_idx underlying25 ty3 rfl rfl g5) (tr rfl (s_load underlying3 rfl rfl (ldI_eq hx6)) (t_ rfl (fun _ => s_idx underlying25 ty3 rfl rfl g7) (Trc.eff rfl rfl rfl (fun _ => trivial) (s_store (s := 1) ty3 rfl rfl rfl hH8) (t_ rfl (fun _ => s_idx underlying25 ty3 rfl rfl g9) (Trc.eff rfl rfl rfl (fun _ => trivial) (s_store (s := 1) ty3 rfl rfl rfl hH10) (Trc.nil (fun _ => trivial)))))))))))))))))) rfl (by decide +kernel) mixed (q_ (m_ (.int .i64 v5) rfl (a_ (.int .i64 v5) rfl ?_)))))
      exact a_ (.bool true) rfl (f_nil (f_ret (.tmp rfl (.tmp rfl (.nil))) rfl))
    · refine kF 71 h2 rfl (f_skip (f_seq (f_ck fun g11 => f_bind fun x12 hx12 => f_ck fun g13 => f_bind fun x14 hx14 => f_ck fun g15 => f_bind fun H16 hH16 => f_ck fun g17 => f_bind fun H18 hH18 => f_draw (Φ := fun _ => True) (lim := 1000000) [0, 0, 0, 0, 0, 0, 0, 1, 0, 0, 0, 1, 0, 2, 0, 2] (tm (.sl v1) rfl (tm (.int .i64 v4) rfl (tm (.sl v1) rfl (tm (.int .i64 v5) rfl (tm (.sl v1) rfl (tm (.int .i64 v5) rfl (t_ rfl (fun _ => s_idx underlying25 ty3 rfl rfl g11) (tr rfl (s_load underlying3 rfl rfl (ldI_eq hx12)) (tm (.sl v1) rfl (tm (.int .i64 v4) rfl (t_ rfl (fun _ => s_idx underlying25 ty3 rfl rfl g13) (tr rfl (s_load underlying3 rfl rfl (ldI_eq hx14)) (t_ rfl (fun _ => s_idx underlying25 ty3 rfl rfl g15) (Trc.eff rfl rfl rfl (fun _ => trivial) (s_store (s := 1) ty3 rfl rfl rfl hH16) (t_ rfl (fun _ => s_idx underlying25 ty3 rfl rfl g17) (Trc.eff rfl rfl rfl (fun _ => trivial) (s_store (s := 1) ty3 rfl rfl rfl hH18) (Trc.nil (fun _ => trivial)))))))))))))))))) rfl (by decide +kernel) mixed (q_ (m_ (.int .i64 v4) rfl ?_)))))
      exact p_ rfl (s_add rfl rfl) (a_ (.int .i64 (w64 (v4 + 1))) rfl (n_ (m_ (.int .i64 v5) rfl (p_ rfl (s_sub rfl rfl) (a_ (.int .i64 (w64 (v5 - 1))) rfl (f_nil (f_seq (f_block (f_loop (f_keep [0, 1, 4, 12, 13] (s329_l3 happ FUEL v1 v2 v3 (w64 (v4 + 1)) (w64 (v5 - 1)) H18)))))))))))

theorem s329_l1 {app : App} (happ : AppSim prog app) : ∀ (k_ : Nat) (v1 : Sl) (v2 : Int) (v3 : AV) (v4 v5 : Int) (H : Hp), Fin prog f329 ret329 178 (todoAt (bodyOf f329) [1, 1, 1, 1, 0, 0, 0] []) [(0, .sl v1), (1, .int .i64 v2), (4, v3), (12, .int .i64 v4), (13, .int .i64 v5)] H (r329_l1 app k_ v1 v2 v3 v4 v5 H) := by
  intro k_
  induction k_ with
  | zero => intro _ _ _ _ _ _; exact f_none
  | succ k_ ih =>
    intro v1 v2 v3 v4 v5 H
    rw [r329_l1]
    refine f_seq (f_seq ?_)
    refine f_if (fun h1 => ?_) (fun h1 => ?_)
    · exact f_ck fun g2 => f_bind fun x3 hx3 => f_ck fun g4 => f_bind fun x5 hx5 => f_bind fun p6 hp6 => f_bind fun x7 hx7 => f_draw (Φ := fun _ => True) (lim := 1000000) [0, 0, 0, 0, 0, 0, 0, 0, 1, 0, 0, 0, 1, 2, 0, 0, 0] (tm (.int .i64 v4) rfl (tm (.int .i64 v5) rfl (t_ rfl (fun _ => s_leq rfl rfl) (tm (.bool (decide (v4 ≤ v5))) rfl (Trc.know 53 rfl (dec_true h1) (tm v3 rfl (tm (.sl v1) rfl (tm (.int .i64 v5) rfl (t_ rfl (fun _ => s_idx underlying25 ty3 rfl rfl g2) (tr rfl (s_load underlying3 rfl rfl (ldI_eq hx3)) (tm (.sl v1) rfl (tm (.int .i64 v2) rfl (t_ rfl (fun _ => s_idx underlying25 ty3 rfl rfl g4) (tr rfl (s_load underlying3 rfl rfl (ldI_eq hx5)) (Trc.eff rfl rfl rfl (fun _ => trivial) (s_callv happ rfl rfl hp6) (Trc.know 63 rfl (asI_eq hx7) (t_ rfl (fun _ => s_lss rfl rfl) (t_ rfl (fun _ => s_not rfl) (t_ rfl (fun _ => s_pickT (v := .bool (!(decide (x7 < 0)))) rfl rfl) (Trc.nil (fun _ => trivial))))))))))))))))))))) rfl (by decide +kernel) mixed (f_keep [0, 1, 4, 12, 13, 66] (s329_j4 happ _ ih v1 v2 v3 v4 v5 (!(decide (x7 < 0))) p6.2))
    · exact f_draw (Φ := fun _ => True) (lim := 1000000) [0, 0, 0, 0, 0, 0, 0, 0, 0, 0, 0, 0, 0, 0, 0, 0, 0] (tm (.int .i64 v4) rfl (tm (.int .i64 v5) rfl (t_ rfl (fun _ => s_leq rfl rfl) (tm (.bool (decide (v4 ≤ v5))) rfl (Trc.know 53 rfl (dec_false h1) (Trc.no rfl rfl rfl (Trc.no rfl rfl rfl (Trc.no rfl rfl rfl (Trc.no rfl rfl rfl (Trc.no rfl rfl rfl (Trc.no rfl rfl rfl (Trc.no rfl rfl rfl (Trc.no rfl rfl rfl (Trc.no rfl rfl rfl (Trc.no rfl rfl rfl (Trc.no rfl rfl rfl (Trc.no rfl rfl rfl (t_ rfl (fun _ => s_pickF (v := .bool false) rfl rfl) (Trc.nil (fun _ => trivial)))))))))))))))))))) rfl (by decide +kernel) mixed (f_keep [0, 1, 4, 12, 13, 66] (s329_j4 happ _ ih v1 v2 v3 v4 v5 false H))

theorem s329_j2 {app : App} (happ : AppSim prog app) (kt0 : Sl → Int → AV → Int → Int → Hp → Option ((Int × Bool) × Hp)) (hkt0 : ∀ (v1 : Sl) (v2 : Int) (v3 : AV) (v4 v5 : Int) (H : Hp), Fin prog f329 ret329 178 (todoAt (bodyOf f329) [1, 1, 1, 0, 0, 0] []) [(0, .sl v1), (1, .int .i64 v2), (4, v3), (12, .int .i64 v4), (13, .int .i64 v5)] H (kt0 v1 v2 v3 v4 v5 H)) (v1 : Sl) (v2 : Int) (v3 : AV) (v4 v5 : Int) (v6 : Bool) (H : Hp) : Fin prog f329 ret329 178 (todoAt (bodyOf f329) [1, 1, 1, 0, 0, 0, 0, 1] []) [(0, .sl v1), (1, .int .i64 v2), (4, v3), (12, .int .i64 v4), (13, .int .i64 v5), (47, .bool v6)] H (r329_j2 app kt0 v1 v2 v3 v4 v5 v6 H) := by
  unfold r329_j2
  refine f_if (fun h1 => ?_) (fun h1 => ?_)
  · exact bT 47 h1 rfl (f_skip (f_block (f_region (m_ (.int .i64 v4) rfl (p_ rfl (s_add rfl rfl) (a_ (.int .i64 (w64 (v4 + 1))) rfl (f_nil (f_inBlock (f_inLoop (f_keep [0, 1, 4, 12, 13] (hkt0 v1 v2 v3 (w64 (v4 + 1)) v5 H)))))))))))
  · exact bF 47 h1 rfl (f_exit rfl (f_seq (f_block (f_loop (f_keep [0, 1, 4, 12, 13] (s329_l1 happ FUEL v1 v2 v3 v4 v5 H))))))

theorem s329_l0 {app : App} (happ : AppSim prog app) : ∀ (k_ : Nat) (v1 : Sl) (v2 : Int) (v3 : AV) (v4 v5 : Int) (H : Hp), Fin prog f329 ret329 178 (todoAt (bodyOf f329) [1, 1, 1, 0, 0, 0] []) [(0, .sl v1), (1, .int .i64 v2), (4, v3), (12, .int .i64 v4), (13, .int .i64 v5)] H (r329_l0 app k_ v1 v2 v3 v4 v5 H) := by
  intro k_
  induction k_ with
  | zero => intro _ _ _ _ _ _; exact f_none
  | succ k_ ih =>
    intro v1 v2 v3 v4 v5 H
    rw [r329_l0]
    refine f_seq (f_seq ?_)
    refine f_if (fun h1 => ?_) (fun h1 => ?_)
    · exact f_ck fun g2 => f_bind fun x3 hx3 => f_ck fun g4 => f_bind fun x5 hx5 => f_bind fun p6 hp6 => f_bind fun x7 hx7 => f_draw (Φ := fun _ => True) (lim := 1000000) [0, 0, 0, 0, 0, 0, 0, 0, 1, 0, 0, 0, 1, 2, 0, 0] (tm (.int .i64 v4) rfl (tm (.int .i64 v5) rfl (t_ rfl (fun _ => s_leq rfl rfl) (tm (.bool (decide (v4 ≤ v5))) rfl (Trc.know 35 rfl (dec_true h1) (tm v3 rfl (tm (.sl v1) rfl (tm (.int .i64 v4) rfl (t_ rfl (fun _ => s_idx underlying25 ty3 rfl rfl g2) (tr rfl (s_load underlying3 rfl rfl (ldI_eq hx3)) (tm (.sl v1) rfl (tm (.int .i64 v2) rfl (t_ rfl (fun _ => s_idx underlying25 ty3 rfl rfl g4) (tr rfl (s_load underlying3 rfl rfl (ldI_eq hx5)) (Trc.eff rfl rfl rfl (fun _ => trivial) (s_callv happ rfl rfl hp6) (Trc.know 45 rfl (asI_eq hx7) (t_ rfl (fun _ => s_lss rfl rfl) (t_ rfl (fun _ => s_pickT (v := .bool (decide (x7 < 0))) rfl rfl) (Trc.nil (fun _ => trivial)))))))))))))))))))) rfl (by decide +kernel) mixed (f_keep [0, 1, 4, 12, 13, 47] (s329_j2 happ _ ih v1 v2 v3 v4 v5 (decide (x7 < 0)) p6.2))
    · exact f_draw (Φ := fun _ => True) (lim := 1000000) [0, 0, 0, 0, 0, 0, 0, 0, 0, 0, 0, 0, 0, 0, 0, 0] (tm (.int .i64 v4) rfl (tm (.int .i64 v5) rfl (t_ rfl (fun _ => s_leq rfl rfl) (tm (.bool (decide (v4 ≤ v5))) rfl (Trc.know 35 rfl (dec_false h1) (Trc.no rfl rfl rfl (Trc.no rfl rfl rfl (Trc.no rfl rfl rfl (Trc.no rfl rfl rfl (Trc.no rfl rfl rfl (Trc.no rfl rfl rfl (Trc.no rfl rfl rfl (Trc.no rfl rfl rfl (Trc.no rfl rfl rfl (Trc.no rfl rfl rfl (Trc.no rfl rfl rfl (t_ rfl (fun _ => s_pickF (v := .bool false) rfl rfl) (Trc.nil (fun _ => trivial))))))))))))))))))) rfl (by decide +kernel) mixed (f_keep [0, 1, 4, 12, 13, 47] (s329_j2 happ _ ih v1 v2 v3 v4 v5 false H))

theorem sim329 {app : App} (happ : AppSim prog app) {a0 : Sl} {a1 : Int} {a2 : Int} {a3 : Int} {a4 : AV} {H : Hp} {p : (Int × Bool) × Hp} (h : r329 app a0 a1 a2 a3 a4 H = some p) : CallSim prog 329 [.sl a0, .int .i64 a1, .int .i64 a2, .int .i64 a3, a4] H (.tup [.int .i64 p.1.1, .bool p.1.2]) p.2 := by
  refine callSim (fn := f329) (ret := ret329) func329 rfl Tryz.ntmps329 rfl ?_ h
  unfold r329
  refine q_ (a_ (.int .i64 0) rfl (a_ (.bool false) rfl (f_nil (f_seq (f_ck fun g1 => f_bind fun x2 hx2 => f_ck fun g3 => f_bind fun x4 hx4 => f_ck fun g5 => f_bind fun H6 hH6 => f_ck fun g7 => f_bind fun H8 hH8 => f_draw (Φ := fun _ => True) (lim := 1000000) [0, 0, 0, 0, 0, 0, 0, 1, 0, 0, 0, 1, 0, 2, 0, 2] (tm (.sl a0) rfl (tm (.int .i64 a1) rfl (tm (.sl a0) rfl (tm (.int .i64 a3) rfl (tm (.sl a0) rfl (tm (.int .i64 a3) rfl (t_ rfl (fun _ => s_idx underlying25 ty3 rfl rfl g1) (tr rfl (s_load underlying3 rfl rfl (ldI_eq hx2)) (tm (.sl a0) rfl (tm (.int .i64 a1) rfl (t_ rfl (fun _ => s_idx underlying25 ty3 rfl rfl g3) (tr rfl (s_load underlying3 rfl rfl (ldI_eq hx4)) (t_ rfl (fun _ => s_idx underlying25 ty3 rfl rfl g5) (Trc.eff rfl rfl rfl (fun _ => trivial) (s_store (s := 1) ty3 rfl rfl rfl hH6) (t_ rfl (fun _ => s_idx underlying25 ty3 rfl rfl g7) (Trc.eff rfl rfl rfl (fun _ => trivial) (s_store (s := 1) ty3 rfl rfl rfl hH8) (Trc.nil (fun _ => trivial)))))))))))))))))) rfl (by decide +kernel) mixed (f_seq ?_))))))
  exact f_region (m_ (.int .i64 a1) rfl (p_ rfl (s_add rfl rfl) (m_ (.int .i64 a2) rfl (p_ rfl (s_sub rfl rfl) (a_ (.int .i64 (w64 (a1 + 1))) rfl (a_ (.int .i64 (w64 (a2 - 1))) rfl (f_nil (f_seq (f_block (f_loop (f_keep [0, 1, 4, 12, 13] (s329_l0 happ FUEL a0 a1 a4 (w64 (a1 + 1)) (w64 (a2 - 1)) H8))))))))))))

/- 295 slices.pdqsortCmpFunc[int] -/
theorem ok295 : FnOk prog 295 := ⟨⟨f295, func295, by kernel_rfl, rfl⟩⟩
theorem s295_j1 {app : App} (happ : AppSim prog app) (kt0 : Sl → Int → Int → Int → AV → Bool → Bool → Hp → Option (Unit × Hp)) (hkt0 : ∀ (v1 : Sl) (v2 v3 v4 : Int) (v5 : AV) (v6 v7 : Bool) (H : Hp), Fin prog f295 ret295 148 (todoAt (bodyOf f295) [1, 1, 0, 0] []) [(0, .sl v1), (1, .int .i64 v2), (2, .int .i64 v3), (3, .int .i64 v4), (4, v5), (10, .bool v6), (11, .bool v7)] H (kt0 v1 v2 v3 v4 v5 v6 v7 H)) (v1 : Sl) (v2 v3 v4 : Int) (v5 : AV) (v6 v7 : Bool) (v8 v9 : Int) (v10 : Bool) (H : Hp) : Fin prog f295 ret295 148 (todoAt (bodyOf f295) [1, 1, 0, 0, 0, 1, 1, 1, 1, 1, 1, 1, 0, 1] []) [(0, .sl v1), (1, .int .i64 v2), (2, .int .i64 v3), (3, .int .i64 v4), (4, v5), (10, .bool v6), (11, .bool v7), (12, .int .i64 v8), (13, .int .i64 v9), (97, .bool v10)] H (r295_j1 app kt0 v1 v2 v3 v4 v5 v6 v7 v8 v9 v10 H) := by
  unfold r295_j1
  refine f_if (fun h1 => ?_) (fun h1 => ?_)
  · refine bT 97 h1 rfl (q_ (m_ (.sl v1) rfl (m_ (.int .i64 v2) rfl (m_ (.int .i64 v3) rfl (m_ (.int .i64 v9) rfl (m_ v5 rfl (o_bind fun p2 hp2 => p_ rfl (s_callF rfl ok328 (sim328 happ hp2)) (a_ (.int .i64 p2.1) rfl (n_ (m_ (.int .i64 p2.1) rfl ?_))))))))))
    exact a_ (.int .i64 p2.1) rfl (f_nil (f_exit rfl (f_inLoop (f_keep [0, 1, 2, 3, 4, 10, 11] (hkt0 v1 p2.1 v3 v4 v5 v6 v7 p2.2)))))
  · refine bF 97 h1 rfl (f_skip (q_ (m_ (.sl v1) rfl (m_ (.int .i64 v2) rfl (m_ (.int .i64 v3) rfl (m_ (.int .i64 v9) rfl (m_ v5 rfl (o_bind fun p3 hp3 => p_ rfl (s_callF rfl ok329 (sim329 happ hp3)) (m_ (.tup [.int .i64 p3.1.1, .bool p3.1.2]) rfl (p_ rfl (s_extract (r := .int .i64 p3.1.1) rfl rfl) (p_ rfl (s_extract (r := .bool p3.1.2) rfl rfl) (a_ (.int .i64 p3.1.1) rfl ?_))))))))))))
    refine a_ (.bool p3.1.2) rfl (n_ (m_ (.bool p3.1.2) rfl (a_ (.bool p3.1.2) rfl (n_ (m_ (.int .i64 p3.1.1) rfl (m_ (.int .i64 v2) rfl (p_ rfl (s_sub rfl rfl) (m_ (.int .i64 v3) rfl (m_ (.int .i64 p3.1.1) rfl (p_ rfl (s_sub rfl rfl) (a_ (.int .i64 (w64 (p3.1.1 - v2))) rfl ?_)))))))))))
    refine a_ (.int .i64 (w64 (v3 - p3.1.1))) rfl (n_ (m_ (.int .i64 v8) rfl (p_ rfl (s_quo rfl rfl (by decide)) (a_ (.int .i64 (w64 (Int.tdiv v8 8))) rfl (n_ (m_ (.int .i64 (w64 (p3.1.1 - v2))) rfl (m_ (.int .i64 (w64 (v3 - p3.1.1))) rfl (p_ rfl (s_lss rfl rfl) (f_nil ?_)))))))))
    refine f_if (fun h4 => ?_) (fun h4 => ?_)
    · refine kT 125 h4 rfl (q_ (m_ (.int .i64 (w64 (p3.1.1 - v2))) rfl (m_ (.int .i64 (w64 (Int.tdiv v8 8))) rfl (p_ rfl (s_geq rfl rfl) (a_ (.bool (decide ((w64 (Int.tdiv v8 8)) ≤ (w64 (p3.1.1 - v2))))) rfl (n_ (m_ (.sl v1) rfl (m_ (.int .i64 v2) rfl (m_ (.int .i64 p3.1.1) rfl (m_ (.int .i64 v4) rfl (m_ v5 rfl ?_)))))))))))
      exact o_bind fun p5 hp5 => p_ rfl (s_callA happ rfl hp5) (f_nil (f_region (m_ (.int .i64 p3.1.1) rfl (p_ rfl (s_add rfl rfl) (a_ (.int .i64 (w64 (p3.1.1 + 1))) rfl (f_nil (f_inBlock (f_inLoop (f_keep [0, 1, 2, 3, 4, 10, 11] (hkt0 v1 (w64 (p3.1.1 + 1)) v3 v4 v5 (decide ((w64 (Int.tdiv v8 8)) ≤ (w64 (p3.1.1 - v2)))) p3.1.2 p5.2))))))))))
    · refine kF 125 h4 rfl (q_ (m_ (.int .i64 (w64 (v3 - p3.1.1))) rfl (m_ (.int .i64 (w64 (Int.tdiv v8 8))) rfl (p_ rfl (s_geq rfl rfl) (a_ (.bool (decide ((w64 (Int.tdiv v8 8)) ≤ (w64 (v3 - p3.1.1))))) rfl (n_ (m_ (.sl v1) rfl (m_ (.int .i64 p3.1.1) rfl (p_ rfl (s_add rfl rfl) (m_ (.int .i64 v3) rfl (m_ (.int .i64 v4) rfl ?_)))))))))))
      exact m_ v5 rfl (o_bind fun p6 hp6 => p_ rfl (s_callA happ rfl hp6) (f_nil (f_region (m_ (.int .i64 p3.1.1) rfl (a_ (.int .i64 p3.1.1) rfl (f_nil (f_inBlock (f_inLoop (f_keep [0, 1, 2, 3, 4, 10, 11] (hkt0 v1 v2 p3.1.1 v4 v5 (decide ((w64 (Int.tdiv v8 8)) ≤ (w64 (v3 - p3.1.1)))) p3.1.2 p6.2))))))))))

theorem s295_j2 {app : App} (happ : AppSim prog app) (kt0 : Sl → Int → Int → Int → AV → Bool → Bool → Hp → Option (Unit × Hp)) (hkt0 : ∀ (v1 : Sl) (v2 v3 v4 : Int) (v5 : AV) (v6 v7 : Bool) (H : Hp), Fin prog f295 ret295 148 (todoAt (bodyOf f295) [1, 1, 0, 0] []) [(0, .sl v1), (1, .int .i64 v2), (2, .int .i64 v3), (3, .int .i64 v4), (4, v5), (10, .bool v6), (11, .bool v7)] H (kt0 v1 v2 v3 v4 v5 v6 v7 H)) (v1 : Sl) (v2 v3 v4 : Int) (v5 : AV) (v6 v7 : Bool) (v8 v9 : Int) (H : Hp) : Fin prog f295 ret295 148 (todoAt (bodyOf f295) [1, 1, 0, 0, 0, 1, 1, 1, 1, 1, 1, 1] []) [(0, .sl v1), (1, .int .i64 v2), (2, .int .i64 v3), (3, .int .i64 v4), (4, v5), (10, .bool v6), (11, .bool v7), (12, .int .i64 v8), (13, .int .i64 v9)] H (r295_j2 app kt0 v1 v2 v3 v4 v5 v6 v7 v8 v9 H) := by
  unfold r295_j2
  refine f_seq (f_seq ?_)
  refine f_if (fun h1 => ?_) (fun h1 => ?_)
  · exact f_ck fun g2 => f_bind fun x3 hx3 => f_ck fun g4 => f_bind fun x5 hx5 => f_bind fun p6 hp6 => f_bind fun x7 hx7 => f_draw (Φ := fun _ => True) (lim := 1000000) [0, 0, 0, 0, 0, 0, 0, 0, 1, 0, 0, 0, 1, 2, 0, 0, 0] (tm (.int .i64 v2) rfl (t_ rfl (fun _ => s_gtr rfl rfl) (tm (.bool (decide (0 < v2))) rfl (Trc.know 83 rfl (dec_true h1) (tm v5 rfl (tm (.sl v1) rfl (tm (.int .i64 v2) rfl (t_ rfl (fun _ => s_sub rfl rfl) (t_ rfl (fun _ => s_idx underlying25 ty3 rfl rfl g2) (tr rfl (s_load underlying3 rfl rfl (ldI_eq hx3)) (tm (.sl v1) rfl (tm (.int .i64 v9) rfl (t_ rfl (fun _ => s_idx underlying25 ty3 rfl rfl g4) (tr rfl (s_load underlying3 rfl rfl (ldI_eq hx5)) (Trc.eff rfl rfl rfl (fun _ => trivial) (s_callv happ rfl rfl hp6) (Trc.know 94 rfl (asI_eq hx7) (t_ rfl (fun _ => s_lss rfl rfl) (t_ rfl (fun _ => s_not rfl) (t_ rfl (fun _ => s_pickT (v := .bool (!(decide (x7 < 0)))) rfl rfl) (Trc.nil (fun _ => trivial))))))))))))))))))))) rfl (by decide +kernel) mixed (f_keep [0, 1, 2, 3, 4, 10, 11, 12, 13, 97] (s295_j1 happ _ hkt0 v1 v2 v3 v4 v5 v6 v7 v8 v9 (!(decide (x7 < 0))) p6.2))
  · exact f_draw (Φ := fun _ => True) (lim := 1000000) [0, 0, 0, 0, 0, 0, 0, 0, 0, 0, 0, 0, 0, 0, 0, 0, 0] (tm (.int .i64 v2) rfl (t_ rfl (fun _ => s_gtr rfl rfl) (tm (.bool (decide (0 < v2))) rfl (Trc.know 83 rfl (dec_false h1) (Trc.no rfl rfl rfl (Trc.no rfl rfl rfl (Trc.no rfl rfl rfl (Trc.no rfl rfl rfl (Trc.no rfl rfl rfl (Trc.no rfl rfl rfl (Trc.no rfl rfl rfl (Trc.no rfl rfl rfl (Trc.no rfl rfl rfl (Trc.no rfl rfl rfl (Trc.no rfl rfl rfl (Trc.no rfl rfl rfl (Trc.no rfl rfl rfl (t_ rfl (fun _ => s_pickF (v := .bool false) rfl rfl) (Trc.nil (fun _ => trivial)))))))))))))))))))) rfl (by decide +kernel) mixed (f_keep [0, 1, 2, 3, 4, 10, 11, 12, 13, 97] (s295_j1 happ _ hkt0 v1 v2 v3 v4 v5 v6 v7 v8 v9 false H))

theorem s295_j3 {app : App} (happ : AppSim prog app) (kt0 : Sl → Int → Int → Int → AV → Bool → Bool → Hp → Option (Unit × Hp)) (hkt0 : ∀ (v1 : Sl) (v2 v3 v4 : Int) (v5 : AV) (v6 v7 : Bool) (H : Hp), Fin prog f295 ret295 148 (todoAt (bodyOf f295) [1, 1, 0, 0] []) [(0, .sl v1), (1, .int .i64 v2), (2, .int .i64 v3), (3, .int .i64 v4), (4, v5), (10, .bool v6), (11, .bool v7)] H (kt0 v1 v2 v3 v4 v5 v6 v7 H)) (v1 : Sl) (v2 v3 v4 : Int) (v5 : AV) (v6 v7 : Bool) (v8 v9 : Int) (v10 : Bool) (H : Hp) : Fin prog f295 ret295 148 (todoAt (bodyOf f295) [1, 1, 0, 0, 0, 1, 1, 1, 1, 1, 1, 0, 1] []) [(0, .sl v1), (1, .int .i64 v2), (2, .int .i64 v3), (3, .int .i64 v4), (4, v5), (10, .bool v6), (11, .bool v7), (12, .int .i64 v8), (13, .int .i64 v9), (75, .bool v10)] H (r295_j3 app kt0 v1 v2 v3 v4 v5 v6 v7 v8 v9 v10 H) := by
  unfold r295_j3
  refine f_if (fun h1 => ?_) (fun h1 => ?_)
  · refine bT 75 h1 rfl (q_ (m_ (.sl v1) rfl (m_ (.int .i64 v2) rfl (m_ (.int .i64 v3) rfl (m_ v5 rfl (o_bind fun p2 hp2 => p_ rfl (s_callF rfl ok327 (sim327 happ hp2)) (f_nil ?_)))))))
    refine f_if (fun h3 => ?_) (fun h3 => ?_)
    · exact bT 80 h3 rfl (f_ret (.nil) rfl)
    · exact bF 80 h3 rfl (f_skip (f_keep [0, 1, 2, 3, 4, 10, 11, 12, 13] (s295_j2 happ _ hkt0 v1 v2 v3 v4 v5 v6 v7 v8 v9 p2.2)))
  · exact bF 75 h1 rfl (f_skip (f_keep [0, 1, 2, 3, 4, 10, 11, 12, 13] (s295_j2 happ _ hkt0 v1 v2 v3 v4 v5 v6 v7 v8 v9 H)))

theorem s295_j4 {app : App} (happ : AppSim prog app) (kt0 : Sl → Int → Int → Int → AV → Bool → Bool → Hp → Option (Unit × Hp)) (hkt0 : ∀ (v1 : Sl) (v2 v3 v4 : Int) (v5 : AV) (v6 v7 : Bool) (H : Hp), Fin prog f295 ret295 148 (todoAt (bodyOf f295) [1, 1, 0, 0] []) [(0, .sl v1), (1, .int .i64 v2), (2, .int .i64 v3), (3, .int .i64 v4), (4, v5), (10, .bool v6), (11, .bool v7)] H (kt0 v1 v2 v3 v4 v5 v6 v7 H)) (v1 : Sl) (v2 v3 v4 : Int) (v5 : AV) (v6 v7 : Bool) (v8 v9 v10 : Int) (H : Hp) : Fin prog f295 ret295 148 (todoAt (bodyOf f295) [1, 1, 0, 0, 0, 1, 1, 1, 1, 1, 1] []) [(0, .sl v1), (1, .int .i64 v2), (2, .int .i64 v3), (3, .int .i64 v4), (4, v5), (10, .bool v6), (11, .bool v7), (12, .int .i64 v8), (13, .int .i64 v9), (14, .int .i64 v10)] H (r295_j4 app kt0 v1 v2 v3 v4 v5 v6 v7 v8 v9 v10 H) := by
  unfold r295_j4
  refine f_seq (q_ (m_ (.bool v6) rfl (m_ (.bool v6) rfl ?_)))
  refine o_if (fun h1 => ?_) (fun h1 => ?_)
  · refine o_know 69 rfl (bool_T h1) (m_ (.bool v7) rfl (p_ rfl (s_pickT (v := .bool v7) rfl rfl) (m_ (.bool v7) rfl ?_)))
    refine o_if (fun h2 => ?_) (fun h2 => ?_)
    · exact o_know 72 rfl (bool_T h2) (m_ (.int .i64 v10) rfl (p_ rfl (s_eql rfl rfl) (p_ rfl (s_pickT (v := .bool (decide (v10 = 1))) rfl rfl) (f_nil (f_know 10 rfl (bool_T h1) (f_know 11 rfl (bool_T h2) (f_keep [0, 1, 2, 3, 4, 10, 11, 12, 13, 75] (s295_j3 happ _ hkt0 v1 v2 v3 v4 v5 true true v8 v9 (decide (v10 = 1)) H))))))))
    · exact o_know 72 rfl (bool_F h2) (no_ rfl (no_ rfl (p_ rfl (s_pickF (v := .bool false) rfl rfl) (f_nil (f_know 10 rfl (bool_T h1) (f_know 11 rfl (bool_F h2) (f_keep [0, 1, 2, 3, 4, 10, 11, 12, 13, 75] (s295_j3 happ _ hkt0 v1 v2 v3 v4 v5 true false v8 v9 false H))))))))
  · exact o_know 69 rfl (bool_F h1) (no_ rfl (p_ rfl (s_pickF (v := .bool false) rfl rfl) (m_ (.bool false) rfl (no_ rfl (no_ rfl (p_ rfl (s_pickF (v := .bool false) rfl rfl) (f_nil (f_know 10 rfl (bool_F h1) (f_keep [0, 1, 2, 3, 4, 10, 11, 12, 13, 75] (s295_j3 happ _ hkt0 v1 v2 v3 v4 v5 false v7 v8 v9 false H))))))))))

theorem s295_j5 {app : App} (happ : AppSim prog app) (kt0 : Sl → Int → Int → Int → AV → Bool → Bool → Hp → Option (Unit × Hp)) (hkt0 : ∀ (v1 : Sl) (v2 v3 v4 : Int) (v5 : AV) (v6 v7 : Bool) (H : Hp), Fin prog f295 ret295 148 (todoAt (bodyOf f295) [1, 1, 0, 0] []) [(0, .sl v1), (1, .int .i64 v2), (2, .int .i64 v3), (3, .int .i64 v4), (4, v5), (10, .bool v6), (11, .bool v7)] H (kt0 v1 v2 v3 v4 v5 v6 v7 H)) (v1 : Sl) (v2 v3 v4 : Int) (v5 : AV) (v6 v7 : Bool) (v8 : Int) (H : Hp) : Fin prog f295 ret295 148 (todoAt (bodyOf f295) [1, 1, 0, 0, 0, 1, 1, 1, 1] []) [(0, .sl v1), (1, .int .i64 v2), (2, .int .i64 v3), (3, .int .i64 v4), (4, v5), (10, .bool v6), (11, .bool v7), (12, .int .i64 v8)] H (r295_j5 app kt0 v1 v2 v3 v4 v5 v6 v7 v8 H) := by
  unfold r295_j5
  refine q_ (m_ (.sl v1) rfl (m_ (.int .i64 v2) rfl (m_ (.int .i64 v3) rfl (m_ v5 rfl (o_bind fun p1 hp1 => p_ rfl (s_callF rfl ok325 (sim325 happ hp1)) (m_ (.tup [.int .i64 p1.1.1, .int .i64 p1.1.2]) rfl (p_ rfl (s_extract (r := .int .i64 p1.1.1) rfl rfl) (p_ rfl (s_extract (r := .int .i64 p1.1.2) rfl rfl) (a_ (.int .i64 p1.1.1) rfl (a_ (.int .i64 p1.1.2) rfl (f_nil (f_seq (f_seq ?_)))))))))))))
  refine f_region (m_ (.int .i64 p1.1.2) rfl (p_ rfl (s_eql rfl rfl) (f_nil ?_)))
  refine f_if (fun h2 => ?_) (fun h2 => ?_)
  · refine kT 56 h2 rfl (q_ (m_ (.sl v1) rfl (m_ (.int .i64 v2) rfl (m_ (.int .i64 v3) rfl (m_ v5 rfl (o_bind fun p3 hp3 => p_ rfl (s_callF rfl ok326 (sim326 hp3)) (n_ (m_ (.int .i64 v3) rfl (p_ rfl (s_sub rfl rfl) (m_ (.int .i64 p1.1.1) rfl ?_))))))))))
    exact m_ (.int .i64 v2) rfl (p_ rfl (s_sub rfl rfl) (p_ rfl (s_sub rfl rfl) (a_ (.int .i64 (w64 ((w64 (v3 - 1)) - (w64 (p1.1.1 - v2))))) rfl (f_nil (f_region (a_ (.int .i64 1) rfl (f_nil (f_keep [0, 1, 2, 3, 4, 10, 11, 12, 13, 14] (s295_j4 happ _ hkt0 v1 v2 v3 v4 v5 v6 v7 v8 (w64 ((w64 (v3 - 1)) - (w64 (p1.1.1 - v2)))) 1 p3.2)))))))))
  · exact kF 56 h2 rfl (f_skip (f_keep [0, 1, 2, 3, 4, 10, 11, 12, 13, 14] (s295_j4 happ _ hkt0 v1 v2 v3 v4 v5 v6 v7 v8 p1.1.1 p1.1.2 p1.2)))

theorem s295_l0 {app : App} (happ : AppSim prog app) : ∀ (k_ : Nat) (v1 : Sl) (v2 v3 v4 : Int) (v5 : AV) (v6 v7 : Bool) (H : Hp), Fin prog f295 ret295 148 (todoAt (bodyOf f295) [1, 1, 0, 0] []) [(0, .sl v1), (1, .int .i64 v2), (2, .int .i64 v3), (3, .int .i64 v4), (4, v5), (10, .bool v6), (11, .bool v7)] H (r295_l0 app k_ v1 v2 v3 v4 v5 v6 v7 H) := by
  intro k_
  induction k_ with
  | zero => intro _ _ _ _ _ _ _ _; exact f_none
  | succ k_ ih =>
    intro v1 v2 v3 v4 v5 v6 v7 H
    rw [r295_l0]
    refine f_block (q_ (m_ (.int .i64 v3) rfl (m_ (.int .i64 v2) rfl (p_ rfl (s_sub rfl rfl) (a_ (.int .i64 (w64 (v3 - v2))) rfl (f_nil (f_seq (q_ (m_ (.int .i64 (w64 (v3 - v2))) rfl (p_ rfl (s_leq rfl rfl) (f_nil ?_)))))))))))
    refine f_if (fun h1 => ?_) (fun h1 => ?_)
    · exact kT 25 h1 rfl (q_ (m_ (.sl v1) rfl (m_ (.int .i64 v2) rfl (m_ (.int .i64 v3) rfl (m_ v5 rfl (o_bind fun p2 hp2 => p_ rfl (s_callF rfl ok322 (sim322 happ hp2)) (f_nil (f_ret (.nil) rfl))))))))
    · refine kF 25 h1 rfl (f_skip (f_seq (q_ (m_ (.int .i64 v4) rfl (p_ rfl (s_eql rfl rfl) (f_nil ?_))))))
      refine f_if (fun h3 => ?_) (fun h3 => ?_)
      · exact kT 32 h3 rfl (q_ (m_ (.sl v1) rfl (m_ (.int .i64 v2) rfl (m_ (.int .i64 v3) rfl (m_ v5 rfl (o_bind fun p4 hp4 => p_ rfl (s_callF rfl ok323 (sim323 happ hp4)) (f_nil (f_ret (.nil) rfl))))))))
      · refine kF 32 h3 rfl (f_skip (f_seq (q_ (m_ (.bool v6) rfl (p_ rfl (s_not rfl) (f_nil ?_))))))
        refine f_if (fun h5 => ?_) (fun h5 => ?_)
        · exact f_know 39 rfl (bool_notT h5) (f_condF rfl (f_skip (f_know 10 rfl (bool_T h5) (f_keep [0, 1, 2, 3, 4, 10, 11, 12] (s295_j5 happ _ ih v1 v2 v3 v4 v5 true v7 (w64 (v3 - v2)) H)))))
        · refine f_know 39 rfl (bool_notF h5) (f_condT rfl (q_ (m_ (.sl v1) rfl (m_ (.int .i64 v2) rfl (m_ (.int .i64 v3) rfl (m_ v5 rfl (o_bind fun p6 hp6 => p_ rfl (s_callF rfl ok324 (sim324 hp6)) (f_nil (f_region (m_ (.int .i64 v4) rfl (p_ rfl (s_sub rfl rfl) (a_ (.int .i64 (w64 (v4 - 1))) rfl (f_nil ?_)))))))))))))
          exact f_know 10 rfl (bool_F h5) (f_keep [0, 1, 2, 3, 4, 10, 11, 12] (s295_j5 happ _ ih v1 v2 v3 (w64 (v4 - 1)) v5 false v7 (w64 (v3 - v2)) p6.2))

theorem sim295 {app : App} (happ : AppSim prog app) {a0 : Sl} {a1 : Int} {a2 : Int} {a3 : Int} {a4 : AV} {H : Hp} {p : Unit × Hp} (h : r295 app a0 a1 a2 a3 a4 H = some p) : CallSim prog 295 [.sl a0, .int .i64 a1, .int .i64 a2, .int .i64 a3, a4] H (.tup []) p.2 := by
  refine callSim (fn := f295) (ret := ret295) func295 rfl Tryz.ntmps295 rfl ?_ h
  unfold r295
  exact q_ (a_ (.bool true) rfl (n_ (a_ (.bool true) rfl (f_nil (f_block (f_loop (f_keep [0, 1, 2, 3, 4, 10, 11] (s295_l0 happ FUEL a0 a1 a2 a3 a4 true true H))))))))

/- 232 slices.SortFunc[[]int,int] -/
theorem ok232 : FnOk prog 232 := ⟨⟨f232, func232, by kernel_rfl, rfl⟩⟩
theorem sim232 {app : App} (happ : AppSim prog app) {a0 : Sl} {a1 : AV} {H : Hp} {p : Unit × Hp} (h : r232 app a0 a1 H = some p) : CallSim prog 232 [.sl a0, a1] H (.tup []) p.2 := by
  refine callSim (fn := f232) (ret := ret232) func232 rfl Tryz.ntmps232 rfl ?_ h
  unfold r232
  refine q_ (m_ (.sl a0) rfl (p_ rfl (s_lenS rfl underlying25 rfl) (a_ (.int .i64 (a0.len : Int)) rfl (f_nil (f_region (m_ (.sl a0) rfl (m_ (.int .i64 (a0.len : Int)) rfl (m_ (.int .i64 (a0.len : Int)) rfl (p_ rfl (s_convInt underlying3 underlying46 rfl) (o_bind fun p1 hp1 => p_ rfl (s_callF rfl ok296 (sim296 hp1)) (m_ a1 rfl (o_bind fun p2 hp2 => p_ rfl (s_callF rfl ok295 (sim295 happ hp2)) ?_))))))))))))
  exact f_nil (f_end (.nil) rfl)

/- 171 slices.SortedFunc[int] -/
theorem ok171 : FnOk prog 171 := ⟨⟨f171, func171, by kernel_rfl, rfl⟩⟩
theorem sim171 {app : App} (happ : AppSim prog app) {a0 : AV} {a1 : AV} {H : Hp} {p : Sl × Hp} (h : r171 app a0 a1 H = some p) : CallSim prog 171 [a0, a1] H (.sl p.1) p.2 := by
  refine callSim (fn := f171) (ret := ret171) func171 rfl Tryz.ntmps171 rfl ?_ h
  unfold r171
  refine q_ (a_ (.sl ⟨true, 0, 0, 0, 0, 0⟩) rfl (n_ (m_ a0 rfl (o_bind fun p1 hp1 => p_ rfl (s_callF rfl ok231 (sim231 happ hp1)) (a_ (.sl p1.1) rfl (n_ (m_ (.sl p1.1) rfl (m_ a1 rfl (o_bind fun p2 hp2 => ?_)))))))))
  exact p_ rfl (s_callF rfl ok232 (sim232 happ hp2)) (n_ (m_ (.sl p1.1) rfl (a_ (.sl p1.1) rfl (f_nil (f_ret (.tmp rfl (.nil)) rfl)))))

end Go.Lt.P10
