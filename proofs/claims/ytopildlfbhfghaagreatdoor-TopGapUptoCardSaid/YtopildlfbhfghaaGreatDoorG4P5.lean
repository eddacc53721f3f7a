/- PRINTED BY A PROGRAM OF OURS: what each function that 'TopGap' reaches computes on the abstract heap, and that the translated code does just that. Nothing is asked of the input. -/
import Derived.Test.YtopildlfbhfghaaGreatDoorG4P4
set_option linter.unusedVariables false
set_option linter.unusedSimpArgs false
set_option maxRecDepth 100000
set_option maxHeartbeats 4000000
namespace Go.Lt.P10
open Go Go.Lt Go.Proofs Go.Proofs.Tryz
/- 353 slices.medianCmpFunc[int] -/
theorem ok353 : FnOk prog 353 := ⟨⟨f353, func353, by kernel_rfl, rfl⟩⟩
theorem sim353 {app : App} (happ : AppSim prog app) {a0 : Sl} {a1 : Int} {a2 : Int} {a3 : Int} {a4b : Nat} {a4o : Nat} {a5 : AV} {H : Hp} {p : Int × Hp} (h : r353 app a0 a1 a2 a3 a4b a4o a5 H = some p) : CallSim prog 353 [.sl a0, .int .i64 a1, .int .i64 a2, .int .i64 a3, .ptr a4b a4o, a5] H (.int .i64 p.1) p.2 := by
  refine callSim (fn := f353) (ret := ret353) func353 rfl Tryz.ntmps353 rfl ?_ h
  unfold r353
  refine q_ (a_ (.int .i64 0) rfl (n_ (m_ (.sl a0) rfl (m_ (.int .i64 a1) rfl (m_ (.int .i64 a2) rfl (m_ (.ptr a4b a4o) rfl (m_ a5 rfl (o_bind fun p1 hp1 => p_ rfl (s_callF rfl ok367 (sim367 happ hp1)) (m_ (.tup [.int .i64 p1.1.1, .int .i64 p1.1.2]) rfl (p_ rfl (s_extract (r := .int .i64 p1.1.1) rfl rfl) (p_ rfl (s_extract (r := .int .i64 p1.1.2) rfl rfl) ?_)))))))))))
  refine a_ (.int .i64 p1.1.1) rfl (a_ (.int .i64 p1.1.2) rfl (n_ (m_ (.sl a0) rfl (m_ (.int .i64 p1.1.2) rfl (m_ (.int .i64 a3) rfl (m_ (.ptr a4b a4o) rfl (m_ a5 rfl (o_bind fun p2 hp2 => p_ rfl (s_callF rfl ok367 (sim367 happ hp2)) (m_ (.tup [.int .i64 p2.1.1, .int .i64 p2.1.2]) rfl (p_ rfl (s_extract (r := .int .i64 p2.1.1) rfl rfl) (p_ rfl (s_extract (r := .int .i64 p2.1.2) rfl rfl) (a_ (.int .i64 p2.1.1) rfl ?_))))))))))))
  refine a_ (.int .i64 p2.1.2) rfl (n_ (m_ (.sl a0) rfl (m_ (.int .i64 p1.1.1) rfl (m_ (.int .i64 p2.1.1) rfl (m_ (.ptr a4b a4o) rfl (m_ a5 rfl (o_bind fun p3 hp3 => p_ rfl (s_callF rfl ok367 (sim367 happ hp3)) (m_ (.tup [.int .i64 p3.1.1, .int .i64 p3.1.2]) rfl (p_ rfl (s_extract (r := .int .i64 p3.1.1) rfl rfl) (p_ rfl (s_extract (r := .int .i64 p3.1.2) rfl rfl) (a_ (.int .i64 p3.1.1) rfl (a_ (.int .i64 p3.1.2) rfl ?_))))))))))))
  exact n_ (m_ (.int .i64 p3.1.2) rfl (a_ (.int .i64 p3.1.2) rfl (f_nil (f_ret (.tmp rfl (.nil)) rfl))))

/- 352 slices.medianAdjacentCmpFunc[int] -/
theorem ok352 : FnOk prog 352 := ⟨⟨f352, func352, by kernel_rfl, rfl⟩⟩
theorem sim352 {app : App} (happ : AppSim prog app) {a0 : Sl} {a1 : Int} {a2b : Nat} {a2o : Nat} {a3 : AV} {H : Hp} {p : Int × Hp} (h : r352 app a0 a1 a2b a2o a3 H = some p) : CallSim prog 352 [.sl a0, .int .i64 a1, .ptr a2b a2o, a3] H (.int .i64 p.1) p.2 := by
  refine callSim (fn := f352) (ret := ret352) func352 rfl Tryz.ntmps352 rfl ?_ h
  unfold r352
  refine q_ (a_ (.int .i64 0) rfl (n_ (m_ (.sl a0) rfl (m_ (.int .i64 a1) rfl (p_ rfl (s_sub rfl rfl) (m_ (.int .i64 a1) rfl (m_ (.int .i64 a1) rfl (p_ rfl (s_add rfl rfl) (m_ (.ptr a2b a2o) rfl (m_ a3 rfl (o_bind fun p1 hp1 => p_ rfl (s_callF rfl ok353 (sim353 happ hp1)) ?_)))))))))))
  exact a_ (.int .i64 p1.1) rfl (f_nil (f_ret (.tmp rfl (.nil)) rfl))

/- 325 slices.choosePivotCmpFunc[int] -/
theorem ok325 : FnOk prog 325 := ⟨⟨f325, func325, by kernel_rfl, rfl⟩⟩
theorem s325_j1 {app : App} (happ : AppSim prog app) (v1 : Nat) (v2 : Int) (H : Hp) : Fin prog f325 ret325 63 (todoAt (bodyOf f325) [1, 1, 1, 1, 1, 1, 1] []) [(11, .ptr v1 0), (13, .int .i64 v2)] H (r325_j1 app v1 v2 H) := by
  unfold r325_j1
  refine q_ (o_bind fun x1 hx1 => p_ rfl (s_load underlying3 rfl rfl (ldI_eq hx1)) (f_nil (f_block (q_ (p_ rfl (s_eql rfl rfl) (a_ (.bool (decide (x1 = 0))) rfl (f_nil ?_)))))))
  refine f_if (fun h2 => ?_) (fun h2 => ?_)
  · exact kT 57 h2 rfl (q_ (m_ (.int .i64 v2) rfl (a_ (.int .i64 v2) rfl (a_ (.int .i64 1) rfl (f_nil (f_ret (.tmp rfl (.tmp rfl (.nil))) rfl))))))
  · refine kF 57 h2 rfl (q_ (p_ rfl (s_eql rfl rfl) (a_ (.bool (decide (x1 = 12))) rfl (f_nil ?_))))
    refine f_if (fun h3 => ?_) (fun h3 => ?_)
    · exact kT 60 h3 rfl (q_ (m_ (.int .i64 v2) rfl (a_ (.int .i64 v2) rfl (a_ (.int .i64 2) rfl (f_nil (f_ret (.tmp rfl (.tmp rfl (.nil))) rfl))))))
    · exact kF 60 h3 rfl (q_ (m_ (.int .i64 v2) rfl (a_ (.int .i64 v2) rfl (a_ (.int .i64 0) rfl (f_nil (f_ret (.tmp rfl (.tmp rfl (.nil))) rfl))))))

theorem s325_j0 {app : App} (happ : AppSim prog app) (v1 : Sl) (v2 : AV) (v3 : Nat) (v4 v5 v6 : Int) (H : Hp) : Fin prog f325 ret325 63 (todoAt (bodyOf f325) [1, 1, 1, 1, 1, 1, 0, 1, 0, 1] []) [(0, .sl v1), (3, v2), (11, .ptr v3 0), (12, .int .i64 v4), (13, .int .i64 v5), (14, .int .i64 v6)] H (r325_j0 app v1 v2 v3 v4 v5 v6 H) := by
  unfold r325_j0
  exact f_region (m_ (.sl v1) rfl (m_ (.int .i64 v4) rfl (m_ (.int .i64 v5) rfl (m_ (.int .i64 v6) rfl (m_ v2 rfl (o_bind fun p1 hp1 => p_ rfl (s_callF rfl ok353 (sim353 happ hp1)) (a_ (.int .i64 p1.1) rfl (f_nil (f_keep [11, 13] (s325_j1 happ v3 p1.1 p1.2))))))))))

theorem sim325 {app : App} (happ : AppSim prog app) {a0 : Sl} {a1 : Int} {a2 : Int} {a3 : AV} {H : Hp} {p : (Int × Int) × Hp} (h : r325 app a0 a1 a2 a3 H = some p) : CallSim prog 325 [.sl a0, .int .i64 a1, .int .i64 a2, a3] H (.tup [.int .i64 p.1.1, .int .i64 p.1.2]) p.2 := by
  refine callSim (fn := f325) (ret := ret325) func325 rfl Tryz.ntmps325 rfl ?_ h
  unfold r325
  refine q_ (a_ (.int .i64 0) rfl (a_ (.int .i64 0) rfl (n_ (m_ (.int .i64 a2) rfl (m_ (.int .i64 a1) rfl (p_ rfl (s_sub rfl rfl) (a_ (.int .i64 (w64 (a2 - a1))) rfl (n_ (p_ rfl (s_alloc (zs := [.int .i64 0]) ty3 rfl rfl) (o_hp fun H1 hH1 => ?_))))))))))
  refine n_ (m_ (.int .i64 a1) rfl (m_ (.int .i64 (w64 (a2 - a1))) rfl (p_ rfl (s_quo rfl rfl (by decide)) (p_ rfl (s_mul rfl rfl) (p_ rfl (s_add rfl rfl) (a_ (.int .i64 (w64 (a1 + (w64 ((w64 (Int.tdiv (w64 (a2 - a1)) 4)) * 1))))) rfl (n_ (m_ (.int .i64 a1) rfl (m_ (.int .i64 (w64 (a2 - a1))) rfl (p_ rfl (s_quo rfl rfl (by decide)) (p_ rfl (s_mul rfl rfl) ?_)))))))))))
  refine p_ rfl (s_add rfl rfl) (a_ (.int .i64 (w64 (a1 + (w64 ((w64 (Int.tdiv (w64 (a2 - a1)) 4)) * 2))))) rfl (n_ (m_ (.int .i64 a1) rfl (m_ (.int .i64 (w64 (a2 - a1))) rfl (p_ rfl (s_quo rfl rfl (by decide)) (p_ rfl (s_mul rfl rfl) (p_ rfl (s_add rfl rfl) (a_ (.int .i64 (w64 (a1 + (w64 ((w64 (Int.tdiv (w64 (a2 - a1)) 4)) * 3))))) rfl (f_nil (f_seq (q_ (m_ (.int .i64 (w64 (a2 - a1))) rfl ?_))))))))))))
  refine p_ rfl (s_geq rfl rfl) (f_nil ?_)
  refine f_if (fun h2 => ?_) (fun h2 => ?_)
  · refine kT 34 h2 rfl (f_seq (q_ (m_ (.int .i64 (w64 (a2 - a1))) rfl (p_ rfl (s_geq rfl rfl) (f_nil ?_)))))
    refine f_if (fun h3 => ?_) (fun h3 => ?_)
    · refine kT 36 h3 rfl (q_ (m_ (.sl a0) rfl (m_ (.int .i64 (w64 (a1 + (w64 ((w64 (Int.tdiv (w64 (a2 - a1)) 4)) * 1))))) rfl (m_ a3 rfl (o_bind fun p4 hp4 => p_ rfl (s_callF rfl ok352 (sim352 happ hp4)) (a_ (.int .i64 p4.1) rfl (n_ (m_ (.sl a0) rfl (m_ (.int .i64 (w64 (a1 + (w64 ((w64 (Int.tdiv (w64 (a2 - a1)) 4)) * 2))))) rfl (m_ a3 rfl ?_))))))))))
      exact o_bind fun p5 hp5 => p_ rfl (s_callF rfl ok352 (sim352 happ hp5)) (a_ (.int .i64 p5.1) rfl (f_nil (f_region (m_ (.sl a0) rfl (m_ (.int .i64 (w64 (a1 + (w64 ((w64 (Int.tdiv (w64 (a2 - a1)) 4)) * 3))))) rfl (m_ a3 rfl (o_bind fun p6 hp6 => p_ rfl (s_callF rfl ok352 (sim352 happ hp6)) (a_ (.int .i64 p6.1) rfl (f_nil (f_keep [0, 3, 11, 12, 13, 14] (s325_j0 happ a0 a3 H.n p4.1 p5.1 p6.1 p6.2)))))))))))
    · exact kF 36 h3 rfl (f_skip (f_keep [0, 3, 11, 12, 13, 14] (s325_j0 happ a0 a3 H.n (w64 (a1 + (w64 ((w64 (Int.tdiv (w64 (a2 - a1)) 4)) * 1)))) (w64 (a1 + (w64 ((w64 (Int.tdiv (w64 (a2 - a1)) 4)) * 2)))) (w64 (a1 + (w64 ((w64 (Int.tdiv (w64 (a2 - a1)) 4)) * 3)))) H1)))
  · exact kF 34 h2 rfl (f_skip (f_keep [11, 13] (s325_j1 happ H.n (w64 (a1 + (w64 ((w64 (Int.tdiv (w64 (a2 - a1)) 4)) * 2)))) H1)))

/- 326 slices.reverseRangeCmpFunc[int] -/
theorem ok326 : FnOk prog 326 := ⟨⟨f326, func326, by kernel_rfl, rfl⟩⟩
theorem s326_l0 : ∀ (k_ : Nat) (v1 : Sl) (v2 v3 : Int) (H : Hp), Fin prog f326 ret326 34 (todoAt (bodyOf f326) [1, 1, 0, 0] []) [(0, .sl v1), (8, .int .i64 v2), (9, .int .i64 v3)] H (r326_l0 k_ v1 v2 v3 H) := by
  intro k_
  induction k_ with
  | zero => intro _ _ _ _; exact f_none
  | succ k_ ih =>
    intro v1 v2 v3 H
    rw [r326_l0]
    refine f_seq (q_ (m_ (.int .i64 v2) rfl (m_ (.int .i64 v3) rfl (p_ rfl (s_lss rfl rfl) (f_nil ?_)))))
    refine f_if (fun h1 => ?_) (fun h1 => ?_)
    · refine kT 15 h1 rfl (f_skip (f_block (f_seq (f_ck fun g2 => f_bind fun x3 hx3 => f_ck fun g4 => f_bind fun x5 hx5 => f_ck fun g6 => f_bind fun H7 hH7 => f_ck fun g8 => f_bind fun H9 hH9 => f_draw (Φ := fun _ => True) (lim := 1000000) [0, 0, 0, 0, 0, 0, 0, 1, 0, 0, 0, 1, 0, 2, 0, 2] (tm (.sl v1) rfl (tm (.int .i64 v2) rfl (tm (.sl v1) rfl (tm (.int .i64 v3) rfl (tm (.sl v1) rfl (tm (.int .i64 v3) rfl (t_ rfl (fun _ => s_idx underlying25 ty3 rfl rfl g2) (tr rfl (s_load underlying3 rfl rfl (ldI_eq hx3)) (tm (.sl v1) rfl (tm (.int .i64 v2) rfl (t_ rfl (fun _ => s_idx underlying25 ty3 rfl rfl g4) (tr rfl (s_load underlying3 rfl rfl (ldI_eq hx5)) (t_ rfl (fun _ => s_idx underlying25 ty3 rfl rfl g6) (Trc.eff rfl rfl rfl (fun _ => trivial) (s_store (s := 1) ty3 rfl rfl rfl hH7) (t_ rfl (fun _ => s_idx underlying25 ty3 rfl rfl g8) (Trc.eff rfl rfl rfl (fun _ => trivial) (s_store (s := 1) ty3 rfl rfl rfl hH9) (Trc.nil (fun _ => trivial)))))))))))))))))) rfl (by decide +kernel) mixed (q_ ?_)))))
      exact m_ (.int .i64 v2) rfl (p_ rfl (s_add rfl rfl) (a_ (.int .i64 (w64 (v2 + 1))) rfl (f_nil (f_region (m_ (.int .i64 v3) rfl (p_ rfl (s_sub rfl rfl) (a_ (.int .i64 (w64 (v3 - 1))) rfl (f_nil (f_inBlock (f_inLoop (f_keep [0, 8, 9] (ih v1 (w64 (v2 + 1)) (w64 (v3 - 1)) H9))))))))))))
    · exact kF 15 h1 rfl (f_exit rfl (f_end (.nil) rfl))

theorem sim326 {a0 : Sl} {a1 : Int} {a2 : Int} {a3 : AV} {H : Hp} {p : Unit × Hp} (h : r326 a0 a1 a2 a3 H = some p) : CallSim prog 326 [.sl a0, .int .i64 a1, .int .i64 a2, a3] H (.tup []) p.2 := by
  refine callSim (fn := f326) (ret := ret326) func326 rfl Tryz.ntmps326 rfl ?_ h
  unfold r326
  exact q_ (m_ (.int .i64 a1) rfl (a_ (.int .i64 a1) rfl (n_ (m_ (.int .i64 a2) rfl (p_ rfl (s_sub rfl rfl) (a_ (.int .i64 (w64 (a2 - 1))) rfl (f_nil (f_block (f_loop (f_keep [0, 8, 9] (s326_l0 FUEL a0 a1 (w64 (a2 - 1)) H)))))))))))

/- 327 slices.partialInsertionSortCmpFunc[int] -/
theorem ok327 : FnOk prog 327 := ⟨⟨f327, func327, by kernel_rfl, rfl⟩⟩
theorem s327_l3 {app : App} (happ : AppSim prog app) (kt0 : Sl → Int → Int → AV → Int → Int → Hp → Option (Bool × Hp)) (hkt0 : ∀ (v1 : Sl) (v2 v3 : Int) (v4 : AV) (v5 v6 : Int) (H : Hp), Fin prog f327 ret327 141 (todoAt (bodyOf f327) [1, 1, 0, 1, 0, 0] []) [(0, .sl v1), (1, .int .i64 v2), (2, .int .i64 v3), (3, v4), (9, .int .i64 v5), (10, .int .i64 v6)] H (kt0 v1 v2 v3 v4 v5 v6 H)) : ∀ (k_ : Nat) (v1 : Sl) (v2 v3 : Int) (v4 : AV) (v5 v6 v7 : Int) (H : Hp), Fin prog f327 ret327 141 (todoAt (bodyOf f327) [1, 1, 0, 1, 0, 0, 1, 0, 0, 1, 1, 1, 1, 1, 1, 0, 1, 0, 0] []) [(0, .sl v1), (1, .int .i64 v2), (2, .int .i64 v3), (3, v4), (9, .int .i64 v5), (10, .int .i64 v6), (12, .int .i64 v7)] H (r327_l3 app kt0 k_ v1 v2 v3 v4 v5 v6 v7 H) := by
  intro k_
  induction k_ with
  | zero => intro _ _ _ _ _ _ _ _; exact f_none
  | succ k_ ih =>
    intro v1 v2 v3 v4 v5 v6 v7 H
    rw [r327_l3]
    refine f_seq (q_ (m_ (.int .i64 v7) rfl (m_ (.int .i64 v3) rfl (p_ rfl (s_lss rfl rfl) (f_nil ?_)))))
    refine f_if (fun h1 => ?_) (fun h1 => ?_)
    · refine kT 109 h1 rfl (f_skip (f_seq (f_block (f_seq (f_seq (f_ck fun g2 => f_bind fun x3 hx3 => f_ck fun g4 => f_bind fun x5 hx5 => f_bind fun p6 hp6 => f_bind fun x7 hx7 => f_draw (Φ := fun _ => True) (lim := 1000000) [0, 0, 0, 0, 1, 0, 0, 0, 0, 1, 2, 0, 0] (tm v4 rfl (tm (.sl v1) rfl (tm (.int .i64 v7) rfl (t_ rfl (fun _ => s_idx underlying25 ty3 rfl rfl g2) (tr rfl (s_load underlying3 rfl rfl (ldI_eq hx3)) (tm (.sl v1) rfl (tm (.int .i64 v7) rfl (t_ rfl (fun _ => s_sub rfl rfl) (t_ rfl (fun _ => s_idx underlying25 ty3 rfl rfl g4) (tr rfl (s_load underlying3 rfl rfl (ldI_eq hx5)) (Trc.eff rfl rfl rfl (fun _ => trivial) (s_callv happ rfl rfl hp6) (Trc.know 122 rfl (asI_eq hx7) (t_ rfl (fun _ => s_lss rfl rfl) (t_ rfl (fun _ => s_not rfl) (Trc.nil (fun _ => trivial)))))))))))))))) rfl (by decide +kernel) mixed ?_))))))
      refine f_if (fun h8 => ?_) (fun h8 => ?_)
      · refine f_know 124 rfl (dec_notT h8) (f_condF rfl (f_skip (f_ck fun g9 => f_bind fun x10 hx10 => f_ck fun g11 => f_bind fun x12 hx12 => f_ck fun g13 => f_bind fun H14 hH14 => f_ck fun g15 => f_bind fun H16 hH16 => f_draw (Φ := fun _ => True) (lim := 1000000) [0, 0, 0, 0, 0, 0, 0, 0, 0, 1, 0, 0, 0, 1, 0, 2, 0, 2] (tm (.sl v1) rfl (tm (.int .i64 v7) rfl (tm (.sl v1) rfl (tm (.int .i64 v7) rfl (t_ rfl (fun _ => s_sub rfl rfl) (tm (.sl v1) rfl (tm (.int .i64 v7) rfl (t_ rfl (fun _ => s_sub rfl rfl) (t_ rfl (fun _ => s_idx underlying25 ty3 rfl rfl g9) (tr rfl (s_load underlying3 rfl rfl (ldI_eq hx10)) (tm (.sl v1) rfl (tm (.int .i64 v7) rfl (t_ rfl (fun _ => s_idx underlying25 ty3 rfl rfl g11) (tr rfl (s_load underlying3 rfl rfl (ldI_eq hx12)) (t_ rfl (fun _ => s_idx underlying25 ty3 rfl rfl g13) (Trc.eff rfl rfl rfl (fun _ => trivial) (s_store (s := 1) ty3 rfl rfl rfl hH14) (t_ rfl (fun _ => s_idx underlying25 ty3 rfl rfl g15) (Trc.eff rfl rfl rfl (fun _ => trivial) (s_store (s := 1) ty3 rfl rfl rfl hH16) (Trc.nil (fun _ => trivial)))))))))))))))))))) rfl (by decide +kernel) mixed (f_inBlock (f_region (m_ (.int .i64 v7) rfl (p_ rfl (s_add rfl rfl) ?_)))))))
        exact a_ (.int .i64 (w64 (v7 + 1))) rfl (f_nil (f_inLoop (f_keep [0, 1, 2, 3, 9, 10, 12] (ih v1 v2 v3 v4 v5 v6 (w64 (v7 + 1)) H16))))
      · exact f_know 124 rfl (dec_notF h8) (f_condT rfl (f_exit rfl (f_inBlock (f_region (m_ (.int .i64 v6) rfl (p_ rfl (s_add rfl rfl) (a_ (.int .i64 (w64 (v6 + 1))) rfl (f_nil (f_inLoop (f_keep [0, 1, 2, 3, 9, 10] (hkt0 v1 v2 v3 v4 v5 (w64 (v6 + 1)) p6.2)))))))))))
    · exact kF 109 h1 rfl (f_exit rfl (f_inBlock (f_region (m_ (.int .i64 v6) rfl (p_ rfl (s_add rfl rfl) (a_ (.int .i64 (w64 (v6 + 1))) rfl (f_nil (f_inLoop (f_keep [0, 1, 2, 3, 9, 10] (hkt0 v1 v2 v3 v4 v5 (w64 (v6 + 1)) H))))))))))

theorem s327_j5 {app : App} (happ : AppSim prog app) (kt0 : Sl → Int → Int → AV → Int → Int → Hp → Option (Bool × Hp)) (hkt0 : ∀ (v1 : Sl) (v2 v3 : Int) (v4 : AV) (v5 v6 : Int) (H : Hp), Fin prog f327 ret327 141 (todoAt (bodyOf f327) [1, 1, 0, 1, 0, 0] []) [(0, .sl v1), (1, .int .i64 v2), (2, .int .i64 v3), (3, v4), (9, .int .i64 v5), (10, .int .i64 v6)] H (kt0 v1 v2 v3 v4 v5 v6 H)) (v1 : Sl) (v2 v3 : Int) (v4 : AV) (v5 v6 : Int) (H : Hp) : Fin prog f327 ret327 141 (todoAt (bodyOf f327) [1, 1, 0, 1, 0, 0, 1, 0, 0, 1, 1, 1, 1, 1] []) [(0, .sl v1), (1, .int .i64 v2), (2, .int .i64 v3), (3, v4), (9, .int .i64 v5), (10, .int .i64 v6)] H (r327_j5 app kt0 v1 v2 v3 v4 v5 v6 H) := by
  unfold r327_j5
  refine q_ (m_ (.int .i64 v3) rfl (m_ (.int .i64 v5) rfl (p_ rfl (s_sub rfl rfl) (p_ rfl (s_geq rfl rfl) (f_nil ?_)))))
  refine f_if (fun h1 => ?_) (fun h1 => ?_)
  · exact kT 104 h1 rfl (q_ (m_ (.int .i64 v5) rfl (p_ rfl (s_add rfl rfl) (a_ (.int .i64 (w64 (v5 + 1))) rfl (f_nil (f_block (f_loop (f_keep [0, 1, 2, 3, 9, 10, 12] (s327_l3 happ _ hkt0 FUEL v1 v2 v3 v4 v5 v6 (w64 (v5 + 1)) H)))))))))
  · exact kF 104 h1 rfl (f_skip (f_inBlock (f_region (m_ (.int .i64 v6) rfl (p_ rfl (s_add rfl rfl) (a_ (.int .i64 (w64 (v6 + 1))) rfl (f_nil (f_inLoop (f_keep [0, 1, 2, 3, 9, 10] (hkt0 v1 v2 v3 v4 v5 (w64 (v6 + 1)) H))))))))))

theorem s327_l2 {app : App} (happ : AppSim prog app) (kt0 : Sl → Int → Int → AV → Int → Int → Hp → Option (Bool × Hp)) (hkt0 : ∀ (v1 : Sl) (v2 v3 : Int) (v4 : AV) (v5 v6 : Int) (H : Hp), Fin prog f327 ret327 141 (todoAt (bodyOf f327) [1, 1, 0, 1, 0, 0] []) [(0, .sl v1), (1, .int .i64 v2), (2, .int .i64 v3), (3, v4), (9, .int .i64 v5), (10, .int .i64 v6)] H (kt0 v1 v2 v3 v4 v5 v6 H)) : ∀ (k_ : Nat) (v1 : Sl) (v2 v3 : Int) (v4 : AV) (v5 v6 v7 : Int) (H : Hp), Fin prog f327 ret327 141 (todoAt (bodyOf f327) [1, 1, 0, 1, 0, 0, 1, 0, 0, 1, 1, 1, 1, 0, 1, 0, 1, 0, 0] []) [(0, .sl v1), (1, .int .i64 v2), (2, .int .i64 v3), (3, v4), (9, .int .i64 v5), (10, .int .i64 v6), (11, .int .i64 v7)] H (r327_l2 app kt0 k_ v1 v2 v3 v4 v5 v6 v7 H) := by
  intro k_
  induction k_ with
  | zero => intro _ _ _ _ _ _ _ _; exact f_none
  | succ k_ ih =>
    intro v1 v2 v3 v4 v5 v6 v7 H
    rw [r327_l2]
    refine f_seq (q_ (m_ (.int .i64 v7) rfl (p_ rfl (s_geq rfl rfl) (f_nil ?_))))
    refine f_if (fun h1 => ?_) (fun h1 => ?_)
    · refine kT 69 h1 rfl (f_skip (f_seq (f_block (f_seq (f_seq (f_ck fun g2 => f_bind fun x3 hx3 => f_ck fun g4 => f_bind fun x5 hx5 => f_bind fun p6 hp6 => f_bind fun x7 hx7 => f_draw (Φ := fun _ => True) (lim := 1000000) [0, 0, 0, 0, 1, 0, 0, 0, 0, 1, 2, 0, 0] (tm v4 rfl (tm (.sl v1) rfl (tm (.int .i64 v7) rfl (t_ rfl (fun _ => s_idx underlying25 ty3 rfl rfl g2) (tr rfl (s_load underlying3 rfl rfl (ldI_eq hx3)) (tm (.sl v1) rfl (tm (.int .i64 v7) rfl (t_ rfl (fun _ => s_sub rfl rfl) (t_ rfl (fun _ => s_idx underlying25 ty3 rfl rfl g4) (tr rfl (s_load underlying3 rfl rfl (ldI_eq hx5)) (Trc.eff rfl rfl rfl (fun _ => trivial) (s_callv happ rfl rfl hp6) (Trc.know 82 rfl (asI_eq hx7) (t_ rfl (fun _ => s_lss rfl rfl) (t_ rfl (fun _ => s_not rfl) (Trc.nil (fun _ => trivial)))))))))))))))) rfl (by decide +kernel) mixed ?_))))))
      refine f_if (fun h8 => ?_) (fun h8 => ?_)
      · refine f_know 84 rfl (dec_notT h8) (f_condF rfl (f_skip (f_ck fun g9 => f_bind fun x10 hx10 => f_ck fun g11 => f_bind fun x12 hx12 => f_ck fun g13 => f_bind fun H14 hH14 => f_ck fun g15 => f_bind fun H16 hH16 => f_draw (Φ := fun _ => True) (lim := 1000000) [0, 0, 0, 0, 0, 0, 0, 0, 0, 1, 0, 0, 0, 1, 0, 2, 0, 2] (tm (.sl v1) rfl (tm (.int .i64 v7) rfl (tm (.sl v1) rfl (tm (.int .i64 v7) rfl (t_ rfl (fun _ => s_sub rfl rfl) (tm (.sl v1) rfl (tm (.int .i64 v7) rfl (t_ rfl (fun _ => s_sub rfl rfl) (t_ rfl (fun _ => s_idx underlying25 ty3 rfl rfl g9) (tr rfl (s_load underlying3 rfl rfl (ldI_eq hx10)) (tm (.sl v1) rfl (tm (.int .i64 v7) rfl (t_ rfl (fun _ => s_idx underlying25 ty3 rfl rfl g11) (tr rfl (s_load underlying3 rfl rfl (ldI_eq hx12)) (t_ rfl (fun _ => s_idx underlying25 ty3 rfl rfl g13) (Trc.eff rfl rfl rfl (fun _ => trivial) (s_store (s := 1) ty3 rfl rfl rfl hH14) (t_ rfl (fun _ => s_idx underlying25 ty3 rfl rfl g15) (Trc.eff rfl rfl rfl (fun _ => trivial) (s_store (s := 1) ty3 rfl rfl rfl hH16) (Trc.nil (fun _ => trivial)))))))))))))))))))) rfl (by decide +kernel) mixed (f_inBlock (f_region (m_ (.int .i64 v7) rfl (p_ rfl (s_sub rfl rfl) ?_)))))))
        exact a_ (.int .i64 (w64 (v7 - 1))) rfl (f_nil (f_inLoop (f_keep [0, 1, 2, 3, 9, 10, 11] (ih v1 v2 v3 v4 v5 v6 (w64 (v7 - 1)) H16))))
      · exact f_know 84 rfl (dec_notF h8) (f_condT rfl (f_exit rfl (f_keep [0, 1, 2, 3, 9, 10] (s327_j5 happ _ hkt0 v1 v2 v3 v4 v5 v6 p6.2))))
    · exact kF 69 h1 rfl (f_exit rfl (f_keep [0, 1, 2, 3, 9, 10] (s327_j5 happ _ hkt0 v1 v2 v3 v4 v5 v6 H)))

theorem s327_j4 {app : App} (happ : AppSim prog app) (kt0 : Sl → Int → Int → AV → Int → Int → Hp → Option (Bool × Hp)) (hkt0 : ∀ (v1 : Sl) (v2 v3 : Int) (v4 : AV) (v5 v6 : Int) (H : Hp), Fin prog f327 ret327 141 (todoAt (bodyOf f327) [1, 1, 0, 1, 0, 0] []) [(0, .sl v1), (1, .int .i64 v2), (2, .int .i64 v3), (3, v4), (9, .int .i64 v5), (10, .int .i64 v6)] H (kt0 v1 v2 v3 v4 v5 v6 H)) (kt1 : Sl → Int → Int → AV → Int → Int → Hp → Option (Bool × Hp)) (hkt1 : ∀ (v1 : Sl) (v2 v3 : Int) (v4 : AV) (v5 v6 : Int) (H : Hp), Fin prog f327 ret327 141 (todoAt (bodyOf f327) [1, 1, 0, 1, 0, 0, 1, 0, 0, 0, 0, 0] []) [(0, .sl v1), (1, .int .i64 v2), (2, .int .i64 v3), (3, v4), (9, .int .i64 v5), (10, .int .i64 v6)] H (kt1 v1 v2 v3 v4 v5 v6 H)) (v1 : Sl) (v2 v3 : Int) (v4 : AV) (v5 v6 : Int) (v7 : Bool) (H : Hp) : Fin prog f327 ret327 141 (todoAt (bodyOf f327) [1, 1, 0, 1, 0, 0, 1, 0, 0, 0, 0, 0, 0, 1] []) [(0, .sl v1), (1, .int .i64 v2), (2, .int .i64 v3), (3, v4), (9, .int .i64 v5), (10, .int .i64 v6), (36, .bool v7)] H (r327_j4 app kt0 kt1 v1 v2 v3 v4 v5 v6 v7 H) := by
  unfold r327_j4
  refine f_if (fun h1 => ?_) (fun h1 => ?_)
  · exact bT 36 h1 rfl (f_skip (f_block (f_region (m_ (.int .i64 v5) rfl (p_ rfl (s_add rfl rfl) (a_ (.int .i64 (w64 (v5 + 1))) rfl (f_nil (f_inBlock (f_inLoop (f_keep [0, 1, 2, 3, 9, 10] (hkt1 v1 v2 v3 v4 (w64 (v5 + 1)) v6 H)))))))))))
  · refine bF 36 h1 rfl (f_exit rfl (f_seq (q_ (m_ (.int .i64 v5) rfl (m_ (.int .i64 v3) rfl (p_ rfl (s_eql rfl rfl) (f_nil ?_)))))))
    refine f_if (fun h2 => ?_) (fun h2 => ?_)
    · exact kT 41 h2 rfl (q_ (a_ (.bool true) rfl (f_nil (f_ret (.tmp rfl (.nil)) rfl))))
    · refine kF 41 h2 rfl (f_skip (f_seq (q_ (m_ (.int .i64 v3) rfl (m_ (.int .i64 v2) rfl (p_ rfl (s_sub rfl rfl) (p_ rfl (s_lss rfl rfl) (f_nil ?_))))))))
      refine f_if (fun h3 => ?_) (fun h3 => ?_)
      · exact kT 45 h3 rfl (q_ (a_ (.bool false) rfl (f_nil (f_ret (.tmp rfl (.nil)) rfl))))
      · refine kF 45 h3 rfl (f_skip (f_seq (f_ck fun g4 => f_bind fun x5 hx5 => f_ck fun g6 => f_bind fun x7 hx7 => f_ck fun g8 => f_bind fun H9 hH9 => f_ck fun g10 => f_bind fun H11 hH11 => f_draw (Φ := fun _ => True) (lim := 1000000) [0, 0, 0, 0, 0, 0, 0, 0, 0, 1, 0, 0, 0, 1, 0, 2, 0, 2] (tm (.sl v1) rfl (tm (.int .i64 v5) rfl (tm (.sl v1) rfl (tm (.int .i64 v5) rfl (t_ rfl (fun _ => s_sub rfl rfl) (tm (.sl v1) rfl (tm (.int .i64 v5) rfl (t_ rfl (fun _ => s_sub rfl rfl) (t_ rfl (fun _ => s_idx underlying25 ty3 rfl rfl g4) (tr rfl (s_load underlying3 rfl rfl (ldI_eq hx5)) (tm (.sl v1) rfl (tm (.int .i64 v5) rfl (t_ rfl (fun _ => s_idx underlying25 ty3 rfl rfl g6) (tr rfl (s_load underlying3 rfl rfl (ldI_eq hx7)) (t_ rfl (fun _ => s_idx underlying25 ty3 rfl rfl g8) (Trc.eff rfl rfl rfl (fun _ => trivial) (s_store (s := 1) ty3 rfl rfl rfl hH9) (t_ rfl (fun _ => s_idx underlying25 ty3 rfl rfl g10) (Trc.eff rfl rfl rfl (fun _ => trivial) (s_store (s := 1) ty3 rfl rfl rfl hH11) (Trc.nil (fun _ => trivial)))))))))))))))))))) rfl (by decide +kernel) mixed (f_seq (q_ ?_)))))
        refine m_ (.int .i64 v5) rfl (m_ (.int .i64 v2) rfl (p_ rfl (s_sub rfl rfl) (p_ rfl (s_geq rfl rfl) (f_nil ?_))))
        refine f_if (fun h12 => ?_) (fun h12 => ?_)
        · exact kT 65 h12 rfl (q_ (m_ (.int .i64 v5) rfl (p_ rfl (s_sub rfl rfl) (a_ (.int .i64 (w64 (v5 - 1))) rfl (f_nil (f_block (f_loop (f_keep [0, 1, 2, 3, 9, 10, 11] (s327_l2 happ _ hkt0 FUEL v1 v2 v3 v4 v5 v6 (w64 (v5 - 1)) H11)))))))))
        · exact kF 65 h12 rfl (f_skip (f_keep [0, 1, 2, 3, 9, 10] (s327_j5 happ _ hkt0 v1 v2 v3 v4 v5 v6 H11)))

theorem s327_l1 {app : App} (happ : AppSim prog app) (kt0 : Sl → Int → Int → AV → Int → Int → Hp → Option (Bool × Hp)) (hkt0 : ∀ (v1 : Sl) (v2 v3 : Int) (v4 : AV) (v5 v6 : Int) (H : Hp), Fin prog f327 ret327 141 (todoAt (bodyOf f327) [1, 1, 0, 1, 0, 0] []) [(0, .sl v1), (1, .int .i64 v2), (2, .int .i64 v3), (3, v4), (9, .int .i64 v5), (10, .int .i64 v6)] H (kt0 v1 v2 v3 v4 v5 v6 H)) : ∀ (k_ : Nat) (v1 : Sl) (v2 v3 : Int) (v4 : AV) (v5 v6 : Int) (H : Hp), Fin prog f327 ret327 141 (todoAt (bodyOf f327) [1, 1, 0, 1, 0, 0, 1, 0, 0, 0, 0, 0] []) [(0, .sl v1), (1, .int .i64 v2), (2, .int .i64 v3), (3, v4), (9, .int .i64 v5), (10, .int .i64 v6)] H (r327_l1 app kt0 k_ v1 v2 v3 v4 v5 v6 H) := by
  intro k_
  induction k_ with
  | zero => intro _ _ _ _ _ _ _; exact f_none
  | succ k_ ih =>
    intro v1 v2 v3 v4 v5 v6 H
    rw [r327_l1]
    refine f_seq (f_seq ?_)
    refine f_if (fun h1 => ?_) (fun h1 => ?_)
    · exact f_ck fun g2 => f_bind fun x3 hx3 => f_ck fun g4 => f_bind fun x5 hx5 => f_bind fun p6 hp6 => f_bind fun x7 hx7 => f_draw (Φ := fun _ => True) (lim := 1000000) [0, 0, 0, 0, 0, 0, 0, 0, 1, 0, 0, 0, 0, 1, 2, 0, 0, 0] (tm (.int .i64 v5) rfl (tm (.int .i64 v3) rfl (t_ rfl (fun _ => s_lss rfl rfl) (tm (.bool (decide (v5 < v3))) rfl (Trc.know 22 rfl (dec_true h1) (tm v4 rfl (tm (.sl v1) rfl (tm (.int .i64 v5) rfl (t_ rfl (fun _ => s_idx underlying25 ty3 rfl rfl g2) (tr rfl (s_load underlying3 rfl rfl (ldI_eq hx3)) (tm (.sl v1) rfl (tm (.int .i64 v5) rfl (t_ rfl (fun _ => s_sub rfl rfl) (t_ rfl (fun _ => s_idx underlying25 ty3 rfl rfl g4) (tr rfl (s_load underlying3 rfl rfl (ldI_eq hx5)) (Trc.eff rfl rfl rfl (fun _ => trivial) (s_callv happ rfl rfl hp6) (Trc.know 33 rfl (asI_eq hx7) (t_ rfl (fun _ => s_lss rfl rfl) (t_ rfl (fun _ => s_not rfl) (t_ rfl (fun _ => s_pickT (v := .bool (!(decide (x7 < 0)))) rfl rfl) (Trc.nil (fun _ => trivial)))))))))))))))))))))) rfl (by decide +kernel) mixed (f_keep [0, 1, 2, 3, 9, 10, 36] (s327_j4 happ _ hkt0 _ ih v1 v2 v3 v4 v5 v6 (!(decide (x7 < 0))) p6.2))
    · exact f_draw (Φ := fun _ => True) (lim := 1000000) [0, 0, 0, 0, 0, 0, 0, 0, 0, 0, 0, 0, 0, 0, 0, 0, 0, 0] (tm (.int .i64 v5) rfl (tm (.int .i64 v3) rfl (t_ rfl (fun _ => s_lss rfl rfl) (tm (.bool (decide (v5 < v3))) rfl (Trc.know 22 rfl (dec_false h1) (Trc.no rfl rfl rfl (Trc.no rfl rfl rfl (Trc.no rfl rfl rfl (Trc.no rfl rfl rfl (Trc.no rfl rfl rfl (Trc.no rfl rfl rfl (Trc.no rfl rfl rfl (Trc.no rfl rfl rfl (Trc.no rfl rfl rfl (Trc.no rfl rfl rfl (Trc.no rfl rfl rfl (Trc.no rfl rfl rfl (Trc.no rfl rfl rfl (t_ rfl (fun _ => s_pickF (v := .bool false) rfl rfl) (Trc.nil (fun _ => trivial))))))))))))))))))))) rfl (by decide +kernel) mixed (f_keep [0, 1, 2, 3, 9, 10, 36] (s327_j4 happ _ hkt0 _ ih v1 v2 v3 v4 v5 v6 false H))

theorem s327_l0 {app : App} (happ : AppSim prog app) : ∀ (k_ : Nat) (v1 : Sl) (v2 v3 : Int) (v4 : AV) (v5 v6 : Int) (H : Hp), Fin prog f327 ret327 141 (todoAt (bodyOf f327) [1, 1, 0, 1, 0, 0] []) [(0, .sl v1), (1, .int .i64 v2), (2, .int .i64 v3), (3, v4), (9, .int .i64 v5), (10, .int .i64 v6)] H (r327_l0 app k_ v1 v2 v3 v4 v5 v6 H) := by
  intro k_
  induction k_ with
  | zero => intro _ _ _ _ _ _ _; exact f_none
  | succ k_ ih =>
    intro v1 v2 v3 v4 v5 v6 H
    rw [r327_l0]
    refine f_seq (q_ (m_ (.int .i64 v6) rfl (p_ rfl (s_lss rfl rfl) (f_nil ?_))))
    refine f_if (fun h1 => ?_) (fun h1 => ?_)
    · exact kT 16 h1 rfl (f_skip (f_seq (f_block (f_seq (f_block (f_loop (f_keep [0, 1, 2, 3, 9, 10] (s327_l1 happ _ ih FUEL v1 v2 v3 v4 v5 v6 H))))))))
    · exact kF 16 h1 rfl (f_exit rfl (q_ (a_ (.bool false) rfl (f_nil (f_ret (.tmp rfl (.nil)) rfl)))))

theorem sim327 {app : App} (happ : AppSim prog app) {a0 : Sl} {a1 : Int} {a2 : Int} {a3 : AV} {H : Hp} {p : Bool × Hp} (h : r327 app a0 a1 a2 a3 H = some p) : CallSim prog 327 [.sl a0, .int .i64 a1, .int .i64 a2, a3] H (.bool p.1) p.2 := by
  refine callSim (fn := f327) (ret := ret327) func327 rfl Tryz.ntmps327 rfl ?_ h
  unfold r327
  refine q_ (a_ (.bool false) rfl (n_ (m_ (.int .i64 a1) rfl (p_ rfl (s_add rfl rfl) (a_ (.int .i64 (w64 (a1 + 1))) rfl (f_nil (f_seq (q_ (a_ (.int .i64 0) rfl (f_nil (f_block ?_)))))))))))
  exact f_loop (f_keep [0, 1, 2, 3, 9, 10] (s327_l0 happ FUEL a0 a1 a2 a3 (w64 (a1 + 1)) 0 H))

/- 328 slices.partitionEqualCmpFunc[int] -/
theorem ok328 : FnOk prog 328 := ⟨⟨f328, func328, by kernel_rfl, rfl⟩⟩
theorem s328_j4 {app : App} (happ : AppSim prog app) (kt0 : Sl → Int → AV → Int → Int → Hp → Option (Int × Hp)) (hkt0 : ∀ (v1 : Sl) (v2 : Int) (v3 : AV) (v4 v5 : Int) (H : Hp), Fin prog f328 ret328 90 (todoAt (bodyOf f328) [1, 1, 1, 0, 0, 0] []) [(0, .sl v1), (1, .int .i64 v2), (4, v3), (11, .int .i64 v4), (12, .int .i64 v5)] H (kt0 v1 v2 v3 v4 v5 H)) (kt2 : Sl → Int → AV → Int → Int → Hp → Option (Int × Hp)) (hkt2 : ∀ (v1 : Sl) (v2 : Int) (v3 : AV) (v4 v5 : Int) (H : Hp), Fin prog f328 ret328 90 (todoAt (bodyOf f328) [1, 1, 1, 0, 0, 0, 0, 1, 0, 0, 0] []) [(0, .sl v1), (1, .int .i64 v2), (4, v3), (11, .int .i64 v4), (12, .int .i64 v5)] H (kt2 v1 v2 v3 v4 v5 H)) (v1 : Sl) (v2 : Int) (v3 : AV) (v4 v5 : Int) (v6 : Bool) (H : Hp) : Fin prog f328 ret328 90 (todoAt (bodyOf f328) [1, 1, 1, 0, 0, 0, 0, 1, 0, 0, 0, 0, 1] []) [(0, .sl v1), (1, .int .i64 v2), (4, v3), (11, .int .i64 v4), (12, .int .i64 v5), (65, .bool v6)] H (r328_j4 app kt0 kt2 v1 v2 v3 v4 v5 v6 H) := by
  unfold r328_j4
  refine f_if (fun h1 => ?_) (fun h1 => ?_)
  · exact bT 65 h1 rfl (f_skip (f_block (f_region (m_ (.int .i64 v5) rfl (p_ rfl (s_sub rfl rfl) (a_ (.int .i64 (w64 (v5 - 1))) rfl (f_nil (f_inBlock (f_inLoop (f_keep [0, 1, 4, 11, 12] (hkt2 v1 v2 v3 v4 (w64 (v5 - 1)) H)))))))))))
  · refine bF 65 h1 rfl (f_exit rfl (f_seq (q_ (m_ (.int .i64 v4) rfl (m_ (.int .i64 v5) rfl (p_ rfl (s_gtr rfl rfl) (f_nil ?_)))))))
    refine f_if (fun h2 => ?_) (fun h2 => ?_)
    · exact kT 70 h2 rfl (f_exit rfl (q_ (m_ (.int .i64 v4) rfl (a_ (.int .i64 v4) rfl (f_nil (f_ret (.tmp rfl (.nil)) rfl))))))
    · refine kF 70 h2 rfl (f_skip (f_seq (f_ck fun g3 => f_bind fun x4 hx4 => f_ck fun g5 => f_bind fun x6 hx6 => f_ck fun g7 => f_bind fun H8 hH8 => f_ck fun g9 => f_bind fun H10 hH10 => f_draw (Φ := fun _ => True) (lim := 1000000) [0, 0, 0, 0, 0, 0, 0, 1, 0, 0, 0, 1, 0, 2, 0, 2] (tm (.sl v1) rfl (tm (.int .i64 v4) rfl (tm (.sl v1) rfl (tm (.int .i64 v5) rfl (tm (.sl v1) rfl (tm (.int .i64 v5) rfl (t_ rfl (fun _ => s_idx underlying25 ty3 rfl rfl g3) (tr rfl (s_load underlying3 rfl rfl (ldI_eq hx4)) (tm (.sl v1) rfl (tm (.int .i64 v4) rfl (t_ rfl (fun _ => s_idx underlying25 ty3 rfl rfl g5) (tr rfl (s_load underlying3 rfl rfl (ldI_eq hx6)) (t_ rfl (fun _ => s_idx underlying25 ty3 rfl rfl g7) (Trc.eff rfl rfl rfl (fun _ => trivial) (s_store (s := 1) ty3 rfl rfl rfl hH8) (t_ rfl (fun _ => s_idx underlying25 ty3 rfl rfl g9) (Trc.eff rfl rfl rfl (fun _ => trivial) (s_store (s := 1) ty3 rfl rfl rfl hH10) (Trc.nil (fun _ => trivial)))))))))))))))))) rfl (by decide +kernel) mixed (q_ (m_ (.int .i64 v4) rfl ?_)))))
      exact p_ rfl (s_add rfl rfl) (a_ (.int .i64 (w64 (v4 + 1))) rfl (f_nil (f_region (m_ (.int .i64 v5) rfl (p_ rfl (s_sub rfl rfl) (a_ (.int .i64 (w64 (v5 - 1))) rfl (f_nil (f_inBlock (f_inLoop (f_keep [0, 1, 4, 11, 12] (hkt0 v1 v2 v3 (w64 (v4 + 1)) (w64 (v5 - 1)) H10)))))))))))

theorem s328_l2 {app : App} (happ : AppSim prog app) (kt0 : Sl → Int → AV → Int → Int → Hp → Option (Int × Hp)) (hkt0 : ∀ (v1 : Sl) (v2 : Int) (v3 : AV) (v4 v5 : Int) (H : Hp), Fin prog f328 ret328 90 (todoAt (bodyOf f328) [1, 1, 1, 0, 0, 0] []) [(0, .sl v1), (1, .int .i64 v2), (4, v3), (11, .int .i64 v4), (12, .int .i64 v5)] H (kt0 v1 v2 v3 v4 v5 H)) : ∀ (k_ : Nat) (v1 : Sl) (v2 : Int) (v3 : AV) (v4 v5 : Int) (H : Hp), Fin prog f328 ret328 90 (todoAt (bodyOf f328) [1, 1, 1, 0, 0, 0, 0, 1, 0, 0, 0] []) [(0, .sl v1), (1, .int .i64 v2), (4, v3), (11, .int .i64 v4), (12, .int .i64 v5)] H (r328_l2 app kt0 k_ v1 v2 v3 v4 v5 H) := by
  intro k_
  induction k_ with
  | zero => intro _ _ _ _ _ _; exact f_none
  | succ k_ ih =>
    intro v1 v2 v3 v4 v5 H
    rw [r328_l2]
    refine f_seq (f_seq ?_)
    refine f_if (fun h1 => ?_) (fun h1 => ?_)
    · exact f_ck fun g2 => f_bind fun x3 hx3 => f_ck fun g4 => f_bind fun x5 hx5 => f_bind fun p6 hp6 => f_bind fun x7 hx7 => f_draw (Φ := fun _ => True) (lim := 1000000) [0, 0, 0, 0, 0, 0, 0, 0, 1, 0, 0, 0, 1, 2, 0, 0] (tm (.int .i64 v4) rfl (tm (.int .i64 v5) rfl (t_ rfl (fun _ => s_leq rfl rfl) (tm (.bool (decide (v4 ≤ v5))) rfl (Trc.know 53 rfl (dec_true h1) (tm v3 rfl (tm (.sl v1) rfl (tm (.int .i64 v2) rfl (t_ rfl (fun _ => s_idx underlying25 ty3 rfl rfl g2) (tr rfl (s_load underlying3 rfl rfl (ldI_eq hx3)) (tm (.sl v1) rfl (tm (.int .i64 v5) rfl (t_ rfl (fun _ => s_idx underlying25 ty3 rfl rfl g4) (tr rfl (s_load underlying3 rfl rfl (ldI_eq hx5)) (Trc.eff rfl rfl rfl (fun _ => trivial) (s_callv happ rfl rfl hp6) (Trc.know 63 rfl (asI_eq hx7) (t_ rfl (fun _ => s_lss rfl rfl) (t_ rfl (fun _ => s_pickT (v := .bool (decide (x7 < 0))) rfl rfl) (Trc.nil (fun _ => trivial)))))))))))))))))))) rfl (by decide +kernel) mixed (f_keep [0, 1, 4, 11, 12, 65] (s328_j4 happ _ hkt0 _ ih v1 v2 v3 v4 v5 (decide (x7 < 0)) p6.2))
    · exact f_draw (Φ := fun _ => True) (lim := 1000000) [0, 0, 0, 0, 0, 0, 0, 0, 0, 0, 0, 0, 0, 0, 0, 0] (tm (.int .i64 v4) rfl (tm (.int .i64 v5) rfl (t_ rfl (fun _ => s_leq rfl rfl) (tm (.bool (decide (v4 ≤ v5))) rfl (Trc.know 53 rfl (dec_false h1) (Trc.no rfl rfl rfl (Trc.no rfl rfl rfl (Trc.no rfl rfl rfl (Trc.no rfl rfl rfl (Trc.no rfl rfl rfl (Trc.no rfl rfl rfl (Trc.no rfl rfl rfl (Trc.no rfl rfl rfl (Trc.no rfl rfl rfl (Trc.no rfl rfl rfl (Trc.no rfl rfl rfl (t_ rfl (fun _ => s_pickF (v := .bool false) rfl rfl) (Trc.nil (fun _ => trivial))))))))))))))))))) rfl (by decide +kernel) mixed (f_keep [0, 1, 4, 11, 12, 65] (s328_j4 happ _ hkt0 _ ih v1 v2 v3 v4 v5 false H))

theorem s328_j3 {app : App} (happ : AppSim prog app) (kt0 : Sl → Int → AV → Int → Int → Hp → Option (Int × Hp)) (hkt0 : ∀ (v1 : Sl) (v2 : Int) (v3 : AV) (v4 v5 : Int) (H : Hp), Fin prog f328 ret328 90 (todoAt (bodyOf f328) [1, 1, 1, 0, 0, 0] []) [(0, .sl v1), (1, .int .i64 v2), (4, v3), (11, .int .i64 v4), (12, .int .i64 v5)] H (kt0 v1 v2 v3 v4 v5 H)) (kt1 : Sl → Int → AV → Int → Int → Hp → Option (Int × Hp)) (hkt1 : ∀ (v1 : Sl) (v2 : Int) (v3 : AV) (v4 v5 : Int) (H : Hp), Fin prog f328 ret328 90 (todoAt (bodyOf f328) [1, 1, 1, 0, 0, 0, 0, 0, 0, 0] []) [(0, .sl v1), (1, .int .i64 v2), (4, v3), (11, .int .i64 v4), (12, .int .i64 v5)] H (kt1 v1 v2 v3 v4 v5 H)) (v1 : Sl) (v2 : Int) (v3 : AV) (v4 v5 : Int) (v6 : Bool) (H : Hp) : Fin prog f328 ret328 90 (todoAt (bodyOf f328) [1, 1, 1, 0, 0, 0, 0, 0, 0, 0, 0, 1] []) [(0, .sl v1), (1, .int .i64 v2), (4, v3), (11, .int .i64 v4), (12, .int .i64 v5), (47, .bool v6)] H (r328_j3 app kt0 kt1 v1 v2 v3 v4 v5 v6 H) := by
  unfold r328_j3
  refine f_if (fun h1 => ?_) (fun h1 => ?_)
  · exact bT 47 h1 rfl (f_skip (f_block (f_region (m_ (.int .i64 v4) rfl (p_ rfl (s_add rfl rfl) (a_ (.int .i64 (w64 (v4 + 1))) rfl (f_nil (f_inBlock (f_inLoop (f_keep [0, 1, 4, 11, 12] (hkt1 v1 v2 v3 (w64 (v4 + 1)) v5 H)))))))))))
  · exact bF 47 h1 rfl (f_exit rfl (f_seq (f_block (f_loop (f_keep [0, 1, 4, 11, 12] (s328_l2 happ _ hkt0 FUEL v1 v2 v3 v4 v5 H))))))

theorem s328_l1 {app : App} (happ : AppSim prog app) (kt0 : Sl → Int → AV → Int → Int → Hp → Option (Int × Hp)) (hkt0 : ∀ (v1 : Sl) (v2 : Int) (v3 : AV) (v4 v5 : Int) (H : Hp), Fin prog f328 ret328 90 (todoAt (bodyOf f328) [1, 1, 1, 0, 0, 0] []) [(0, .sl v1), (1, .int .i64 v2), (4, v3), (11, .int .i64 v4), (12, .int .i64 v5)] H (kt0 v1 v2 v3 v4 v5 H)) : ∀ (k_ : Nat) (v1 : Sl) (v2 : Int) (v3 : AV) (v4 v5 : Int) (H : Hp), Fin prog f328 ret328 90 (todoAt (bodyOf f328) [1, 1, 1, 0, 0, 0, 0, 0, 0, 0] []) [(0, .sl v1), (1, .int .i64 v2), (4, v3), (11, .int .i64 v4), (12, .int .i64 v5)] H (r328_l1 app kt0 k_ v1 v2 v3 v4 v5 H) := by
  intro k_
  induction k_ with
  | zero => intro _ _ _ _ _ _; exact f_none
  | succ k_ ih =>
    intro v1 v2 v3 v4 v5 H
    rw [r328_l1]
    refine f_seq (f_seq ?_)
    refine f_if (fun h1 => ?_) (fun h1 => ?_)
    · exact f_ck fun g2 => f_bind fun x3 hx3 => f_ck fun g4 => f_bind fun x5 hx5 => f_bind fun p6 hp6 => f_bind fun x7 hx7 => f_draw (Φ := fun _ => True) (lim := 1000000) [0, 0, 0, 0, 0, 0, 0, 0, 1, 0, 0, 0, 1, 2, 0, 0, 0] (tm (.int .i64 v4) rfl (tm (.int .i64 v5) rfl (t_ rfl (fun _ => s_leq rfl rfl) (tm (.bool (decide (v4 ≤ v5))) rfl (Trc.know 34 rfl (dec_true h1) (tm v3 rfl (tm (.sl v1) rfl (tm (.int .i64 v2) rfl (t_ rfl (fun _ => s_idx underlying25 ty3 rfl rfl g2) (tr rfl (s_load underlying3 rfl rfl (ldI_eq hx3)) (tm (.sl v1) rfl (tm (.int .i64 v4) rfl (t_ rfl (fun _ => s_idx underlying25 ty3 rfl rfl g4) (tr rfl (s_load underlying3 rfl rfl (ldI_eq hx5)) (Trc.eff rfl rfl rfl (fun _ => trivial) (s_callv happ rfl rfl hp6) (Trc.know 44 rfl (asI_eq hx7) (t_ rfl (fun _ => s_lss rfl rfl) (t_ rfl (fun _ => s_not rfl) (t_ rfl (fun _ => s_pickT (v := .bool (!(decide (x7 < 0)))) rfl rfl) (Trc.nil (fun _ => trivial))))))))))))))))))))) rfl (by decide +kernel) mixed (f_keep [0, 1, 4, 11, 12, 47] (s328_j3 happ _ hkt0 _ ih v1 v2 v3 v4 v5 (!(decide (x7 < 0))) p6.2))
    · exact f_draw (Φ := fun _ => True) (lim := 1000000) [0, 0, 0, 0, 0, 0, 0, 0, 0, 0, 0, 0, 0, 0, 0, 0, 0] (tm (.int .i64 v4) rfl (tm (.int .i64 v5) rfl (t_ rfl (fun _ => s_leq rfl rfl) (tm (.bool (decide (v4 ≤ v5))) rfl (Trc.know 34 rfl (dec_false h1) (Trc.no rfl rfl rfl (Trc.no rfl rfl rfl (Trc.no rfl rfl rfl (Trc.no rfl rfl rfl (Trc.no rfl rfl rfl (Trc.no rfl rfl rfl (Trc.no rfl rfl rfl (Trc.no rfl rfl rfl (Trc.no rfl rfl rfl (Trc.no rfl rfl rfl (Trc.no rfl rfl rfl (Trc.no rfl rfl rfl (t_ rfl (fun _ => s_pickF (v := .bool false) rfl rfl) (Trc.nil (fun _ => trivial)))))))))))))))))))) rfl (by decide +kernel) mixed (f_keep [0, 1, 4, 11, 12, 47] (s328_j3 happ _ hkt0 _ ih v1 v2 v3 v4 v5 false H))

theorem s328_l0 {app : App} (happ : AppSim prog app) : ∀ (k_ : Nat) (v1 : Sl) (v2 : Int) (v3 : AV) (v4 v5 : Int) (H : Hp), Fin prog f328 ret328 90 (todoAt (bodyOf f328) [1, 1, 1, 0, 0, 0] []) [(0, .sl v1), (1, .int .i64 v2), (4, v3), (11, .int .i64 v4), (12, .int .i64 v5)] H (r328_l0 app k_ v1 v2 v3 v4 v5 H) := by
  intro k_
  induction k_ with
  | zero => intro _ _ _ _ _ _; exact f_none
  | succ k_ ih =>
    intro v1 v2 v3 v4 v5 H
    rw [r328_l0]
    exact f_block (f_seq (f_block (f_loop (f_keep [0, 1, 4, 11, 12] (s328_l1 happ _ ih FUEL v1 v2 v3 v4 v5 H)))))

theorem sim328 {app : App} (happ : AppSim prog app) {a0 : Sl} {a1 : Int} {a2 : Int} {a3 : Int} {a4 : AV} {H : Hp} {p : Int × Hp} (h : r328 app a0 a1 a2 a3 a4 H = some p) : CallSim prog 328 [.sl a0, .int .i64 a1, .int .i64 a2, .int .i64 a3, a4] H (.int .i64 p.1) p.2 := by
  refine callSim (fn := f328) (ret := ret328) func328 rfl Tryz.ntmps328 rfl ?_ h
  unfold r328
  refine q_ (a_ (.int .i64 0) rfl (f_nil (f_seq (f_ck fun g1 => f_bind fun x2 hx2 => f_ck fun g3 => f_bind fun x4 hx4 => f_ck fun g5 => f_bind fun H6 hH6 => f_ck fun g7 => f_bind fun H8 hH8 => f_draw (Φ := fun _ => True) (lim := 1000000) [0, 0, 0, 0, 0, 0, 0, 1, 0, 0, 0, 1, 0, 2, 0, 2] (tm (.sl a0) rfl (tm (.int .i64 a1) rfl (tm (.sl a0) rfl (tm (.int .i64 a3) rfl (tm (.sl a0) rfl (tm (.int .i64 a3) rfl (t_ rfl (fun _ => s_idx underlying25 ty3 rfl rfl g1) (tr rfl (s_load underlying3 rfl rfl (ldI_eq hx2)) (tm (.sl a0) rfl (tm (.int .i64 a1) rfl (t_ rfl (fun _ => s_idx underlying25 ty3 rfl rfl g3) (tr rfl (s_load underlying3 rfl rfl (ldI_eq hx4)) (t_ rfl (fun _ => s_idx underlying25 ty3 rfl rfl g5) (Trc.eff rfl rfl rfl (fun _ => trivial) (s_store (s := 1) ty3 rfl rfl rfl hH6) (t_ rfl (fun _ => s_idx underlying25 ty3 rfl rfl g7) (Trc.eff rfl rfl rfl (fun _ => trivial) (s_store (s := 1) ty3 rfl rfl rfl hH8) (Trc.nil (fun _ => trivial)))))))))))))))))) rfl (by decide +kernel) mixed (q_ ?_)))))
  exact m_ (.int .i64 a1) rfl (p_ rfl (s_add rfl rfl) (m_ (.int .i64 a2) rfl (p_ rfl (s_sub rfl rfl) (a_ (.int .i64 (w64 (a1 + 1))) rfl (a_ (.int .i64 (w64 (a2 - 1))) rfl (f_nil (f_seq (f_block (f_loop (f_keep [0, 1, 4, 11, 12] (s328_l0 happ FUEL a0 a1 a4 (w64 (a1 + 1)) (w64 (a2 - 1)) H8)))))))))))

end Go.Lt.P10
