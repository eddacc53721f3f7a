/- PRINTED BY A PROGRAM OF OURS: what each function that 'TopGap' reaches computes on the abstract heap, and that the translated code does just that. Nothing is asked of the input. -/
import Derived.Test.YtopildlfbhfghaaGreatDoorG4P3
set_option linter.unusedVariables false
set_option linter.unusedSimpArgs false
set_option maxRecDepth 100000
set_option maxHeartbeats 4000000
namespace Go.Lt.P10
open Go Go.Lt Go.Proofs Go.Proofs.Tryz
/- 294 slices.AppendSeq[[]int,int] -/
theorem ok294 : FnOk prog 294 := ⟨⟨f294, func294, by kernel_rfl, rfl⟩⟩
theorem sim294 {app : App} (happ : AppSim prog app) {a0 : Sl} {a1 : AV} {H : Hp} {p : Sl × Hp} (h : r294 app a0 a1 H = some p) : CallSim prog 294 [.sl a0, a1] H (.sl p.1) p.2 := by
  refine callSim (fn := f294) (ret := ret294) func294 rfl Tryz.ntmps294 rfl ?_ h
  unfold r294
  refine q_ (p_ rfl (s_box1 (v := .sl a0) rfl rfl) (a_ (.sl ⟨true, 0, 0, 0, 0, 0⟩) rfl (o_hp fun H1 hH1 => f_nil (f_seq (q_ (m_ a1 rfl (f_nil (f_block (f_bind fun p2 hp2 => f_bind fun q3 hq3 => f_rangeX happ rfl rfl (lookup_restrict _ [2]) rfl hp2 hq3 ?_)))))))))
  refine f_if (fun h4 => ?_) (fun h4 => ?_)
  · exact f_jmp0 h4 (f_inBlock (q_ (o_bind fun x5 hx5 => p_ rfl (s_load underlying25 rfl rfl (ldSl_eq hx5)) (a_ (.sl x5) rfl (f_nil (f_ck fun g6 => f_retD (.tmp rfl (.nil)) rfl (dfrs_of g6)))))))
  · exact f_none

theorem sim294q1 {app : App} (happ : AppSim prog app) {l_ : Nat} {v1 : Nat} {y0 : Int} {H : Hp} : FinG prog PostR ⟨13, [], some l_⟩ [.code (siteTab 1).2.1, .beginRound, .code (siteTab 1).2.2] (zipF [7] [.int .i64 y0] [(2, .ptr v1 0)]) H (r294q1 app l_ v1 y0 H) := by
  show FinG prog PostR ⟨13, [], some l_⟩ (todoAt (bodyOf f294) [1, 0, 1, 0, 0] []) [(7, .int .i64 y0), (2, .ptr v1 0)] H _
  unfold r294q1
  refine f_region (a_ (.int .i64 y0) rfl (f_nil (f_bind fun H1 hH1 => f_beginX rfl hH1 (f_block (f_region (o_bind fun x2 hx2 => p_ rfl (s_load underlying25 rfl rfl (ldSl_eq hx2)) (m_ (.int .i64 y0) rfl (p_ rfl (s_buildSlice (cs := [.int .i64 y0]) underlying25 ty3 (by decide) (by decide) rfl (by decide) rfl) (o_bind fun x3 hx3 => p_ rfl (s_ap rfl rfl underlying25 underlying25 ty3 rfl rfl rfl rfl rfl rfl rfl hx3) (o_bind fun H4 hH4 => p_ rfl (s_store (s := 1) ty25 rfl rfl rfl hH4) (f_nil ?_)))))))))))
  exact f_inBlock (f_rend)

/- 231 slices.Collect[int] -/
theorem ok231 : FnOk prog 231 := ⟨⟨f231, func231, by kernel_rfl, rfl⟩⟩
theorem sim231 {app : App} (happ : AppSim prog app) {a0 : AV} {H : Hp} {p : Sl × Hp} (h : r231 app a0 H = some p) : CallSim prog 231 [a0] H (.sl p.1) p.2 := by
  refine callSim (fn := f231) (ret := ret231) func231 rfl Tryz.ntmps231 rfl ?_ h
  unfold r231
  exact q_ (a_ (.sl ⟨true, 0, 0, 0, 0, 0⟩) rfl (n_ (m_ a0 rfl (o_bind fun p1 hp1 => p_ rfl (s_callF rfl ok294 (sim294 happ hp1)) (a_ (.sl p1.1) rfl (f_nil (f_ret (.tmp rfl (.nil)) rfl)))))))

/- 322 slices.insertionSortCmpFunc[int] -/
theorem ok322 : FnOk prog 322 := ⟨⟨f322, func322, by kernel_rfl, rfl⟩⟩
theorem s322_j2 {app : App} (happ : AppSim prog app) (kt0 : Sl → Int → Int → AV → Int → Hp → Option (Unit × Hp)) (hkt0 : ∀ (v1 : Sl) (v2 v3 : Int) (v4 : AV) (v5 : Int) (H : Hp), Fin prog f322 ret322 53 (todoAt (bodyOf f322) [1, 0, 0] []) [(0, .sl v1), (1, .int .i64 v2), (2, .int .i64 v3), (3, v4), (8, .int .i64 v5)] H (kt0 v1 v2 v3 v4 v5 H)) (kt1 : Sl → Int → Int → AV → Int → Int → Hp → Option (Unit × Hp)) (hkt1 : ∀ (v1 : Sl) (v2 v3 : Int) (v4 : AV) (v5 v6 : Int) (H : Hp), Fin prog f322 ret322 53 (todoAt (bodyOf f322) [1, 0, 0, 1, 0, 0, 1, 0, 0] []) [(0, .sl v1), (1, .int .i64 v2), (2, .int .i64 v3), (3, v4), (8, .int .i64 v5), (9, .int .i64 v6)] H (kt1 v1 v2 v3 v4 v5 v6 H)) (v1 : Sl) (v2 v3 : Int) (v4 : AV) (v5 v6 : Int) (v7 : Bool) (H : Hp) : Fin prog f322 ret322 53 (todoAt (bodyOf f322) [1, 0, 0, 1, 0, 0, 1, 0, 0, 0, 1] []) [(0, .sl v1), (1, .int .i64 v2), (2, .int .i64 v3), (3, v4), (8, .int .i64 v5), (9, .int .i64 v6), (34, .bool v7)] H (r322_j2 app kt0 kt1 v1 v2 v3 v4 v5 v6 v7 H) := by
  unfold r322_j2
  refine f_if (fun h1 => ?_) (fun h1 => ?_)
  · refine bT 34 h1 rfl (f_skip (f_seq (f_block (f_ck fun g2 => f_bind fun x3 hx3 => f_ck fun g4 => f_bind fun x5 hx5 => f_ck fun g6 => f_bind fun H7 hH7 => f_ck fun g8 => f_bind fun H9 hH9 => f_draw (Φ := fun _ => True) (lim := 1000000) [0, 0, 0, 0, 0, 0, 0, 0, 0, 1, 0, 0, 0, 1, 0, 2, 0, 2] (tm (.sl v1) rfl (tm (.int .i64 v6) rfl (tm (.sl v1) rfl (tm (.int .i64 v6) rfl (t_ rfl (fun _ => s_sub rfl rfl) (tm (.sl v1) rfl (tm (.int .i64 v6) rfl (t_ rfl (fun _ => s_sub rfl rfl) (t_ rfl (fun _ => s_idx underlying25 ty3 rfl rfl g2) (tr rfl (s_load underlying3 rfl rfl (ldI_eq hx3)) (tm (.sl v1) rfl (tm (.int .i64 v6) rfl (t_ rfl (fun _ => s_idx underlying25 ty3 rfl rfl g4) (tr rfl (s_load underlying3 rfl rfl (ldI_eq hx5)) (t_ rfl (fun _ => s_idx underlying25 ty3 rfl rfl g6) (Trc.eff rfl rfl rfl (fun _ => trivial) (s_store (s := 1) ty3 rfl rfl rfl hH7) (t_ rfl (fun _ => s_idx underlying25 ty3 rfl rfl g8) (Trc.eff rfl rfl rfl (fun _ => trivial) (s_store (s := 1) ty3 rfl rfl rfl hH9) (Trc.nil (fun _ => trivial)))))))))))))))))))) rfl (by decide +kernel) mixed (f_inBlock (f_region ?_))))))
    exact m_ (.int .i64 v6) rfl (p_ rfl (s_sub rfl rfl) (a_ (.int .i64 (w64 (v6 - 1))) rfl (f_nil (f_inLoop (f_keep [0, 1, 2, 3, 8, 9] (hkt1 v1 v2 v3 v4 v5 (w64 (v6 - 1)) H9))))))
  · exact bF 34 h1 rfl (f_exit rfl (f_inBlock (f_region (m_ (.int .i64 v5) rfl (p_ rfl (s_add rfl rfl) (a_ (.int .i64 (w64 (v5 + 1))) rfl (f_nil (f_inLoop (f_keep [0, 1, 2, 3, 8] (hkt0 v1 v2 v3 v4 (w64 (v5 + 1)) H))))))))))

theorem s322_l1 {app : App} (happ : AppSim prog app) (kt0 : Sl → Int → Int → AV → Int → Hp → Option (Unit × Hp)) (hkt0 : ∀ (v1 : Sl) (v2 v3 : Int) (v4 : AV) (v5 : Int) (H : Hp), Fin prog f322 ret322 53 (todoAt (bodyOf f322) [1, 0, 0] []) [(0, .sl v1), (1, .int .i64 v2), (2, .int .i64 v3), (3, v4), (8, .int .i64 v5)] H (kt0 v1 v2 v3 v4 v5 H)) : ∀ (k_ : Nat) (v1 : Sl) (v2 v3 : Int) (v4 : AV) (v5 v6 : Int) (H : Hp), Fin prog f322 ret322 53 (todoAt (bodyOf f322) [1, 0, 0, 1, 0, 0, 1, 0, 0] []) [(0, .sl v1), (1, .int .i64 v2), (2, .int .i64 v3), (3, v4), (8, .int .i64 v5), (9, .int .i64 v6)] H (r322_l1 app kt0 k_ v1 v2 v3 v4 v5 v6 H) := by
  intro k_
  induction k_ with
  | zero => intro _ _ _ _ _ _ _; exact f_none
  | succ k_ ih =>
    intro v1 v2 v3 v4 v5 v6 H
    rw [r322_l1]
    refine f_seq (f_seq ?_)
    refine f_if (fun h1 => ?_) (fun h1 => ?_)
    · exact f_ck fun g2 => f_bind fun x3 hx3 => f_ck fun g4 => f_bind fun x5 hx5 => f_bind fun p6 hp6 => f_bind fun x7 hx7 => f_draw (Φ := fun _ => True) (lim := 1000000) [0, 0, 0, 0, 0, 0, 0, 0, 1, 0, 0, 0, 0, 1, 2, 0, 0] (tm (.int .i64 v6) rfl (tm (.int .i64 v2) rfl (t_ rfl (fun _ => s_gtr rfl rfl) (tm (.bool (decide (v2 < v6))) rfl (Trc.know 21 rfl (dec_true h1) (tm v4 rfl (tm (.sl v1) rfl (tm (.int .i64 v6) rfl (t_ rfl (fun _ => s_idx underlying25 ty3 rfl rfl g2) (tr rfl (s_load underlying3 rfl rfl (ldI_eq hx3)) (tm (.sl v1) rfl (tm (.int .i64 v6) rfl (t_ rfl (fun _ => s_sub rfl rfl) (t_ rfl (fun _ => s_idx underlying25 ty3 rfl rfl g4) (tr rfl (s_load underlying3 rfl rfl (ldI_eq hx5)) (Trc.eff rfl rfl rfl (fun _ => trivial) (s_callv happ rfl rfl hp6) (Trc.know 32 rfl (asI_eq hx7) (t_ rfl (fun _ => s_lss rfl rfl) (t_ rfl (fun _ => s_pickT (v := .bool (decide (x7 < 0))) rfl rfl) (Trc.nil (fun _ => trivial))))))))))))))))))))) rfl (by decide +kernel) mixed (f_keep [0, 1, 2, 3, 8, 9, 34] (s322_j2 happ _ hkt0 _ ih v1 v2 v3 v4 v5 v6 (decide (x7 < 0)) p6.2))
    · exact f_draw (Φ := fun _ => True) (lim := 1000000) [0, 0, 0, 0, 0, 0, 0, 0, 0, 0, 0, 0, 0, 0, 0, 0, 0] (tm (.int .i64 v6) rfl (tm (.int .i64 v2) rfl (t_ rfl (fun _ => s_gtr rfl rfl) (tm (.bool (decide (v2 < v6))) rfl (Trc.know 21 rfl (dec_false h1) (Trc.no rfl rfl rfl (Trc.no rfl rfl rfl (Trc.no rfl rfl rfl (Trc.no rfl rfl rfl (Trc.no rfl rfl rfl (Trc.no rfl rfl rfl (Trc.no rfl rfl rfl (Trc.no rfl rfl rfl (Trc.no rfl rfl rfl (Trc.no rfl rfl rfl (Trc.no rfl rfl rfl (Trc.no rfl rfl rfl (t_ rfl (fun _ => s_pickF (v := .bool false) rfl rfl) (Trc.nil (fun _ => trivial)))))))))))))))))))) rfl (by decide +kernel) mixed (f_keep [0, 1, 2, 3, 8, 9, 34] (s322_j2 happ _ hkt0 _ ih v1 v2 v3 v4 v5 v6 false H))

theorem s322_l0 {app : App} (happ : AppSim prog app) : ∀ (k_ : Nat) (v1 : Sl) (v2 v3 : Int) (v4 : AV) (v5 : Int) (H : Hp), Fin prog f322 ret322 53 (todoAt (bodyOf f322) [1, 0, 0] []) [(0, .sl v1), (1, .int .i64 v2), (2, .int .i64 v3), (3, v4), (8, .int .i64 v5)] H (r322_l0 app k_ v1 v2 v3 v4 v5 H) := by
  intro k_
  induction k_ with
  | zero => intro _ _ _ _ _ _; exact f_none
  | succ k_ ih =>
    intro v1 v2 v3 v4 v5 H
    rw [r322_l0]
    refine f_seq (q_ (m_ (.int .i64 v5) rfl (m_ (.int .i64 v3) rfl (p_ rfl (s_lss rfl rfl) (f_nil ?_)))))
    refine f_if (fun h1 => ?_) (fun h1 => ?_)
    · exact kT 14 h1 rfl (f_skip (f_seq (f_block (q_ (m_ (.int .i64 v5) rfl (a_ (.int .i64 v5) rfl (f_nil (f_block (f_loop (f_keep [0, 1, 2, 3, 8, 9] (s322_l1 happ _ ih FUEL v1 v2 v3 v4 v5 v5 H)))))))))))
    · exact kF 14 h1 rfl (f_exit rfl (f_end (.nil) rfl))

theorem sim322 {app : App} (happ : AppSim prog app) {a0 : Sl} {a1 : Int} {a2 : Int} {a3 : AV} {H : Hp} {p : Unit × Hp} (h : r322 app a0 a1 a2 a3 H = some p) : CallSim prog 322 [.sl a0, .int .i64 a1, .int .i64 a2, a3] H (.tup []) p.2 := by
  refine callSim (fn := f322) (ret := ret322) func322 rfl Tryz.ntmps322 rfl ?_ h
  unfold r322
  exact q_ (m_ (.int .i64 a1) rfl (p_ rfl (s_add rfl rfl) (a_ (.int .i64 (w64 (a1 + 1))) rfl (f_nil (f_block (f_loop (f_keep [0, 1, 2, 3, 8] (s322_l0 happ FUEL a0 a1 a2 a3 (w64 (a1 + 1)) H))))))))

/- 349 slices.siftDownCmpFunc[int] -/
theorem ok349 : FnOk prog 349 := ⟨⟨f349, func349, by kernel_rfl, rfl⟩⟩
theorem s349_j1 {app : App} (happ : AppSim prog app) (kt0 : Sl → Int → Int → AV → Int → Hp → Option (Unit × Hp)) (hkt0 : ∀ (v1 : Sl) (v2 v3 : Int) (v4 : AV) (v5 : Int) (H : Hp), Fin prog f349 ret349 82 (todoAt (bodyOf f349) [1, 0, 0] []) [(0, .sl v1), (2, .int .i64 v2), (3, .int .i64 v3), (4, v4), (10, .int .i64 v5)] H (kt0 v1 v2 v3 v4 v5 H)) (v1 : Sl) (v2 v3 : Int) (v4 : AV) (v5 v6 : Int) (H : Hp) : Fin prog f349 ret349 82 (todoAt (bodyOf f349) [1, 0, 0, 0, 1, 1, 1] []) [(0, .sl v1), (2, .int .i64 v2), (3, .int .i64 v3), (4, v4), (10, .int .i64 v5), (11, .int .i64 v6)] H (r349_j1 app kt0 v1 v2 v3 v4 v5 v6 H) := by
  unfold r349_j1
  refine f_seq (f_seq (f_ck fun g1 => f_bind fun x2 hx2 => f_ck fun g3 => f_bind fun x4 hx4 => f_bind fun p5 hp5 => f_bind fun x6 hx6 => f_draw (Φ := fun _ => True) (lim := 1000000) [0, 0, 0, 0, 0, 0, 1, 0, 0, 0, 0, 0, 1, 2, 0, 0] (tm v4 rfl (tm (.sl v1) rfl (tm (.int .i64 v3) rfl (tm (.int .i64 v5) rfl (t_ rfl (fun _ => s_add rfl rfl) (t_ rfl (fun _ => s_idx underlying25 ty3 rfl rfl g1) (tr rfl (s_load underlying3 rfl rfl (ldI_eq hx2)) (tm (.sl v1) rfl (tm (.int .i64 v3) rfl (tm (.int .i64 v6) rfl (t_ rfl (fun _ => s_add rfl rfl) (t_ rfl (fun _ => s_idx underlying25 ty3 rfl rfl g3) (tr rfl (s_load underlying3 rfl rfl (ldI_eq hx4)) (Trc.eff rfl rfl rfl (fun _ => trivial) (s_callv happ rfl rfl hp5) (Trc.know 56 rfl (asI_eq hx6) (t_ rfl (fun _ => s_lss rfl rfl) (t_ rfl (fun _ => s_not rfl) (Trc.nil (fun _ => trivial))))))))))))))))))) rfl (by decide +kernel) mixed ?_))
  refine f_if (fun h7 => ?_) (fun h7 => ?_)
  · refine f_know 58 rfl (dec_notT h7) (f_condF rfl (f_skip (f_seq (f_ck fun g8 => f_bind fun x9 hx9 => f_ck fun g10 => f_bind fun x11 hx11 => f_ck fun g12 => f_bind fun H13 hH13 => f_ck fun g14 => f_bind fun H15 hH15 => f_draw (Φ := fun _ => True) (lim := 1000000) [0, 0, 0, 0, 0, 0, 0, 0, 0, 0, 0, 0, 0, 1, 0, 0, 0, 0, 0, 1, 0, 2, 0, 2] (tm (.sl v1) rfl (tm (.int .i64 v3) rfl (tm (.int .i64 v5) rfl (t_ rfl (fun _ => s_add rfl rfl) (tm (.sl v1) rfl (tm (.int .i64 v3) rfl (tm (.int .i64 v6) rfl (t_ rfl (fun _ => s_add rfl rfl) (tm (.sl v1) rfl (tm (.int .i64 v3) rfl (tm (.int .i64 v6) rfl (t_ rfl (fun _ => s_add rfl rfl) (t_ rfl (fun _ => s_idx underlying25 ty3 rfl rfl g8) (tr rfl (s_load underlying3 rfl rfl (ldI_eq hx9)) (tm (.sl v1) rfl (tm (.int .i64 v3) rfl (tm (.int .i64 v5) rfl (t_ rfl (fun _ => s_add rfl rfl) (t_ rfl (fun _ => s_idx underlying25 ty3 rfl rfl g10) (tr rfl (s_load underlying3 rfl rfl (ldI_eq hx11)) (t_ rfl (fun _ => s_idx underlying25 ty3 rfl rfl g12) (Trc.eff rfl rfl rfl (fun _ => trivial) (s_store (s := 1) ty3 rfl rfl rfl hH13) (t_ rfl (fun _ => s_idx underlying25 ty3 rfl rfl g14) (Trc.eff rfl rfl rfl (fun _ => trivial) (s_store (s := 1) ty3 rfl rfl rfl hH15) (Trc.nil (fun _ => trivial)))))))))))))))))))))))))) rfl (by decide +kernel) mixed (f_region (m_ (.int .i64 v6) rfl (a_ (.int .i64 v6) rfl ?_)))))))
    exact f_nil (f_inBlock (f_inLoop (f_keep [0, 2, 3, 4, 10] (hkt0 v1 v2 v3 v4 v6 H15))))
  · exact f_know 58 rfl (dec_notF h7) (f_condT rfl (f_ret (.nil) rfl))

theorem s349_j2 {app : App} (happ : AppSim prog app) (kt0 : Sl → Int → Int → AV → Int → Hp → Option (Unit × Hp)) (hkt0 : ∀ (v1 : Sl) (v2 v3 : Int) (v4 : AV) (v5 : Int) (H : Hp), Fin prog f349 ret349 82 (todoAt (bodyOf f349) [1, 0, 0] []) [(0, .sl v1), (2, .int .i64 v2), (3, .int .i64 v3), (4, v4), (10, .int .i64 v5)] H (kt0 v1 v2 v3 v4 v5 H)) (v1 : Sl) (v2 v3 : Int) (v4 : AV) (v5 v6 : Int) (v7 : Bool) (H : Hp) : Fin prog f349 ret349 82 (todoAt (bodyOf f349) [1, 0, 0, 0, 1, 1, 0, 1] []) [(0, .sl v1), (2, .int .i64 v2), (3, .int .i64 v3), (4, v4), (10, .int .i64 v5), (11, .int .i64 v6), (40, .bool v7)] H (r349_j2 app kt0 v1 v2 v3 v4 v5 v6 v7 H) := by
  unfold r349_j2
  refine f_if (fun h1 => ?_) (fun h1 => ?_)
  · exact bT 40 h1 rfl (f_region (m_ (.int .i64 v6) rfl (p_ rfl (s_add rfl rfl) (a_ (.int .i64 (w64 (v6 + 1))) rfl (f_nil (f_keep [0, 2, 3, 4, 10, 11] (s349_j1 happ _ hkt0 v1 v2 v3 v4 v5 (w64 (v6 + 1)) H)))))))
  · exact bF 40 h1 rfl (f_skip (f_keep [0, 2, 3, 4, 10, 11] (s349_j1 happ _ hkt0 v1 v2 v3 v4 v5 v6 H)))

theorem s349_l0 {app : App} (happ : AppSim prog app) : ∀ (k_ : Nat) (v1 : Sl) (v2 v3 : Int) (v4 : AV) (v5 : Int) (H : Hp), Fin prog f349 ret349 82 (todoAt (bodyOf f349) [1, 0, 0] []) [(0, .sl v1), (2, .int .i64 v2), (3, .int .i64 v3), (4, v4), (10, .int .i64 v5)] H (r349_l0 app k_ v1 v2 v3 v4 v5 H) := by
  intro k_
  induction k_ with
  | zero => intro _ _ _ _ _ _; exact f_none
  | succ k_ ih =>
    intro v1 v2 v3 v4 v5 H
    rw [r349_l0]
    refine f_block (q_ (m_ (.int .i64 v5) rfl (p_ rfl (s_mul rfl rfl) (p_ rfl (s_add rfl rfl) (a_ (.int .i64 (w64 ((w64 (2 * v5)) + 1))) rfl (f_nil (f_seq (q_ (m_ (.int .i64 (w64 ((w64 (2 * v5)) + 1))) rfl (m_ (.int .i64 v2) rfl (p_ rfl (s_geq rfl rfl) (f_nil ?_))))))))))))
    refine f_if (fun h1 => ?_) (fun h1 => ?_)
    · exact kT 18 h1 rfl (f_exit rfl (f_end (.nil) rfl))
    · refine kF 18 h1 rfl (f_skip (f_seq (f_seq ?_)))
      refine f_if (fun h2 => ?_) (fun h2 => ?_)
      · exact f_ck fun g3 => f_bind fun x4 hx4 => f_ck fun g5 => f_bind fun x6 hx6 => f_bind fun p7 hp7 => f_bind fun x8 hx8 => f_draw (Φ := fun _ => True) (lim := 1000000) [0, 0, 0, 0, 0, 0, 0, 0, 0, 0, 0, 1, 0, 0, 0, 0, 0, 0, 1, 2, 0, 0] (tm (.int .i64 (w64 ((w64 (2 * v5)) + 1))) rfl (t_ rfl (fun _ => s_add rfl rfl) (tm (.int .i64 v2) rfl (t_ rfl (fun _ => s_lss rfl rfl) (tm (.bool (decide ((w64 ((w64 ((w64 (2 * v5)) + 1)) + 1)) < v2))) rfl (Trc.know 23 rfl (dec_true h2) (tm v4 rfl (tm (.sl v1) rfl (tm (.int .i64 v3) rfl (tm (.int .i64 (w64 ((w64 (2 * v5)) + 1))) rfl (t_ rfl (fun _ => s_add rfl rfl) (t_ rfl (fun _ => s_idx underlying25 ty3 rfl rfl g3) (tr rfl (s_load underlying3 rfl rfl (ldI_eq hx4)) (tm (.sl v1) rfl (tm (.int .i64 v3) rfl (tm (.int .i64 (w64 ((w64 (2 * v5)) + 1))) rfl (t_ rfl (fun _ => s_add rfl rfl) (t_ rfl (fun _ => s_add rfl rfl) (t_ rfl (fun _ => s_idx underlying25 ty3 rfl rfl g5) (tr rfl (s_load underlying3 rfl rfl (ldI_eq hx6)) (Trc.eff rfl rfl rfl (fun _ => trivial) (s_callv happ rfl rfl hp7) (Trc.know 38 rfl (asI_eq hx8) (t_ rfl (fun _ => s_lss rfl rfl) (t_ rfl (fun _ => s_pickT (v := .bool (decide (x8 < 0))) rfl rfl) (Trc.nil (fun _ => trivial)))))))))))))))))))))))))) rfl (by decide +kernel) mixed (f_keep [0, 2, 3, 4, 10, 11, 40] (s349_j2 happ _ ih v1 v2 v3 v4 v5 (w64 ((w64 (2 * v5)) + 1)) (decide (x8 < 0)) p7.2))
      · exact f_draw (Φ := fun _ => True) (lim := 1000000) [0, 0, 0, 0, 0, 0, 0, 0, 0, 0, 0, 0, 0, 0, 0, 0, 0, 0, 0, 0, 0, 0] (tm (.int .i64 (w64 ((w64 (2 * v5)) + 1))) rfl (t_ rfl (fun _ => s_add rfl rfl) (tm (.int .i64 v2) rfl (t_ rfl (fun _ => s_lss rfl rfl) (tm (.bool (decide ((w64 ((w64 ((w64 (2 * v5)) + 1)) + 1)) < v2))) rfl (Trc.know 23 rfl (dec_false h2) (Trc.no rfl rfl rfl (Trc.no rfl rfl rfl (Trc.no rfl rfl rfl (Trc.no rfl rfl rfl (Trc.no rfl rfl rfl (Trc.no rfl rfl rfl (Trc.no rfl rfl rfl (Trc.no rfl rfl rfl (Trc.no rfl rfl rfl (Trc.no rfl rfl rfl (Trc.no rfl rfl rfl (Trc.no rfl rfl rfl (Trc.no rfl rfl rfl (Trc.no rfl rfl rfl (Trc.no rfl rfl rfl (Trc.no rfl rfl rfl (t_ rfl (fun _ => s_pickF (v := .bool false) rfl rfl) (Trc.nil (fun _ => trivial))))))))))))))))))))))))) rfl (by decide +kernel) mixed (f_keep [0, 2, 3, 4, 10, 11, 40] (s349_j2 happ _ ih v1 v2 v3 v4 v5 (w64 ((w64 (2 * v5)) + 1)) false H))

theorem sim349 {app : App} (happ : AppSim prog app) {a0 : Sl} {a1 : Int} {a2 : Int} {a3 : Int} {a4 : AV} {H : Hp} {p : Unit × Hp} (h : r349 app a0 a1 a2 a3 a4 H = some p) : CallSim prog 349 [.sl a0, .int .i64 a1, .int .i64 a2, .int .i64 a3, a4] H (.tup []) p.2 := by
  refine callSim (fn := f349) (ret := ret349) func349 rfl Tryz.ntmps349 rfl ?_ h
  unfold r349
  exact q_ (m_ (.int .i64 a1) rfl (a_ (.int .i64 a1) rfl (f_nil (f_block (f_loop (f_keep [0, 2, 3, 4, 10] (s349_l0 happ FUEL a0 a2 a3 a4 a1 H)))))))

/- 323 slices.heapSortCmpFunc[int] -/
theorem ok323 : FnOk prog 323 := ⟨⟨f323, func323, by kernel_rfl, rfl⟩⟩
theorem s323_l1 {app : App} (happ : AppSim prog app) : ∀ (k_ : Nat) (v1 : Sl) (v2 : AV) (v3 v4 v5 : Int) (H : Hp), Fin prog f323 ret323 60 (todoAt (bodyOf f323) [1, 1, 1, 1, 1, 0, 0] []) [(0, .sl v1), (3, v2), (8, .int .i64 v3), (9, .int .i64 v4), (12, .int .i64 v5)] H (r323_l1 app k_ v1 v2 v3 v4 v5 H) := by
  intro k_
  induction k_ with
  | zero => intro _ _ _ _ _ _; exact f_none
  | succ k_ ih =>
    intro v1 v2 v3 v4 v5 H
    rw [r323_l1]
    refine f_seq (q_ (m_ (.int .i64 v5) rfl (p_ rfl (s_geq rfl rfl) (f_nil ?_))))
    refine f_if (fun h1 => ?_) (fun h1 => ?_)
    · refine kT 33 h1 rfl (f_skip (f_seq (f_block (f_seq (f_ck fun g2 => f_bind fun x3 hx3 => f_ck fun g4 => f_bind fun x5 hx5 => f_ck fun g6 => f_bind fun H7 hH7 => f_ck fun g8 => f_bind fun H9 hH9 => f_draw (Φ := fun _ => True) (lim := 1000000) [0, 0, 0, 0, 0, 0, 0, 0, 0, 0, 0, 1, 0, 0, 0, 1, 0, 2, 0, 2] (tm (.sl v1) rfl (tm (.int .i64 v3) rfl (tm (.sl v1) rfl (tm (.int .i64 v3) rfl (tm (.int .i64 v5) rfl (t_ rfl (fun _ => s_add rfl rfl) (tm (.sl v1) rfl (tm (.int .i64 v3) rfl (tm (.int .i64 v5) rfl (t_ rfl (fun _ => s_add rfl rfl) (t_ rfl (fun _ => s_idx underlying25 ty3 rfl rfl g2) (tr rfl (s_load underlying3 rfl rfl (ldI_eq hx3)) (tm (.sl v1) rfl (tm (.int .i64 v3) rfl (t_ rfl (fun _ => s_idx underlying25 ty3 rfl rfl g4) (tr rfl (s_load underlying3 rfl rfl (ldI_eq hx5)) (t_ rfl (fun _ => s_idx underlying25 ty3 rfl rfl g6) (Trc.eff rfl rfl rfl (fun _ => trivial) (s_store (s := 1) ty3 rfl rfl rfl hH7) (t_ rfl (fun _ => s_idx underlying25 ty3 rfl rfl g8) (Trc.eff rfl rfl rfl (fun _ => trivial) (s_store (s := 1) ty3 rfl rfl rfl hH9) (Trc.nil (fun _ => trivial)))))))))))))))))))))) rfl (by decide +kernel) mixed (f_region ?_))))))
      refine m_ (.sl v1) rfl (m_ (.int .i64 v4) rfl (m_ (.int .i64 v5) rfl (m_ (.int .i64 v3) rfl (m_ v2 rfl (o_bind fun p10 hp10 => p_ rfl (s_callF rfl ok349 (sim349 happ hp10)) (f_nil (f_inBlock (f_region (m_ (.int .i64 v5) rfl (p_ rfl (s_sub rfl rfl) (a_ (.int .i64 (w64 (v5 - 1))) rfl (f_nil (f_inLoop (f_keep [0, 3, 8, 9, 12] ?_))))))))))))))
      exact ih v1 v2 v3 v4 (w64 (v5 - 1)) p10.2
    · exact kF 33 h1 rfl (f_exit rfl (f_end (.nil) rfl))

theorem s323_l0 {app : App} (happ : AppSim prog app) : ∀ (k_ : Nat) (v1 : Sl) (v2 : AV) (v3 v4 v5 v6 : Int) (H : Hp), Fin prog f323 ret323 60 (todoAt (bodyOf f323) [1, 1, 1, 0, 1, 0, 0] []) [(0, .sl v1), (3, v2), (8, .int .i64 v3), (9, .int .i64 v4), (10, .int .i64 v5), (11, .int .i64 v6)] H (r323_l0 app k_ v1 v2 v3 v4 v5 v6 H) := by
  intro k_
  induction k_ with
  | zero => intro _ _ _ _ _ _ _; exact f_none
  | succ k_ ih =>
    intro v1 v2 v3 v4 v5 v6 H
    rw [r323_l0]
    refine f_seq (q_ (m_ (.int .i64 v6) rfl (p_ rfl (s_geq rfl rfl) (f_nil ?_))))
    refine f_if (fun h1 => ?_) (fun h1 => ?_)
    · refine kT 21 h1 rfl (f_skip (f_seq (f_block (f_region (m_ (.sl v1) rfl (m_ (.int .i64 v6) rfl (m_ (.int .i64 v5) rfl (m_ (.int .i64 v3) rfl (m_ v2 rfl (o_bind fun p2 hp2 => p_ rfl (s_callF rfl ok349 (sim349 happ hp2)) (f_nil (f_inBlock (f_region ?_)))))))))))))
      exact m_ (.int .i64 v6) rfl (p_ rfl (s_sub rfl rfl) (a_ (.int .i64 (w64 (v6 - 1))) rfl (f_nil (f_inLoop (f_keep [0, 3, 8, 9, 10, 11] (ih v1 v2 v3 v4 v5 (w64 (v6 - 1)) p2.2))))))
    · exact kF 21 h1 rfl (f_exit rfl (q_ (m_ (.int .i64 v5) rfl (p_ rfl (s_sub rfl rfl) (a_ (.int .i64 (w64 (v5 - 1))) rfl (f_nil (f_block (f_loop (f_keep [0, 3, 8, 9, 12] (s323_l1 happ FUEL v1 v2 v3 v4 (w64 (v5 - 1)) H))))))))))

theorem sim323 {app : App} (happ : AppSim prog app) {a0 : Sl} {a1 : Int} {a2 : Int} {a3 : AV} {H : Hp} {p : Unit × Hp} (h : r323 app a0 a1 a2 a3 H = some p) : CallSim prog 323 [.sl a0, .int .i64 a1, .int .i64 a2, a3] H (.tup []) p.2 := by
  refine callSim (fn := f323) (ret := ret323) func323 rfl Tryz.ntmps323 rfl ?_ h
  unfold r323
  refine q_ (m_ (.int .i64 a1) rfl (a_ (.int .i64 a1) rfl (n_ (a_ (.int .i64 0) rfl (n_ (m_ (.int .i64 a2) rfl (m_ (.int .i64 a1) rfl (p_ rfl (s_sub rfl rfl) (a_ (.int .i64 (w64 (a2 - a1))) rfl (f_nil ?_))))))))))
  exact f_seq (q_ (m_ (.int .i64 (w64 (a2 - a1))) rfl (p_ rfl (s_sub rfl rfl) (p_ rfl (s_quo rfl rfl (by decide)) (a_ (.int .i64 (w64 (Int.tdiv (w64 ((w64 (a2 - a1)) - 1)) 2))) rfl (f_nil (f_block (f_loop (f_keep [0, 3, 8, 9, 10, 11] (s323_l0 happ FUEL a0 a3 a1 0 (w64 (a2 - a1)) (w64 (Int.tdiv (w64 ((w64 (a2 - a1)) - 1)) 2)) H))))))))))

/- 239 math/bits.Len64 -/
theorem ok239 : FnOk prog 239 := ⟨⟨f239, func239, by kernel_rfl, rfl⟩⟩
theorem s239_j0 (v1 v2 : Int) (H : Hp) : Fin prog f239 ret239 25 (todoAt (bodyOf f239) [1, 1, 1, 1] []) [(0, .int .u64 v1), (2, .int .i64 v2)] H (r239_j0 v1 v2 H) := by
  unfold r239_j0
  exact q_ (m_ (.int .i64 v2) rfl (m_ (.int .u64 v1) rfl (p_ rfl (s_convInt underlying245 underlying5 rfl) (o_ck fun g1 => p_ rfl (s_indexStr underlying9 rfl rfl g1) (p_ rfl (s_convInt underlying5 underlying3 rfl) (p_ rfl (s_add rfl rfl) (a_ (.int .i64 (w64 (v2 + (w64 (bt (strC f239 [1, 1, 1, 1, 0] 3 0) (IntKind.wrap .u8 (v1))))))) rfl (f_nil (f_ret (.tmp rfl (.nil)) rfl)))))))))

theorem s239_j1 (v1 v2 : Int) (H : Hp) : Fin prog f239 ret239 25 (todoAt (bodyOf f239) [1, 1, 1] []) [(0, .int .u64 v1), (2, .int .i64 v2)] H (r239_j1 v1 v2 H) := by
  unfold r239_j1
  refine f_seq (q_ (m_ (.int .u64 v1) rfl (p_ rfl (s_geq rfl rfl) (f_nil ?_))))
  refine f_if (fun h1 => ?_) (fun h1 => ?_)
  · exact kT 14 h1 rfl (q_ (m_ (.int .u64 v1) rfl (p_ rfl (s_shr rfl rfl (by decide)) (a_ (.int .u64 (shrOf .u64 v1 8)) rfl (f_nil (f_region (m_ (.int .i64 v2) rfl (p_ rfl (s_add rfl rfl) (a_ (.int .i64 (w64 (v2 + 8))) rfl (f_nil (f_keep [0, 2] (s239_j0 (shrOf .u64 v1 8) (w64 (v2 + 8)) H))))))))))))
  · exact kF 14 h1 rfl (f_skip (f_keep [0, 2] (s239_j0 v1 v2 H)))

theorem s239_j2 (v1 v2 : Int) (H : Hp) : Fin prog f239 ret239 25 (todoAt (bodyOf f239) [1, 1] []) [(0, .int .u64 v1), (2, .int .i64 v2)] H (r239_j2 v1 v2 H) := by
  unfold r239_j2
  refine f_seq (q_ (m_ (.int .u64 v1) rfl (p_ rfl (s_geq rfl rfl) (f_nil ?_))))
  refine f_if (fun h1 => ?_) (fun h1 => ?_)
  · exact kT 8 h1 rfl (q_ (m_ (.int .u64 v1) rfl (p_ rfl (s_shr rfl rfl (by decide)) (a_ (.int .u64 (shrOf .u64 v1 16)) rfl (f_nil (f_region (m_ (.int .i64 v2) rfl (p_ rfl (s_add rfl rfl) (a_ (.int .i64 (w64 (v2 + 16))) rfl (f_nil (f_keep [0, 2] (s239_j1 (shrOf .u64 v1 16) (w64 (v2 + 16)) H))))))))))))
  · exact kF 8 h1 rfl (f_skip (f_keep [0, 2] (s239_j1 v1 v2 H)))

theorem sim239 {a0 : Int} {H : Hp} {p : Int × Hp} (h : r239 a0 H = some p) : CallSim prog 239 [.int .u64 a0] H (.int .i64 p.1) p.2 := by
  refine callSim (fn := f239) (ret := ret239) func239 rfl Tryz.ntmps239 rfl ?_ h
  unfold r239
  refine q_ (a_ (.int .i64 0) rfl (f_nil (f_seq (q_ (m_ (.int .u64 a0) rfl (p_ rfl (s_geq rfl rfl) (f_nil ?_)))))))
  refine f_if (fun h1 => ?_) (fun h1 => ?_)
  · exact kT 4 h1 rfl (q_ (m_ (.int .u64 a0) rfl (p_ rfl (s_shr rfl rfl (by decide)) (a_ (.int .u64 (shrOf .u64 a0 32)) rfl (f_nil (f_region (a_ (.int .i64 32) rfl (f_nil (f_keep [0, 2] (s239_j2 (shrOf .u64 a0 32) 32 H))))))))))
  · exact kF 4 h1 rfl (f_skip (f_keep [0, 2] (s239_j2 a0 0 H)))

/- 330 math/bits.Len32 -/
theorem ok330 : FnOk prog 330 := ⟨⟨f330, func330, by kernel_rfl, rfl⟩⟩
theorem s330_j0 (v1 v2 : Int) (H : Hp) : Fin prog f330 ret330 19 (todoAt (bodyOf f330) [1, 1, 1] []) [(0, .int .u32 v1), (2, .int .i64 v2)] H (r330_j0 v1 v2 H) := by
  unfold r330_j0
  exact q_ (m_ (.int .i64 v2) rfl (m_ (.int .u32 v1) rfl (p_ rfl (s_convInt underlying306 underlying5 rfl) (o_ck fun g1 => p_ rfl (s_indexStr underlying9 rfl rfl g1) (p_ rfl (s_convInt underlying5 underlying3 rfl) (p_ rfl (s_add rfl rfl) (a_ (.int .i64 (w64 (v2 + (w64 (bt (strC f330 [1, 1, 1, 0] 3 0) (IntKind.wrap .u8 (v1))))))) rfl (f_nil (f_ret (.tmp rfl (.nil)) rfl)))))))))

theorem s330_j1 (v1 v2 : Int) (H : Hp) : Fin prog f330 ret330 19 (todoAt (bodyOf f330) [1, 1] []) [(0, .int .u32 v1), (2, .int .i64 v2)] H (r330_j1 v1 v2 H) := by
  unfold r330_j1
  refine f_seq (q_ (m_ (.int .u32 v1) rfl (p_ rfl (s_geq rfl rfl) (f_nil ?_))))
  refine f_if (fun h1 => ?_) (fun h1 => ?_)
  · exact kT 8 h1 rfl (q_ (m_ (.int .u32 v1) rfl (p_ rfl (s_shr rfl rfl (by decide)) (a_ (.int .u32 (shrOf .u32 v1 8)) rfl (f_nil (f_region (m_ (.int .i64 v2) rfl (p_ rfl (s_add rfl rfl) (a_ (.int .i64 (w64 (v2 + 8))) rfl (f_nil (f_keep [0, 2] (s330_j0 (shrOf .u32 v1 8) (w64 (v2 + 8)) H))))))))))))
  · exact kF 8 h1 rfl (f_skip (f_keep [0, 2] (s330_j0 v1 v2 H)))

theorem sim330 {a0 : Int} {H : Hp} {p : Int × Hp} (h : r330 a0 H = some p) : CallSim prog 330 [.int .u32 a0] H (.int .i64 p.1) p.2 := by
  refine callSim (fn := f330) (ret := ret330) func330 rfl Tryz.ntmps330 rfl ?_ h
  unfold r330
  refine q_ (a_ (.int .i64 0) rfl (f_nil (f_seq (q_ (m_ (.int .u32 a0) rfl (p_ rfl (s_geq rfl rfl) (f_nil ?_)))))))
  refine f_if (fun h1 => ?_) (fun h1 => ?_)
  · exact kT 4 h1 rfl (q_ (m_ (.int .u32 a0) rfl (p_ rfl (s_shr rfl rfl (by decide)) (a_ (.int .u32 (shrOf .u32 a0 16)) rfl (f_nil (f_region (a_ (.int .i64 16) rfl (f_nil (f_keep [0, 2] (s330_j1 (shrOf .u32 a0 16) 16 H))))))))))
  · exact kF 4 h1 rfl (f_skip (f_keep [0, 2] (s330_j1 a0 0 H)))

/- 296 math/bits.Len -/
theorem ok296 : FnOk prog 296 := ⟨⟨f296, func296, by kernel_rfl, rfl⟩⟩
theorem sim296 {a0 : Int} {H : Hp} {p : Int × Hp} (h : r296 a0 H = some p) : CallSim prog 296 [.int .u64 a0] H (.int .i64 p.1) p.2 := by
  refine callSim (fn := f296) (ret := ret296) func296 rfl Tryz.ntmps296 rfl ?_ h
  unfold r296
  exact q_ (a_ (.int .i64 0) rfl (f_nil (f_seq (f_condF rfl (f_skip (q_ (m_ (.int .u64 a0) rfl (o_bind fun p1 hp1 => p_ rfl (s_callF rfl ok239 (sim239 hp1)) (a_ (.int .i64 p1.1) rfl (f_nil (f_ret (.tmp rfl (.nil)) rfl)))))))))))

/- 350 slices.nextPowerOfTwo -/
theorem ok350 : FnOk prog 350 := ⟨⟨f350, func350, by kernel_rfl, rfl⟩⟩
theorem sim350 {a0 : Int} {H : Hp} {p : Int × Hp} (h : r350 a0 H = some p) : CallSim prog 350 [.int .i64 a0] H (.int .u64 p.1) p.2 := by
  refine callSim (fn := f350) (ret := ret350) func350 rfl Tryz.ntmps350 rfl ?_ h
  unfold r350
  exact q_ (a_ (.int .u64 0) rfl (n_ (m_ (.int .i64 a0) rfl (p_ rfl (s_convInt underlying3 underlying46 rfl) (o_bind fun p1 hp1 => p_ rfl (s_callF rfl ok296 (sim296 hp1)) (o_ck fun g2 => p_ rfl (s_shl rfl rfl g2) (a_ (.int .u64 (shlOf .u64 1 p1.1)) rfl (f_nil (f_ret (.tmp rfl (.nil)) rfl)))))))))

/- 351 (*slices.xorshift).Next -/
theorem ok351 : FnOk prog 351 := ⟨⟨f351, func351, by kernel_rfl, rfl⟩⟩
theorem sim351 {a0b : Nat} {a0o : Nat} {H : Hp} {p : Int × Hp} (h : r351 a0b a0o H = some p) : CallSim prog 351 [.ptr a0b a0o] H (.int .u64 p.1) p.2 := by
  refine callSim (fn := f351) (ret := ret351) func351 rfl Tryz.ntmps351 rfl ?_ h
  unfold r351
  refine q_ (a_ (.int .u64 0) rfl (f_nil (f_seq (f_bind fun x1 hx1 => f_bind fun x2 hx2 => f_bind fun H3 hH3 => f_draw (Φ := fun _ => True) (lim := 1000000) [0, 0, 1, 0, 0, 1, 0, 0, 0, 2] (tm (.ptr a0b a0o) rfl (t_ rfl (fun _ => s_nilCheck rfl) (tr rfl (s_load underlying394 rfl rfl (ldI_eq hx1)) (tm (.ptr a0b a0o) rfl (t_ rfl (fun _ => s_nilCheck rfl) (tr rfl (s_load underlying394 rfl rfl (ldI_eq hx2)) (t_ rfl (fun _ => s_shl rfl rfl (by decide)) (t_ rfl (fun _ => s_xor rfl rfl) (t_ rfl (fun _ => s_nilCheck rfl) (Trc.eff rfl rfl rfl (fun _ => trivial) (s_store (s := 1) ty394 rfl rfl rfl hH3) (Trc.nil (fun _ => trivial)))))))))))) rfl (by decide +kernel) mixed (f_seq (f_bind fun x4 hx4 => f_bind fun x5 hx5 => f_bind fun H6 hH6 => f_draw (Φ := fun _ => True) (lim := 1000000) [0, 0, 1, 0, 0, 1, 0, 0, 0, 2] (tm (.ptr a0b a0o) rfl (t_ rfl (fun _ => s_nilCheck rfl) (tr rfl (s_load underlying394 rfl rfl (ldI_eq hx4)) (tm (.ptr a0b a0o) rfl (t_ rfl (fun _ => s_nilCheck rfl) (tr rfl (s_load underlying394 rfl rfl (ldI_eq hx5)) (t_ rfl (fun _ => s_shr rfl rfl (by decide)) (t_ rfl (fun _ => s_xor rfl rfl) (t_ rfl (fun _ => s_nilCheck rfl) (Trc.eff rfl rfl rfl (fun _ => trivial) (s_store (s := 1) ty394 rfl rfl rfl hH6) (Trc.nil (fun _ => trivial)))))))))))) rfl (by decide +kernel) mixed (f_seq (f_bind fun x7 hx7 => ?_))))))))
  exact f_bind fun x8 hx8 => f_bind fun H9 hH9 => f_draw (Φ := fun _ => True) (lim := 1000000) [0, 0, 1, 0, 0, 1, 0, 0, 0, 2] (tm (.ptr a0b a0o) rfl (t_ rfl (fun _ => s_nilCheck rfl) (tr rfl (s_load underlying394 rfl rfl (ldI_eq hx7)) (tm (.ptr a0b a0o) rfl (t_ rfl (fun _ => s_nilCheck rfl) (tr rfl (s_load underlying394 rfl rfl (ldI_eq hx8)) (t_ rfl (fun _ => s_shl rfl rfl (by decide)) (t_ rfl (fun _ => s_xor rfl rfl) (t_ rfl (fun _ => s_nilCheck rfl) (Trc.eff rfl rfl rfl (fun _ => trivial) (s_store (s := 1) ty394 rfl rfl rfl hH9) (Trc.nil (fun _ => trivial)))))))))))) rfl (by decide +kernel) mixed (q_ (m_ (.ptr a0b a0o) rfl (p_ rfl (s_nilCheck rfl) (o_bind fun x10 hx10 => p_ rfl (s_load underlying394 rfl rfl (ldI_eq hx10)) (a_ (.int .u64 x10) rfl (f_nil (f_ret (.tmp rfl (.nil)) rfl)))))))

/- 324 slices.breakPatternsCmpFunc[int] -/
theorem ok324 : FnOk prog 324 := ⟨⟨f324, func324, by kernel_rfl, rfl⟩⟩
theorem s324_j1 (kt0 : Sl → Int → Int → Nat → Int → Int → Hp → Option (Unit × Hp)) (hkt0 : ∀ (v1 : Sl) (v2 v3 : Int) (v4 : Nat) (v5 v6 : Int) (H : Hp), Fin prog f324 ret324 67 (todoAt (bodyOf f324) [1, 1, 0, 1, 1, 1, 0, 0] []) [(0, .sl v1), (1, .int .i64 v2), (8, .int .i64 v3), (9, .ptr v4 0), (10, .int .u64 v5), (11, .int .i64 v6)] H (kt0 v1 v2 v3 v4 v5 v6 H)) (v1 : Sl) (v2 v3 : Int) (v4 : Nat) (v5 v6 v7 : Int) (H : Hp) : Fin prog f324 ret324 67 (todoAt (bodyOf f324) [1, 1, 0, 1, 1, 1, 0, 0, 1, 0, 0, 1, 1] []) [(0, .sl v1), (1, .int .i64 v2), (8, .int .i64 v3), (9, .ptr v4 0), (10, .int .u64 v5), (11, .int .i64 v6), (12, .int .i64 v7)] H (r324_j1 kt0 v1 v2 v3 v4 v5 v6 v7 H) := by
  unfold r324_j1
  refine f_ck fun g1 => f_bind fun x2 hx2 => f_ck fun g3 => f_bind fun x4 hx4 => f_ck fun g5 => f_bind fun H6 hH6 => f_ck fun g7 => f_bind fun H8 hH8 => f_draw (Φ := fun _ => True) (lim := 1000000) [0, 0, 0, 0, 0, 0, 0, 0, 0, 0, 0, 1, 0, 0, 0, 1, 0, 2, 0, 2] (tm (.sl v1) rfl (tm (.int .i64 v6) rfl (tm (.sl v1) rfl (tm (.int .i64 v2) rfl (tm (.int .i64 v7) rfl (t_ rfl (fun _ => s_add rfl rfl) (tm (.sl v1) rfl (tm (.int .i64 v2) rfl (tm (.int .i64 v7) rfl (t_ rfl (fun _ => s_add rfl rfl) (t_ rfl (fun _ => s_idx underlying25 ty3 rfl rfl g1) (tr rfl (s_load underlying3 rfl rfl (ldI_eq hx2)) (tm (.sl v1) rfl (tm (.int .i64 v6) rfl (t_ rfl (fun _ => s_idx underlying25 ty3 rfl rfl g3) (tr rfl (s_load underlying3 rfl rfl (ldI_eq hx4)) (t_ rfl (fun _ => s_idx underlying25 ty3 rfl rfl g5) (Trc.eff rfl rfl rfl (fun _ => trivial) (s_store (s := 1) ty3 rfl rfl rfl hH6) (t_ rfl (fun _ => s_idx underlying25 ty3 rfl rfl g7) (Trc.eff rfl rfl rfl (fun _ => trivial) (s_store (s := 1) ty3 rfl rfl rfl hH8) (Trc.nil (fun _ => trivial)))))))))))))))))))))) rfl (by decide +kernel) mixed (f_inBlock (f_region (m_ (.int .i64 v6) rfl (p_ rfl (s_add rfl rfl) (a_ (.int .i64 (w64 (v6 + 1))) rfl (f_nil (f_inLoop ?_)))))))
  exact f_keep [0, 1, 8, 9, 10, 11] (hkt0 v1 v2 v3 v4 v5 (w64 (v6 + 1)) H8)

theorem s324_l0 : ∀ (k_ : Nat) (v1 : Sl) (v2 v3 : Int) (v4 : Nat) (v5 v6 : Int) (H : Hp), Fin prog f324 ret324 67 (todoAt (bodyOf f324) [1, 1, 0, 1, 1, 1, 0, 0] []) [(0, .sl v1), (1, .int .i64 v2), (8, .int .i64 v3), (9, .ptr v4 0), (10, .int .u64 v5), (11, .int .i64 v6)] H (r324_l0 k_ v1 v2 v3 v4 v5 v6 H) := by
  intro k_
  induction k_ with
  | zero => intro _ _ _ _ _ _ _; exact f_none
  | succ k_ ih =>
    intro v1 v2 v3 v4 v5 v6 H
    rw [r324_l0]
    refine f_seq (q_ (m_ (.int .i64 v6) rfl (m_ (.int .i64 v2) rfl (m_ (.int .i64 v3) rfl (p_ rfl (s_quo rfl rfl (by decide)) (p_ rfl (s_mul rfl rfl) (p_ rfl (s_add rfl rfl) (p_ rfl (s_add rfl rfl) (p_ rfl (s_leq rfl rfl) (f_nil ?_))))))))))
    refine f_if (fun h1 => ?_) (fun h1 => ?_)
    · refine kT 35 h1 rfl (f_skip (f_seq (f_block (q_ (o_bind fun p2 hp2 => p_ rfl (s_callF rfl ok351 (sim351 hp2)) (m_ (.int .u64 v5) rfl (p_ rfl (s_sub rfl rfl) (p_ rfl (s_and rfl rfl) (p_ rfl (s_convInt underlying46 underlying3 rfl) (a_ (.int .i64 (w64 (bitsOf .and .u64 p2.1 (IntKind.wrap .u64 (v5 - 1))))) rfl (f_nil (f_seq ?_))))))))))))
      refine q_ (m_ (.int .i64 (w64 (bitsOf .and .u64 p2.1 (IntKind.wrap .u64 (v5 - 1))))) rfl (m_ (.int .i64 v3) rfl (p_ rfl (s_geq rfl rfl) (f_nil ?_))))
      refine f_if (fun h3 => ?_) (fun h3 => ?_)
      · exact kT 45 h3 rfl (f_region (m_ (.int .i64 (w64 (bitsOf .and .u64 p2.1 (IntKind.wrap .u64 (v5 - 1))))) rfl (m_ (.int .i64 v3) rfl (p_ rfl (s_sub rfl rfl) (a_ (.int .i64 (w64 ((w64 (bitsOf .and .u64 p2.1 (IntKind.wrap .u64 (v5 - 1)))) - v3))) rfl (f_nil (f_keep [0, 1, 8, 9, 10, 11, 12] (s324_j1 _ ih v1 v2 v3 v4 v5 v6 (w64 ((w64 (bitsOf .and .u64 p2.1 (IntKind.wrap .u64 (v5 - 1)))) - v3)) p2.2))))))))
      · exact kF 45 h3 rfl (f_skip (f_keep [0, 1, 8, 9, 10, 11, 12] (s324_j1 _ ih v1 v2 v3 v4 v5 v6 (w64 (bitsOf .and .u64 p2.1 (IntKind.wrap .u64 (v5 - 1)))) p2.2)))
    · exact kF 35 h1 rfl (f_exit rfl (f_end (.nil) rfl))

theorem sim324 {a0 : Sl} {a1 : Int} {a2 : Int} {a3 : AV} {H : Hp} {p : Unit × Hp} (h : r324 a0 a1 a2 a3 H = some p) : CallSim prog 324 [.sl a0, .int .i64 a1, .int .i64 a2, a3] H (.tup []) p.2 := by
  refine callSim (fn := f324) (ret := ret324) func324 rfl Tryz.ntmps324 rfl ?_ h
  unfold r324
  refine q_ (m_ (.int .i64 a2) rfl (m_ (.int .i64 a1) rfl (p_ rfl (s_sub rfl rfl) (a_ (.int .i64 (w64 (a2 - a1))) rfl (n_ (m_ (.int .i64 (w64 (a2 - a1))) rfl (p_ rfl (s_geq rfl rfl) (f_nil ?_))))))))
  refine f_if (fun h1 => ?_) (fun h1 => ?_)
  · refine kT 17 h1 rfl (q_ (m_ (.int .i64 (w64 (a2 - a1))) rfl (p_ rfl (s_convInt underlying3 underlying394 rfl) (p_ rfl (s_alloc (zs := [.int .u64 0]) ty394 rfl rfl) (o_bind fun H2 hH2 => p_ rfl (s_store (s := 1) ty394 rfl rfl rfl hH2) (n_ (m_ (.int .i64 (w64 (a2 - a1))) rfl (o_bind fun p3 hp3 => p_ rfl (s_callF rfl ok350 (sim350 hp3)) (a_ (.int .u64 p3.1) rfl ?_)))))))))
    exact n_ (m_ (.int .i64 a1) rfl (m_ (.int .i64 (w64 (a2 - a1))) rfl (p_ rfl (s_quo rfl rfl (by decide)) (p_ rfl (s_mul rfl rfl) (p_ rfl (s_add rfl rfl) (p_ rfl (s_sub rfl rfl) (a_ (.int .i64 (w64 ((w64 (a1 + (w64 ((w64 (Int.tdiv (w64 (a2 - a1)) 4)) * 2)))) - 1))) rfl (f_nil (f_block (f_loop (f_keep [0, 1, 8, 9, 10, 11] (s324_l0 FUEL a0 a1 (w64 (a2 - a1)) H.n p3.1 (w64 ((w64 (a1 + (w64 ((w64 (Int.tdiv (w64 (a2 - a1)) 4)) * 2)))) - 1)) p3.2))))))))))))
  · exact kF 17 h1 rfl (f_skip (f_end (.nil) rfl))

/- 367 slices.order2CmpFunc[int] -/
theorem ok367 : FnOk prog 367 := ⟨⟨f367, func367, by kernel_rfl, rfl⟩⟩
theorem sim367 {app : App} (happ : AppSim prog app) {a0 : Sl} {a1 : Int} {a2 : Int} {a3b : Nat} {a3o : Nat} {a4 : AV} {H : Hp} {p : (Int × Int) × Hp} (h : r367 app a0 a1 a2 a3b a3o a4 H = some p) : CallSim prog 367 [.sl a0, .int .i64 a1, .int .i64 a2, .ptr a3b a3o, a4] H (.tup [.int .i64 p.1.1, .int .i64 p.1.2]) p.2 := by
  refine callSim (fn := f367) (ret := ret367) func367 rfl Tryz.ntmps367 rfl ?_ h
  unfold r367
  refine q_ (a_ (.int .i64 0) rfl (a_ (.int .i64 0) rfl (f_nil (f_seq (f_seq (f_ck fun g1 => f_bind fun x2 hx2 => f_ck fun g3 => f_bind fun x4 hx4 => f_bind fun p5 hp5 => f_bind fun x6 hx6 => f_draw (Φ := fun _ => True) (lim := 1000000) [0, 0, 0, 0, 1, 0, 0, 0, 1, 2, 0] (tm a4 rfl (tm (.sl a0) rfl (tm (.int .i64 a2) rfl (t_ rfl (fun _ => s_idx underlying25 ty3 rfl rfl g1) (tr rfl (s_load underlying3 rfl rfl (ldI_eq hx2)) (tm (.sl a0) rfl (tm (.int .i64 a1) rfl (t_ rfl (fun _ => s_idx underlying25 ty3 rfl rfl g3) (tr rfl (s_load underlying3 rfl rfl (ldI_eq hx4)) (Trc.eff rfl rfl rfl (fun _ => trivial) (s_callv happ rfl rfl hp5) (Trc.know 21 rfl (asI_eq hx6) (t_ rfl (fun _ => s_lss rfl rfl) (Trc.nil (fun _ => trivial)))))))))))))) rfl (by decide +kernel) mixed ?_))))))
  refine f_if (fun h7 => ?_) (fun h7 => ?_)
  · refine kT 22 h7 rfl (q_ (m_ (.ptr a3b a3o) rfl (p_ rfl (s_nilCheck rfl) (o_bind fun x8 hx8 => p_ rfl (s_load underlying3 rfl rfl (ldI_eq hx8)) (p_ rfl (s_add rfl rfl) (p_ rfl (s_nilCheck rfl) (o_bind fun H9 hH9 => p_ rfl (s_store (s := 1) ty3 rfl rfl rfl hH9) (n_ (m_ (.int .i64 a2) rfl ?_)))))))))
    exact m_ (.int .i64 a1) rfl (a_ (.int .i64 a2) rfl (a_ (.int .i64 a1) rfl (f_nil (f_ret (.tmp rfl (.tmp rfl (.nil))) rfl))))
  · exact kF 22 h7 rfl (f_skip (q_ (m_ (.int .i64 a1) rfl (m_ (.int .i64 a2) rfl (a_ (.int .i64 a1) rfl (a_ (.int .i64 a2) rfl (f_nil (f_ret (.tmp rfl (.tmp rfl (.nil))) rfl))))))))

end Go.Lt.P10
