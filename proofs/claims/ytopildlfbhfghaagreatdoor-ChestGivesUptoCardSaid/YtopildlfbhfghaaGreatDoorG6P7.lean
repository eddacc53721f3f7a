/- PRINTED BY A PROGRAM OF OURS: what each function that 'ChestGives' reaches computes on the abstract heap, and that the translated code does just that. Nothing is asked of the input. -/
import Derived.Test.YtopildlfbhfghaaGreatDoorG6P6
set_option linter.unusedVariables false
set_option linter.unusedSimpArgs false
set_option maxRecDepth 100000
set_option maxHeartbeats 4000000
namespace Go.Lt.P10
open Go Go.Lt Go.Proofs Go.Proofs.Tryz
/- 57 (congou/counts.margins).all -/
theorem ok57 : FnOk prog 57 := ⟨⟨f57, func57, by kernel_rfl, rfl⟩⟩
theorem s57_l0 {app : App} (happ : AppSim prog app) : ∀ (k_ v1 v2 v3 : Nat) (v4 v5 : Int) (H : Hp), Fin prog f57 ret57 35 (todoAt (bodyOf f57) [1, 1, 0, 1, 0, 0] []) [(2, .ptr v1 0), (3, .ptr v2 0), (4, .ptr v3 0), (13, .int .i64 v4), (14, .int .i64 v5)] H (r57_l0 app k_ v1 v2 v3 v4 v5 H) := by
 intro k_
 induction k_ with
 | zero => intro _ _ _ _ _ _; exact f_none
 | succ k_ ih =>
  intro v1 v2 v3 v4 v5 H
  rw [r57_l0]
  refine q_ (p_ rfl (s_lss rfl rfl) (f_nil (f_seq ?_)))
  refine f_if (fun h1 => ?_) (fun h1 => ?_)
  ·refine kT 15 h1 rfl (f_skip (f_seq (f_block (q_ (m_ (.int .i64 v5) rfl (a_ (.int .i64 v5) rfl (f_nil (f_bind fun x2 hx2 => f_bind fun x3 hx3 => f_ck fun g4 => f_ck fun g5 => f_bind fun H6 hH6 => f_ck fun g7 => ?_))))))))
   exact f_draw (Φ := fun H_ => H_.ld v3 0 = some (.sl x2)) (lim := 7) [0, 0, 0, 1, 0, 2, 0, 2] (Trc.pure rfl rfl rfl (.inr ⟨by decide +kernel, fun _ hp_ => s_load underlying102 rfl rfl hp_⟩) (tm (.int .i64 v5) rfl (t_ rfl (fun _ => s_fieldAddr underlying105 rfl ty25 rfl) (tr rfl (s_load underlying25 rfl rfl (ldSl_eq hx3)) (t_ rfl (fun _ => s_lenS rfl underlying25 rfl) (Trc.eff rfl rfl rfl (fun _ => ldSl_eq hx2) (s_makeSlice underlying25 ty3 rfl rfl (by decide) (by decide) rfl rfl g4) (t_ rfl (fun _ => s_idx underlying102 ty25 rfl rfl g5) (Trc.eff rfl rfl rfl (fun _ => ldSl_eq g7) (s_store (s := 1) ty25 rfl rfl rfl hH6) (Trc.nil (fun h_ => absurd h_ (by decide +kernel))))))))))) rfl (by decide +kernel) mixed (f_inBlock (f_region (p_ rfl (s_add rfl rfl) (m_ (.int .i64 (w64 (v5 + 1))) rfl (f_nil (f_inLoop (f_keep [2, 3, 4, 13, 14] (ih v1 v2 v3 v4 (w64 (v5 + 1)) H6))))))))
  ·refine kF 15 h1 rfl (f_exit rfl (q_ (p_ rfl (s_fieldAddr underlying105 rfl ty25 rfl) (o_bind fun x8 hx8 => p_ rfl (s_load underlying25 rfl rfl (ldSl_eq hx8)) (o_bind fun p9 hp9 => p_ rfl (s_callF rfl ok18 (sim18 hp9)) (p_ rfl (s_alloc (zs := [.sl ⟨true, 0, 0, 0, 0, 0⟩]) ty25 rfl rfl) (o_bind fun H10 hH10 => p_ rfl (s_store (s := 1) ty25 rfl rfl rfl hH10) (n_ ?_))))))))
   refine p_ rfl (s_alloc (zs := [.nilfn]) ty160 rfl rfl) (o_hp fun H11 hH11 => n_ (p_ rfl (s_makeFunc rfl rfl) (o_bind fun H12 hH12 => p_ rfl (s_store (s := 1) ty160 rfl rfl rfl hH12) (f_nil (f_bind fun x13 hx13 => f_bind fun x14 hx14 => f_ck fun g15 => f_bind fun x16 hx16 => f_bind fun p17 hp17 => f_bind fun x18 hx18 => f_draw (Φ := fun _ => True) (lim := 1000000) [1, 0, 1, 0, 1, 2] (tr rfl (s_load underlying160 rfl rfl (ldV_eq hx13)) (t_ rfl (fun _ => s_fieldAddr underlying105 rfl ty25 rfl) (tr rfl (s_load underlying25 rfl rfl (ldSl_eq hx14)) (t_ rfl (fun _ => s_idx underlying25 ty3 rfl rfl g15) (tr rfl (s_load underlying3 rfl rfl (ldI_eq hx16)) (Trc.eff rfl rfl rfl (fun _ => trivial) (s_callv happ rfl rfl hp17) (Trc.know 34 rfl (asB_eq hx18) (Trc.nil (fun _ => trivial))))))))) rfl (by decide +kernel) mixed ?_)))))
   exact f_end (.nil) rfl

theorem sim57 {app : App} (happ : AppSim prog app) {a0_0 : Sl} {a0_1 : Sl} {a1 : AV} {H : Hp} {p : Unit × Hp} (h : r57 app a0_0 a0_1 a1 H = some p) : CallSim prog 57 [.agg [.sl a0_0, .sl a0_1], a1] H (.tup []) p.2 := by
 refine callSim (fn := f57) (ret := ret57) func57 rfl Tryz.ntmps57 rfl ?_ h
 unfold r57
 refine q_ (p_ rfl (s_box (v := .agg [.sl a0_0, .sl a0_1]) rfl rfl) (o_ck fun g1 => p_ rfl (s_box1 (v := a1) rfl g1) (o_hp fun H2 hH2 => n_ (p_ rfl (s_fieldAddr underlying105 rfl ty25 rfl) (o_bind fun x3 hx3 => p_ rfl (s_load underlying25 rfl rfl (ldSl_eq hx3)) (p_ rfl (s_lenS rfl underlying25 rfl) (o_ck fun g4 => p_ rfl (s_makeSlice underlying102 ty25 rfl rfl (by decide) (by decide) rfl rfl g4) (p_ rfl (s_alloc (zs := [.sl ⟨true, 0, 0, 0, 0, 0⟩]) ty102 rfl rfl) ?_))))))))
 exact o_bind fun H5 hH5 => p_ rfl (s_store (s := 1) ty102 rfl rfl rfl hH5) (f_nil (f_seq (q_ (o_bind fun x6 hx6 => p_ rfl (s_load underlying102 rfl rfl (ldSl_eq hx6)) (p_ rfl (s_lenS rfl underlying102 rfl) (m_ (.int .i64 0) rfl (f_nil (f_block (f_loop (f_keep [2, 3, 4, 13, 14] (s57_l0 happ FUEL H.n ((H.push (.cells [.sl a0_0, .sl a0_1] false)).n) ((H2.push (.cells (zerosA [.sl ⟨true, 0, 0, 0, 0, 0⟩] (((x3.len : Int) : Int).toNat * 1)) false)).n) (x6.len : Int) 0 H5)))))))))))

/- 95 (congou/counts.table).clone -/
theorem ok95 : FnOk prog 95 := ⟨⟨f95, func95, by kernel_rfl, rfl⟩⟩
theorem s95_l0 : ∀ (k_ : Nat) (v1 v2 : Sl) (v3 v4 : Int) (H : Hp), Fin prog f95 ret95 19 (todoAt (bodyOf f95) [1, 1, 0, 1, 0, 0] []) [(3, .sl v1), (6, .sl v2), (7, .int .i64 v3), (8, .int .i64 v4)] H (r95_l0 k_ v1 v2 v3 v4 H) := by
 intro k_
 induction k_ with
 | zero => intro _ _ _ _ _; exact f_none
 | succ k_ ih =>
  intro v1 v2 v3 v4 H
  rw [r95_l0]
  refine q_ (p_ rfl (s_lss rfl rfl) (f_nil (f_seq ?_)))
  refine f_if (fun h1 => ?_) (fun h1 => ?_)
  ·refine kT 9 h1 rfl (f_skip (f_seq (f_block (q_ (o_ck fun g2 => p_ rfl (s_idx underlying102 ty25 rfl rfl g2) (o_bind fun x3 hx3 => p_ rfl (s_load underlying25 rfl rfl (ldSl_eq hx3)) (a_ (.sl x3) rfl (f_nil (f_region (m_ (.sl v1) rfl (m_ (.sl x3) rfl ?_)))))))))))
   exact o_bind fun p4 hp4 => p_ rfl (s_callF rfl ok18 (sim18 hp4)) (p_ rfl (s_buildSlice (cs := [.sl p4.1]) underlying102 ty25 (by decide) (by decide) rfl (by decide) rfl) (o_bind fun x5 hx5 => p_ rfl (s_ap rfl rfl underlying102 underlying102 ty25 rfl rfl rfl rfl rfl rfl rfl hx5) (a_ (.sl x5.1) rfl (f_nil (f_inBlock (f_region (p_ rfl (s_add rfl rfl) (m_ (.int .i64 (w64 (v4 + 1))) rfl (f_nil (f_inLoop (f_keep [3, 6, 7, 8] (ih x5.1 v2 v3 (w64 (v4 + 1)) x5.2))))))))))))
  ·exact kF 9 h1 rfl (f_exit rfl (q_ (m_ (.sl v1) rfl (a_ (.sl v1) rfl (f_nil (f_ret (.tmp rfl (.nil)) rfl))))))

theorem sim95 {a0 : Sl} {H : Hp} {p : Sl × Hp} (h : r95 a0 H = some p) : CallSim prog 95 [.sl a0] H (.sl p.1) p.2 := by
 refine callSim (fn := f95) (ret := ret95) func95 rfl Tryz.ntmps95 rfl ?_ h
 unfold r95
 refine q_ (a_ (.sl ⟨true, 0, 0, 0, 0, 0⟩) rfl (n_ (a_ (.sl ⟨true, 0, 0, 0, 0, 0⟩) rfl (f_nil (f_seq (q_ (m_ (.sl a0) rfl (p_ rfl (s_lenS rfl underlying102 rfl) (m_ (.int .i64 0) rfl (f_nil (f_block ?_)))))))))))
 exact f_loop (f_keep [3, 6, 7, 8] (s95_l0 FUEL ⟨true, 0, 0, 0, 0, 0⟩ a0 (a0.len : Int) 0 H))

/- 93 (congou/counts.margins).all$1 -/
theorem ok93 : FnOk prog 93 := ⟨⟨f93, func93, by kernel_rfl, rfl⟩⟩
theorem s93_l0 {app : App} (happ : AppSim prog app) : ∀ (k_ : Nat) (v1 v2 v3 : Int) (v4 v5 v6 : Nat) (v7 v8 : Int) (H : Hp), Fin prog f93 ret93 99 (todoAt (bodyOf f93) [1, 1, 0, 1, 0, 0] []) [(0, .int .i64 v1), (1, .int .i64 v2), (2, .int .i64 v3), (4, .ptr v4 0), (6, .ptr v5 0), (7, .ptr v6 0), (63, .int .i64 v7), (64, .int .i64 v8)] H (r93_l0 app k_ v1 v2 v3 v4 v5 v6 v7 v8 H) := by
 intro k_
 induction k_ with
 | zero => intro _ _ _ _ _ _ _ _ _; exact f_none
 | succ k_ ih =>
  intro v1 v2 v3 v4 v5 v6 v7 v8 H
  rw [r93_l0]
  refine q_ (p_ rfl (s_lss rfl rfl) (f_nil (f_seq ?_)))
  refine f_if (fun h1 => ?_) (fun h1 => ?_)
  ·refine kT 65 h1 rfl (f_skip (f_seq (f_block (q_ (m_ (.int .i64 v8) rfl (a_ (.int .i64 v8) rfl (n_ (o_bind fun x2 hx2 => p_ rfl (s_load underlying102 rfl rfl (ldSl_eq hx2)) (m_ (.int .i64 v1) rfl (o_ck fun g3 => ?_))))))))))
   refine p_ rfl (s_idx underlying102 ty25 rfl rfl g3) (o_bind fun x4 hx4 => p_ rfl (s_load underlying25 rfl rfl (ldSl_eq hx4)) (m_ (.int .i64 v2) rfl (m_ (.int .i64 v8) rfl (o_ck fun g5 => p_ rfl (s_idx underlying25 ty3 rfl rfl g5) (o_bind fun H6 hH6 => p_ rfl (s_store (s := 1) ty3 rfl rfl rfl hH6) (n_ (o_bind fun x7 hx7 => p_ rfl (s_load underlying25 rfl rfl (ldSl_eq hx7)) (m_ (.int .i64 v2) rfl (o_ck fun g8 => ?_)))))))))
   refine p_ rfl (s_idx underlying25 ty3 rfl rfl g8) (o_bind fun x9 hx9 => p_ rfl (s_load underlying3 rfl rfl (ldI_eq hx9)) (m_ (.int .i64 v8) rfl (p_ rfl (s_sub rfl rfl) (o_ck fun g10 => p_ rfl (s_idx underlying25 ty3 rfl rfl g10) (o_bind fun H11 hH11 => p_ rfl (s_store (s := 1) ty3 rfl rfl rfl hH11) (n_ (o_bind fun x12 hx12 => p_ rfl (s_load underlying160 rfl rfl (ldV_eq hx12)) (m_ (.int .i64 v1) rfl (m_ (.int .i64 v2) rfl ?_)))))))))
   refine p_ rfl (s_add rfl rfl) (m_ (.int .i64 v3) rfl (m_ (.int .i64 v8) rfl (p_ rfl (s_sub rfl rfl) (o_bind fun p13 hp13 => o_bind fun x14 hx14 => p_ rfl (s_callv happ rfl rfl hp13) (o_know 88 rfl (asB_eq hx14) (a_ (.bool x14) rfl (n_ (o_bind fun x15 hx15 => p_ rfl (s_load underlying25 rfl rfl (ldSl_eq hx15)) (m_ (.int .i64 v2) rfl (o_ck fun g16 => ?_))))))))))
   refine p_ rfl (s_idx underlying25 ty3 rfl rfl g16) (o_bind fun x17 hx17 => p_ rfl (s_load underlying3 rfl rfl (ldI_eq hx17)) (m_ (.int .i64 v8) rfl (p_ rfl (s_add rfl rfl) (o_ck fun g18 => p_ rfl (s_idx underlying25 ty3 rfl rfl g18) (o_bind fun H19 hH19 => p_ rfl (s_store (s := 1) ty3 rfl rfl rfl hH19) (n_ (m_ (.bool x14) rfl (p_ rfl (s_not rfl) (f_nil ?_)))))))))
   refine f_if (fun h20 => ?_) (fun h20 => ?_)
   ·exact f_know 97 rfl (bool_notT h20) (f_condF rfl (f_skip (f_inBlock (f_region (p_ rfl (s_add rfl rfl) (m_ (.int .i64 (w64 (v8 + 1))) rfl (f_nil (f_inLoop (f_keep [0, 1, 2, 4, 6, 7, 63, 64] (ih v1 v2 v3 v4 v5 v6 v7 (w64 (v8 + 1)) H19))))))))))
   ·exact f_know 97 rfl (bool_notF h20) (f_condT rfl (q_ (a_ (.bool false) rfl (f_nil (f_ret (.tmp rfl (.nil)) rfl)))))
  ·exact kF 65 h1 rfl (f_exit rfl (q_ (a_ (.bool true) rfl (f_nil (f_ret (.tmp rfl (.nil)) rfl)))))

theorem sim93 {app : App} (happ : AppSim prog app) {a0 : Int} {a1 : Int} {a2 : Int} {c0 : Nat} {c1 : Nat} {c2 : Nat} {c3 : Nat} {c4 : Nat} {H : Hp} {p : Bool × Hp} (h : r93 app a0 a1 a2 c0 c1 c2 c3 c4 H = some p) : CallSim prog 93 [.int .i64 a0, .int .i64 a1, .int .i64 a2, .ptr c0 0, .ptr c1 0, .ptr c2 0, .ptr c3 0, .ptr c4 0] H (.bool p.1) p.2 := by
 refine callSim (fn := f93) (ret := ret93) func93 rfl Tryz.ntmps93 rfl ?_ h
 unfold r93
 refine q_ (a_ (.bool false) rfl (f_nil (f_seq (f_block (q_ (m_ (.int .i64 a0) rfl (p_ rfl (s_fieldAddr underlying105 rfl ty25 rfl) (o_bind fun x1 hx1 => p_ rfl (s_load underlying25 rfl rfl (ldSl_eq hx1)) (p_ rfl (s_lenS rfl underlying25 rfl) (p_ rfl (s_eql rfl rfl) (a_ (.bool (decide (a0 = (x1.len : Int)))) rfl (f_nil ?_))))))))))))
 refine f_if (fun h2 => ?_) (fun h2 => ?_)
 ·refine kT 14 h2 rfl (f_seq (f_bind fun x3 hx3 => f_bind fun p4 hp4 => ?_))
  refine f_if (fun h5 => ?_) (fun h5 => ?_)
  ·exact f_draw (Φ := fun _ => True) (lim := 1000000) [1, 2, 0, 0, 0, 0, 0, 0, 0, 0] (tr rfl (s_load underlying25 rfl rfl (ldSl_eq hx3)) (Trc.eff rfl rfl rfl (fun _ => trivial) (s_callF rfl ok94 (sim94 hp4)) (t_ rfl (fun _ => s_gtr rfl rfl) (tm (.bool (decide (0 < p4.1))) rfl (Trc.know 23 rfl (dec_true h5) (Trc.no rfl rfl rfl (Trc.no rfl rfl rfl (Trc.no rfl rfl rfl (Trc.no rfl rfl rfl (t_ rfl (fun _ => s_pickT (v := .bool true) rfl rfl) (t_ rfl (fun _ => s_as (v := .bool true) rfl) (Trc.nil (fun _ => trivial))))))))))))) rfl (by decide +kernel) mixed (f_ret (.tmp rfl (.nil)) rfl)
  ·exact f_bind fun x6 hx6 => f_bind fun x7 hx7 => f_bind fun p8 hp8 => f_bind fun p9 hp9 => f_bind fun x10 hx10 => f_ck fun g11 => f_ck fun g12 => f_draw (Φ := fun H_ => H_.ld c2 0 = some (x6)) (lim := 7) [1, 2, 0, 0, 0, 1, 2, 2, 0, 0] (tr rfl (s_load underlying25 rfl rfl (ldSl_eq hx3)) (Trc.eff rfl rfl rfl (fun _ => isV_eq g11) (s_callF rfl ok94 (sim94 hp4)) (t_ rfl (fun _ => s_gtr rfl rfl) (tm (.bool (decide (0 < p4.1))) rfl (Trc.know 23 rfl (dec_false h5) (Trc.pure rfl rfl rfl (.inr ⟨by decide +kernel, fun _ hp_ => s_load underlying159 rfl rfl hp_⟩) (tr rfl (s_load underlying102 rfl rfl (ldSl_eq hx7)) (Trc.eff rfl rfl rfl (fun _ => ldV_eq hx6) (s_callF rfl ok95 (sim95 hp8)) (Trc.eff rfl rfl rfl (fun _ => isV_eq g12) (s_callv happ rfl rfl hp9) (Trc.know 27 rfl (asB_eq hx10) (t_ rfl (fun _ => s_pickF (v := .bool x10) rfl rfl) (t_ rfl (fun _ => s_as (v := .bool x10) rfl) (Trc.nil (fun h_ => absurd h_ (by decide +kernel))))))))))))))) rfl (by decide +kernel) mixed (f_ret (.tmp rfl (.nil)) rfl)
 ·refine kF 14 h2 rfl (q_ (m_ (.int .i64 a1) rfl (p_ rfl (s_fieldAddr underlying105 rfl ty25 rfl) (o_bind fun x13 hx13 => p_ rfl (s_load underlying25 rfl rfl (ldSl_eq hx13)) (p_ rfl (s_lenS rfl underlying25 rfl) (p_ rfl (s_eql rfl rfl) (a_ (.bool (decide (a1 = (x13.len : Int)))) rfl (f_nil ?_))))))))
  refine f_if (fun h14 => ?_) (fun h14 => ?_)
  ·refine kT 29 h14 rfl (f_seq (q_ (m_ (.int .i64 a2) rfl (p_ rfl (s_gtr rfl rfl) (f_nil ?_)))))
   refine f_if (fun h15 => ?_) (fun h15 => ?_)
   ·exact kT 36 h15 rfl (q_ (a_ (.bool true) rfl (f_nil (f_ret (.tmp rfl (.nil)) rfl))))
   ·refine kF 36 h15 rfl (f_skip (f_seq (q_ (m_ (.int .i64 a0) rfl (p_ rfl (s_add rfl rfl) (p_ rfl (s_fieldAddr underlying105 rfl ty25 rfl) (o_bind fun x16 hx16 => p_ rfl (s_load underlying25 rfl rfl (ldSl_eq hx16)) (p_ rfl (s_lenS rfl underlying25 rfl) (p_ rfl (s_eql rfl rfl) (f_nil ?_))))))))))
    refine f_if (fun h17 => ?_) (fun h17 => ?_)
    ·exact kT 42 h17 rfl (q_ (o_bind fun x18 hx18 => p_ rfl (s_load underlying160 rfl rfl (ldV_eq hx18)) (m_ (.int .i64 a0) rfl (p_ rfl (s_add rfl rfl) (o_bind fun p19 hp19 => o_bind fun x20 hx20 => p_ rfl (s_callv happ rfl rfl hp19) (o_know 46 rfl (asB_eq hx20) (a_ (.bool x20) rfl (f_nil (f_ret (.tmp rfl (.nil)) rfl)))))))))
    ·exact kF 42 h17 rfl (f_skip (f_seq (f_bind fun x21 hx21 => f_bind fun x22 hx22 => f_ck fun g23 => f_bind fun x24 hx24 => f_bind fun p25 hp25 => f_bind fun x26 hx26 => f_draw (Φ := fun _ => True) (lim := 1000000) [1, 0, 0, 0, 1, 0, 0, 0, 1, 2, 0] (tr rfl (s_load underlying160 rfl rfl (ldV_eq hx21)) (tm (.int .i64 a0) rfl (t_ rfl (fun _ => s_add rfl rfl) (t_ rfl (fun _ => s_fieldAddr underlying105 rfl ty25 rfl) (tr rfl (s_load underlying25 rfl rfl (ldSl_eq hx22)) (tm (.int .i64 a0) rfl (t_ rfl (fun _ => s_add rfl rfl) (t_ rfl (fun _ => s_idx underlying25 ty3 rfl rfl g23) (tr rfl (s_load underlying3 rfl rfl (ldI_eq hx24)) (Trc.eff rfl rfl rfl (fun _ => trivial) (s_callv happ rfl rfl hp25) (Trc.know 56 rfl (asB_eq hx26) (t_ rfl (fun _ => s_as (v := .bool x26) rfl) (Trc.nil (fun _ => trivial)))))))))))))) rfl (by decide +kernel) mixed (f_ret (.tmp rfl (.nil)) rfl))))
  ·refine kF 29 h14 rfl (f_skip (f_inBlock (f_seq (q_ (m_ (.int .i64 a2) rfl (o_bind fun x27 hx27 => p_ rfl (s_load underlying25 rfl rfl (ldSl_eq hx27)) (m_ (.int .i64 a1) rfl (o_ck fun g28 => p_ rfl (s_idx underlying25 ty3 rfl rfl g28) (o_bind fun x29 hx29 => p_ rfl (s_load underlying3 rfl rfl (ldI_eq hx29)) (p_ rfl (s_min2 rfl rfl) ?_))))))))))
   exact p_ rfl (s_add rfl rfl) (m_ (.int .i64 0) rfl (f_nil (f_block (f_loop (f_keep [0, 1, 2, 4, 6, 7, 63, 64] (s93_l0 happ FUEL a0 a1 a2 c1 c3 c4 (w64 ((if x29 < a2 then x29 else a2) + 1)) 0 H))))))

/- 153 (*congou/chest.state).stocks -/
theorem ok153 : FnOk prog 153 := ⟨⟨f153, func153, by kernel_rfl, rfl⟩⟩
theorem s153_l0 : ∀ (k_ : Nat) (v1 v2 : Sl) (v3 v4 : Int) (H : Hp), Fin prog f153 ret153 22 (todoAt (bodyOf f153) [1, 1, 0, 1, 0, 0] []) [(3, .sl v1), (9, .sl v2), (10, .int .i64 v3), (11, .int .i64 v4)] H (r153_l0 k_ v1 v2 v3 v4 H) := by
 intro k_
 induction k_ with
 | zero => intro _ _ _ _ _; exact f_none
 | succ k_ ih =>
  intro v1 v2 v3 v4 H
  rw [r153_l0]
  refine q_ (p_ rfl (s_lss rfl rfl) (f_nil (f_seq ?_)))
  refine f_if (fun h1 => ?_) (fun h1 => ?_)
  ·refine kT 12 h1 rfl (f_skip (f_seq (f_block (q_ (o_ck fun g2 => p_ rfl (s_idx underlying147 ty186 rfl rfl g2) (o_bind fun x3 hx3 => o_bind fun x4 hx4 => p_ rfl (s_loads underlying186 rfl ty186 rfl (lds_cons (ldStr_eq hx3) (lds_cons (ldI_eq hx4) (lds_nil)))) (p_ rfl (s_alloc (zs := [.str (ByteArray.mk #[]), .int .i64 0]) ty186 rfl rfl) (o_bind fun H5 hH5 => p_ rfl (s_stores ty186 rfl rfl rfl rfl hH5 (Nat.le_of_eq (sts_mono hH5).symm)) (f_nil ?_)))))))))
   refine f_region (m_ (.sl v1) rfl (p_ rfl (s_fieldAddr underlying186 rfl ty3 rfl) (o_bind fun x6 hx6 => p_ rfl (s_load underlying3 rfl rfl (ldI_eq hx6)) (p_ rfl (s_buildSlice (cs := [.int .i64 x6]) underlying25 ty3 (by decide) (by decide) rfl (by decide) rfl) (o_bind fun x7 hx7 => p_ rfl (s_ap rfl rfl underlying25 underlying25 ty3 rfl rfl rfl rfl rfl rfl rfl hx7) (a_ (.sl x7.1) rfl (f_nil (f_inBlock (f_region (p_ rfl (s_add rfl rfl) (m_ (.int .i64 (w64 (v4 + 1))) rfl (f_nil (f_inLoop ?_)))))))))))))
   exact f_keep [3, 9, 10, 11] (ih x7.1 v2 v3 (w64 (v4 + 1)) x7.2)
  ·exact kF 12 h1 rfl (f_exit rfl (q_ (m_ (.sl v1) rfl (a_ (.sl v1) rfl (f_nil (f_ret (.tmp rfl (.nil)) rfl))))))

theorem sim153 {a0b : Nat} {a0o : Nat} {H : Hp} {p : Sl × Hp} (h : r153 a0b a0o H = some p) : CallSim prog 153 [.ptr a0b a0o] H (.sl p.1) p.2 := by
 refine callSim (fn := f153) (ret := ret153) func153 rfl Tryz.ntmps153 rfl ?_ h
 unfold r153
 refine q_ (a_ (.sl ⟨true, 0, 0, 0, 0, 0⟩) rfl (n_ (a_ (.sl ⟨true, 0, 0, 0, 0, 0⟩) rfl (f_nil (f_seq (q_ (m_ (.ptr a0b a0o) rfl (p_ rfl (s_nilCheck rfl) (p_ rfl (s_fieldAddr underlying150 rfl ty147 rfl) (o_bind fun x1 hx1 => p_ rfl (s_load underlying147 rfl rfl (ldSl_eq hx1)) ?_))))))))))
 exact p_ rfl (s_lenS rfl underlying147 rfl) (m_ (.int .i64 0) rfl (f_nil (f_block (f_loop (f_keep [3, 9, 10, 11] (s153_l0 FUEL ⟨true, 0, 0, 0, 0, 0⟩ x1 (x1.len : Int) 0 H))))))

/- 98 (*congou/chest.state).gap -/
theorem ok98 : FnOk prog 98 := ⟨⟨f98, func98, by kernel_rfl, rfl⟩⟩
theorem sim98 {app : App} (happ : AppSim prog app) {a0b : Nat} {a0o : Nat} {a1_0 : Sl} {a1_1 : Sl} {H : Hp} {p : (Sl × Int) × Hp} (h : r98 app a0b a0o a1_0 a1_1 H = some p) : CallSim prog 98 [.ptr a0b a0o, .agg [.sl a1_0, .sl a1_1]] H (.tup [.sl p.1.1, .int .i64 p.1.2]) p.2 := by
 refine callSim (fn := f98) (ret := ret98) func98 rfl Tryz.ntmps98 rfl ?_ h
 unfold r98
 refine q_ (p_ rfl (s_box (v := .agg [.sl a1_0, .sl a1_1]) rfl rfl) (a_ (.sl ⟨true, 0, 0, 0, 0, 0⟩) rfl (a_ (.int .i64 0) rfl (o_hp fun H1 hH1 => f_nil (f_seq (q_ (m_ (.ptr a0b a0o) rfl (p_ rfl (s_nilCheck rfl) (p_ rfl (s_fieldAddr underlying150 rfl ty147 rfl) (o_bind fun x2 hx2 => p_ rfl (s_load underlying147 rfl rfl (ldSl_eq hx2)) (p_ rfl (s_lenS rfl underlying147 rfl) ?_)))))))))))
 refine p_ rfl (s_eql rfl rfl) (f_nil ?_)
 refine f_if (fun h3 => ?_) (fun h3 => ?_)
 ·exact kT 13 h3 rfl (q_ (a_ (.sl ⟨true, 0, 0, 0, 0, 0⟩) rfl (a_ (.int .i64 4) rfl (f_nil (f_ret (.tmp rfl (.tmp rfl (.nil))) rfl)))))
 ·refine kF 13 h3 rfl (f_skip (q_ (m_ (.ptr a0b a0o) rfl (o_bind fun p4 hp4 => p_ rfl (s_callF rfl ok153 (sim153 hp4)) (o_bind fun p5 hp5 => p_ rfl (s_callF rfl ok17 (sim17 hp5)) (m_ (.tup [.int .i64 p5.1.1, .int .i64 p5.1.2]) rfl (p_ rfl (s_extract (r := .int .i64 p5.1.1) rfl rfl) (p_ rfl (s_extract (r := .int .i64 p5.1.2) rfl rfl) (a_ (.int .i64 p5.1.1) rfl (a_ (.int .i64 p5.1.2) rfl (f_nil ?_)))))))))))
  exact q_ (m_ (.int .i64 p5.1.1) rfl (p_ rfl (s_buildSlice (cs := [.int .i64 p5.1.1]) underlying25 ty3 (by decide) (by decide) rfl (by decide) rfl) (o_bind fun p6 hp6 => p_ rfl (s_callF rfl ok134 (sim134 happ hp6)) (m_ (.int .i64 p5.1.2) rfl (a_ (.sl p6.1) rfl (a_ (.int .i64 p5.1.2) rfl (f_nil (f_ret (.tmp rfl (.tmp rfl (.nil))) rfl))))))))

/- 99 (*congou/chest.state).heavy -/
theorem ok99 : FnOk prog 99 := ⟨⟨f99, func99, by kernel_rfl, rfl⟩⟩
theorem sim99 {app : App} (happ : AppSim prog app) {a0b : Nat} {a0o : Nat} {a1_0 : Sl} {a1_1 : Sl} {H : Hp} {p : (Sl × Int) × Hp} (h : r99 app a0b a0o a1_0 a1_1 H = some p) : CallSim prog 99 [.ptr a0b a0o, .agg [.sl a1_0, .sl a1_1]] H (.tup [.sl p.1.1, .int .i64 p.1.2]) p.2 := by
 refine callSim (fn := f99) (ret := ret99) func99 rfl Tryz.ntmps99 rfl ?_ h
 unfold r99
 refine q_ (p_ rfl (s_box (v := .agg [.sl a1_0, .sl a1_1]) rfl rfl) (a_ (.sl ⟨true, 0, 0, 0, 0, 0⟩) rfl (a_ (.int .i64 0) rfl (o_hp fun H1 hH1 => f_nil (f_seq (f_bind fun x2 hx2 => f_ck fun g3 => f_bind fun x4 hx4 => f_bind fun x5 hx5 => f_bind fun p6 hp6 => f_draw (Φ := fun _ => True) (lim := 1000000) [0, 1, 0, 1, 0, 0, 0, 1, 2, 0, 0, 0, 0, 0] (t_ rfl (fun _ => s_fieldAddr underlying167 rfl ty25 rfl) (tr rfl (s_load underlying25 rfl rfl (ldSl_eq hx2)) (t_ rfl (fun _ => s_idx underlying25 ty3 rfl rfl g3) (tr rfl (s_load underlying3 rfl rfl (ldI_eq hx4)) (tm (.ptr a0b a0o) rfl (t_ rfl (fun _ => s_nilCheck rfl) (t_ rfl (fun _ => s_fieldAddr underlying150 rfl ty25 rfl) (tr rfl (s_load underlying25 rfl rfl (ldSl_eq hx5)) (Trc.eff rfl rfl rfl (fun _ => trivial) (s_callF rfl ok25 (sim25 happ hp6)) (tm (.tup [.sl p6.1.1, .int .i64 p6.1.2]) rfl (t_ rfl (fun _ => s_extract (r := .sl p6.1.1) rfl rfl) (t_ rfl (fun _ => s_extract (r := .int .i64 p6.1.2) rfl rfl) (t_ rfl (fun _ => s_as (v := .sl p6.1.1) rfl) (t_ rfl (fun _ => s_as (v := .int .i64 p6.1.2) rfl) (Trc.nil (fun _ => trivial)))))))))))))))) rfl (by decide +kernel) mixed (q_ ?_)))))))
 exact m_ (.ptr a0b a0o) rfl (m_ (.sl p6.1.1) rfl (o_bind fun p7 hp7 => p_ rfl (s_callF rfl ok133 (sim133 hp7)) (m_ (.int .i64 p6.1.2) rfl (a_ (.sl p7.1) rfl (a_ (.int .i64 p6.1.2) rfl (f_nil (f_ret (.tmp rfl (.tmp rfl (.nil))) rfl)))))))

/- 197 slices.IndexFunc[[]congou/chest.leaf,congou/chest.leaf] -/
theorem ok197 : FnOk prog 197 := ⟨⟨f197, func197, by kernel_rfl, rfl⟩⟩
theorem s197_l0 {app : App} (happ : AppSim prog app) : ∀ (k_ : Nat) (v1 : Sl) (v2 : AV) (v3 v4 : Int) (H : Hp), Fin prog f197 ret197 19 (todoAt (bodyOf f197) [1, 0, 1, 0, 0] []) [(0, .sl v1), (1, v2), (7, .int .i64 v3), (8, .int .i64 v4)] H (r197_l0 app k_ v1 v2 v3 v4 H) := by
 intro k_
 induction k_ with
 | zero => intro _ _ _ _ _; exact f_none
 | succ k_ ih =>
  intro v1 v2 v3 v4 H
  rw [r197_l0]
  refine q_ (p_ rfl (s_lss rfl rfl) (f_nil (f_seq ?_)))
  refine f_if (fun h1 => ?_) (fun h1 => ?_)
  ·refine kT 9 h1 rfl (f_skip (f_seq (f_block (q_ (m_ (.int .i64 v4) rfl (a_ (.int .i64 v4) rfl (n_ (m_ v2 rfl (m_ (.sl v1) rfl (m_ (.int .i64 v4) rfl (o_ck fun g2 => ?_)))))))))))
   refine p_ rfl (s_idx underlying147 ty186 rfl rfl g2) (o_bind fun x3 hx3 => o_bind fun x4 hx4 => p_ rfl (s_loads underlying186 rfl ty186 rfl (lds_cons (ldStr_eq hx3) (lds_cons (ldI_eq hx4) (lds_nil)))) (o_bind fun p5 hp5 => o_bind fun x6 hx6 => p_ rfl (s_callv happ rfl rfl hp5) (o_know 16 rfl (asB_eq hx6) (f_nil ?_))))
   refine f_if (fun h7 => ?_) (fun h7 => ?_)
   ·exact bT 16 h7 rfl (q_ (m_ (.int .i64 v4) rfl (a_ (.int .i64 v4) rfl (f_nil (f_ret (.tmp rfl (.nil)) rfl)))))
   ·exact bF 16 h7 rfl (f_skip (f_inBlock (f_region (p_ rfl (s_add rfl rfl) (m_ (.int .i64 (w64 (v4 + 1))) rfl (f_nil (f_inLoop (f_keep [0, 1, 7, 8] (ih v1 v2 v3 (w64 (v4 + 1)) p5.2)))))))))
  ·exact kF 9 h1 rfl (f_exit rfl (q_ (a_ (.int .i64 (-1)) rfl (f_nil (f_ret (.tmp rfl (.nil)) rfl)))))

theorem sim197 {app : App} (happ : AppSim prog app) {a0 : Sl} {a1 : AV} {H : Hp} {p : Int × Hp} (h : r197 app a0 a1 H = some p) : CallSim prog 197 [.sl a0, a1] H (.int .i64 p.1) p.2 := by
 refine callSim (fn := f197) (ret := ret197) func197 rfl Tryz.ntmps197 rfl ?_ h
 unfold r197
 exact q_ (a_ (.int .i64 0) rfl (f_nil (f_seq (q_ (m_ (.sl a0) rfl (p_ rfl (s_lenS rfl underlying147 rfl) (m_ (.int .i64 0) rfl (f_nil (f_block (f_loop (f_keep [0, 1, 7, 8] (s197_l0 happ FUEL a0 a1 (a0.len : Int) 0 H))))))))))))

/- 154 (*congou/chest.state).find -/
theorem ok154 : FnOk prog 154 := ⟨⟨f154, func154, by kernel_rfl, rfl⟩⟩
theorem sim154 {app : App} (happ : AppSim prog app) {a0b : Nat} {a0o : Nat} {a1 : ByteArray} {H : Hp} {p : Int × Hp} (h : r154 app a0b a0o a1 H = some p) : CallSim prog 154 [.ptr a0b a0o, .str a1] H (.int .i64 p.1) p.2 := by
 refine callSim (fn := f154) (ret := ret154) func154 rfl Tryz.ntmps154 rfl ?_ h
 unfold r154
 refine q_ (p_ rfl (s_box1 (v := .str a1) rfl rfl) (a_ (.int .i64 0) rfl (o_hp fun H1 hH1 => n_ (m_ (.ptr a0b a0o) rfl (p_ rfl (s_nilCheck rfl) (p_ rfl (s_fieldAddr underlying150 rfl ty147 rfl) (o_bind fun x2 hx2 => p_ rfl (s_load underlying147 rfl rfl (ldSl_eq hx2)) (p_ rfl (s_makeFunc rfl rfl) (o_bind fun p3 hp3 => p_ rfl (s_callF rfl ok197 (sim197 happ hp3)) ?_)))))))))
 exact a_ (.int .i64 p3.1) rfl (f_nil (f_ret (.tmp rfl (.nil)) rfl))

/- 100 (*congou/chest.state).often -/
theorem ok100 : FnOk prog 100 := ⟨⟨f100, func100, by kernel_rfl, rfl⟩⟩
theorem sim100 {app : App} (happ : AppSim prog app) {a0b : Nat} {a0o : Nat} {a1_0 : Sl} {a1_1 : Sl} {H : Hp} {p : (Sl × Int) × Hp} (h : r100 app a0b a0o a1_0 a1_1 H = some p) : CallSim prog 100 [.ptr a0b a0o, .agg [.sl a1_0, .sl a1_1]] H (.tup [.sl p.1.1, .int .i64 p.1.2]) p.2 := by
 refine callSim (fn := f100) (ret := ret100) func100 rfl Tryz.ntmps100 rfl ?_ h
 unfold r100
 refine q_ (p_ rfl (s_box (v := .agg [.sl a1_0, .sl a1_1]) rfl rfl) (a_ (.sl ⟨true, 0, 0, 0, 0, 0⟩) rfl (a_ (.int .i64 0) rfl (o_hp fun H1 hH1 => n_ (m_ (.ptr a0b a0o) rfl (p_ rfl (s_fieldAddr underlying167 rfl ty22 rfl) (o_bind fun x2 hx2 => p_ rfl (s_load underlying22 rfl rfl (ldSl_eq hx2)) (o_ck fun g3 => p_ rfl (s_idx underlying22 ty9 rfl rfl g3) (o_bind fun x4 hx4 => ?_)))))))))
 refine p_ rfl (s_load underlying9 rfl rfl (ldStr_eq hx4)) (o_bind fun p5 hp5 => p_ rfl (s_callF rfl ok154 (sim154 happ hp5)) (a_ (.int .i64 p5.1) rfl (f_nil (f_seq (q_ (m_ (.int .i64 p5.1) rfl (p_ rfl (s_lss rfl rfl) (f_nil ?_))))))))
 refine f_if (fun h6 => ?_) (fun h6 => ?_)
 ·exact kT 16 h6 rfl (q_ (a_ (.sl ⟨true, 0, 0, 0, 0, 0⟩) rfl (a_ (.int .i64 4) rfl (f_nil (f_ret (.tmp rfl (.tmp rfl (.nil))) rfl)))))
 ·refine kF 16 h6 rfl (f_skip (q_ (m_ (.ptr a0b a0o) rfl (p_ rfl (s_nilCheck rfl) (p_ rfl (s_fieldAddr underlying150 rfl ty25 rfl) (o_bind fun x7 hx7 => p_ rfl (s_load underlying25 rfl rfl (ldSl_eq hx7)) (m_ (.int .i64 p5.1) rfl (o_bind fun p8 hp8 => p_ rfl (s_callF rfl ok29 (sim29 happ hp8)) (m_ (.tup [.int .i64 p8.1.1, .int .i64 p8.1.2]) rfl (p_ rfl (s_extract (r := .int .i64 p8.1.1) rfl rfl) (p_ rfl (s_extract (r := .int .i64 p8.1.2) rfl rfl) ?_)))))))))))
  exact a_ (.int .i64 p8.1.1) rfl (a_ (.int .i64 p8.1.2) rfl (n_ (m_ (.int .i64 p8.1.1) rfl (p_ rfl (s_buildSlice (cs := [.int .i64 p8.1.1]) underlying25 ty3 (by decide) (by decide) rfl (by decide) rfl) (o_bind fun p9 hp9 => p_ rfl (s_callF rfl ok134 (sim134 happ hp9)) (m_ (.int .i64 p8.1.2) rfl (a_ (.sl p9.1) rfl (a_ (.int .i64 p8.1.2) rfl (f_nil (f_ret (.tmp rfl (.tmp rfl (.nil))) rfl))))))))))

/- 155 congou/chest.fracs -/
theorem ok155 : FnOk prog 155 := ⟨⟨f155, func155, by kernel_rfl, rfl⟩⟩
theorem s155_l0 {app : App} (happ : AppSim prog app) : ∀ (k_ : Nat) (v1 v2 : Sl) (v3 v4 : Int) (H : Hp), Fin prog f155 ret155 25 (todoAt (bodyOf f155) [1, 1, 0, 1, 0, 0] []) [(3, .sl v1), (6, .sl v2), (7, .int .i64 v3), (8, .int .i64 v4)] H (r155_l0 app k_ v1 v2 v3 v4 H) := by
 intro k_
 induction k_ with
 | zero => intro _ _ _ _ _; exact f_none
 | succ k_ ih =>
  intro v1 v2 v3 v4 H
  rw [r155_l0]
  refine q_ (p_ rfl (s_lss rfl rfl) (f_nil (f_seq ?_)))
  refine f_if (fun h1 => ?_) (fun h1 => ?_)
  ·refine kT 9 h1 rfl (f_skip (f_seq (f_block (q_ (o_ck fun g2 => p_ rfl (s_idx underlying111 ty33 rfl rfl g2) (o_bind fun x3 hx3 => o_bind fun x4 hx4 => p_ rfl (s_loads underlying33 rfl ty33 rfl (lds_cons (ldI_eq hx3) (lds_cons (ldI_eq hx4) (lds_nil)))) (p_ rfl (s_alloc (zs := [.int .i64 0, .int .i64 0]) ty33 rfl rfl) (o_bind fun H5 hH5 => p_ rfl (s_stores ty33 rfl rfl rfl rfl hH5 (Nat.le_of_eq (sts_mono hH5).symm)) (f_nil ?_)))))))))
   refine f_bind fun x6 hx6 => f_bind fun p7 hp7 => f_bind fun x8 hx8 => f_ck fun g9 => f_bind fun x10 hx10 => f_bind fun p11 hp11 => f_bind fun x12 hx12 => f_ck fun g13 => f_bind fun x14 hx14 => f_ck fun g15 => f_draw (Φ := fun H_ => H_.ld H.n (0 + 1) = some (.int .i64 x10)) (lim := 7) [0, 0, 1, 2, 0, 0, 0, 2, 0, 2, 2, 0] (tm (.sl v1) rfl (t_ rfl (fun _ => s_fieldAddr underlying33 rfl ty3 rfl) (tr rfl (s_load underlying3 rfl rfl (ldI_eq hx6)) (Trc.eff rfl rfl rfl (fun _ => ldI_eq g15) (s_callA happ rfl hp7) (Trc.know 15 rfl (asStr_eq hx8) (t_ rfl (fun _ => s_addStr rfl rfl g9) (t_ rfl (fun _ => s_fieldAddr underlying33 rfl ty3 rfl) (Trc.pure rfl rfl rfl (.inr ⟨by decide +kernel, fun _ hp_ => s_load underlying3 rfl rfl hp_⟩) (Trc.eff rfl rfl rfl (fun _ => ldI_eq hx10) (s_callA happ rfl hp11) (Trc.know 19 rfl (asStr_eq hx12) (t_ rfl (fun _ => s_addStr rfl rfl g13) (Trc.eff rfl rfl rfl (fun h_ => absurd h_ (by decide +kernel)) (s_buildSlice (cs := [.str ((x8 ++ (ByteArray.mk #[47])) ++ x12)]) underlying22 ty9 (by decide) (by decide) rfl (by decide) rfl) (Trc.eff rfl rfl rfl (fun h_ => absurd h_ (by decide +kernel)) (s_ap rfl rfl underlying22 underlying22 ty9 rfl rfl rfl rfl rfl rfl rfl hx14) (t_ rfl (fun _ => s_as (v := .sl x14.1) rfl) (Trc.nil (fun h_ => absurd h_ (by decide +kernel))))))))))))))))) rfl (by decide +kernel) mixed (f_inBlock (f_region (p_ rfl (s_add rfl rfl) (m_ (.int .i64 (w64 (v4 + 1))) rfl (f_nil ?_)))))
   exact f_inLoop (f_keep [3, 6, 7, 8] (ih x14.1 v2 v3 (w64 (v4 + 1)) x14.2))
  ·exact kF 9 h1 rfl (f_exit rfl (q_ (m_ (.sl v1) rfl (a_ (.sl v1) rfl (f_nil (f_ret (.tmp rfl (.nil)) rfl))))))

theorem sim155 {app : App} (happ : AppSim prog app) {a0 : Sl} {H : Hp} {p : Sl × Hp} (h : r155 app a0 H = some p) : CallSim prog 155 [.sl a0] H (.sl p.1) p.2 := by
 refine callSim (fn := f155) (ret := ret155) func155 rfl Tryz.ntmps155 rfl ?_ h
 unfold r155
 refine q_ (a_ (.sl ⟨true, 0, 0, 0, 0, 0⟩) rfl (n_ (a_ (.sl ⟨true, 0, 0, 0, 0, 0⟩) rfl (f_nil (f_seq (q_ (m_ (.sl a0) rfl (p_ rfl (s_lenS rfl underlying111 rfl) (m_ (.int .i64 0) rfl (f_nil (f_block ?_)))))))))))
 exact f_loop (f_keep [3, 6, 7, 8] (s155_l0 happ FUEL ⟨true, 0, 0, 0, 0, 0⟩ a0 (a0.len : Int) 0 H))

/- 101 (*congou/chest.state).tail -/
theorem ok101 : FnOk prog 101 := ⟨⟨f101, func101, by kernel_rfl, rfl⟩⟩
theorem sim101 {app : App} (happ : AppSim prog app) {a0b : Nat} {a0o : Nat} {a1_0 : Sl} {a1_1 : Sl} {H : Hp} {p : (Sl × Int) × Hp} (h : r101 app a0b a0o a1_0 a1_1 H = some p) : CallSim prog 101 [.ptr a0b a0o, .agg [.sl a1_0, .sl a1_1]] H (.tup [.sl p.1.1, .int .i64 p.1.2]) p.2 := by
 refine callSim (fn := f101) (ret := ret101) func101 rfl Tryz.ntmps101 rfl ?_ h
 unfold r101
 refine q_ (p_ rfl (s_box (v := .agg [.sl a1_0, .sl a1_1]) rfl rfl) (a_ (.sl ⟨true, 0, 0, 0, 0, 0⟩) rfl (a_ (.int .i64 0) rfl (o_hp fun H1 hH1 => f_nil (f_seq (f_bind fun p2 hp2 => f_bind fun H3 hH3 => f_drawF (Φ := fun _ => True) (lim := 1000000) [0, 0, 0, 0, 0, 0, 0, 0, 0, 0, 2, 2, 0, 0, 0, 2, 2, 0] [false, false, false, false, false, false, false, false, false, false, false, false, false, false, false, true, false, false] 15 16 (tm (.ptr a0b a0o) rfl (t_ rfl (fun _ => s_nilCheck rfl) (t_ rfl (fun _ => s_fieldAddr underlying150 rfl ty148 rfl) (t_ rfl (fun _ => s_idxA underlying148 ty101 rfl rfl (by decide)) (t_ rfl (fun _ => s_sliceA underlying101 ty3 rfl rfl rfl (by decide)) (tm (.ptr a0b a0o) rfl (t_ rfl (fun _ => s_nilCheck rfl) (t_ rfl (fun _ => s_fieldAddr underlying150 rfl ty148 rfl) (t_ rfl (fun _ => s_idxA underlying148 ty101 rfl rfl (by decide)) (t_ rfl (fun _ => s_sliceA underlying101 ty3 rfl rfl rfl (by decide)) (Trc.eff rfl rfl rfl (fun _ => trivial) (s_buildSlice (cs := [.sl ⟨false, a0b, ((a0o + 2) + (0 : Int).toNat * 2) + (0 : Int).toNat * 1, (((2 : Nat) : Int) : Int).toNat - (0 : Int).toNat, 2 - (0 : Int).toNat, 0⟩, .sl ⟨false, a0b, ((a0o + 2) + (1 : Int).toNat * 2) + (0 : Int).toNat * 1, (((2 : Nat) : Int) : Int).toNat - (0 : Int).toNat, 2 - (0 : Int).toNat, 0⟩]) underlying31 ty25 (by decide) (by decide) rfl (by decide) rfl) (Trc.eff rfl rfl rfl (fun _ => trivial) (s_callF rfl ok13 (sim13 happ hp2)) (tm (.tup [.agg [.int .i64 p2.1.1, .int .i64 p2.1.2.1], .int .i64 p2.1.2.2]) rfl (t_ rfl (fun _ => s_extract (r := .agg [.int .i64 p2.1.1, .int .i64 p2.1.2.1]) rfl rfl) (t_ rfl (fun _ => s_extract (r := .int .i64 p2.1.2.2) rfl rfl) (Trc.fl .p rfl rfl rfl (fun _ => trivial) rfl (by rfl) (fun _ => s_alloc (zs := [.int .i64 0, .int .i64 0]) ty33 rfl rfl) (Trc.eff rfl rfl rfl (fun _ => trivial) (s_stores ty33 rfl rfl rfl rfl hH3 (Nat.le_of_eq (sts_mono hH3).symm)) (t_ rfl (fun _ => s_as (v := .int .i64 p2.1.2.2) rfl) (Trc.nil (fun _ => trivial)))))))))))))))))))) rfl rfl (by decide +kernel) mixed (q_ (o_bind fun x4 hx4 => o_bind fun x5 hx5 => p_ rfl (s_loads underlying33 rfl ty33 rfl (lds_cons (ldI_eq hx4) (lds_cons (ldI_eq hx5) (lds_nil)))) ?_))))))))
 exact p_ rfl (s_buildSlice (cs := [.int .i64 x4, .int .i64 x5]) underlying111 ty33 (by decide) (by decide) rfl (by decide) rfl) (o_bind fun p6 hp6 => p_ rfl (s_callF rfl ok155 (sim155 happ hp6)) (m_ (.int .i64 p2.1.2.2) rfl (a_ (.sl p6.1) rfl (a_ (.int .i64 p2.1.2.2) rfl (f_nil (f_ret (.tmp rfl (.tmp rfl (.nil))) rfl))))))

/- 112 (*congou/chest.state).leaf -/
theorem ok112 : FnOk prog 112 := ⟨⟨f112, func112, by kernel_rfl, rfl⟩⟩
theorem sim112 {app : App} (happ : AppSim prog app) {a0b : Nat} {a0o : Nat} {a1_0 : Sl} {a1_1 : Sl} {H : Hp} {p : Int × Hp} (h : r112 app a0b a0o a1_0 a1_1 H = some p) : CallSim prog 112 [.ptr a0b a0o, .agg [.sl a1_0, .sl a1_1]] H (.int .i64 p.1) p.2 := by
 refine callSim (fn := f112) (ret := ret112) func112 rfl Tryz.ntmps112 rfl ?_ h
 unfold r112
 refine q_ (p_ rfl (s_box (v := .agg [.sl a1_0, .sl a1_1]) rfl rfl) (a_ (.int .i64 0) rfl (o_hp fun H1 hH1 => f_nil (f_seq (f_block (q_ (m_ (.ptr a0b a0o) rfl (p_ rfl (s_fieldAddr underlying167 rfl ty22 rfl) (o_bind fun x2 hx2 => p_ rfl (s_load underlying22 rfl rfl (ldSl_eq hx2)) (o_ck fun g3 => p_ rfl (s_idx underlying22 ty9 rfl rfl g3) ?_))))))))))
 refine o_bind fun x4 hx4 => p_ rfl (s_load underlying9 rfl rfl (ldStr_eq hx4)) (o_bind fun p5 hp5 => p_ rfl (s_callF rfl ok154 (sim154 happ hp5)) (p_ rfl (s_geq rfl rfl) (a_ (.bool (decide (0 ≤ p5.1))) rfl (f_nil ?_))))
 refine f_if (fun h6 => ?_) (fun h6 => ?_)
 ·exact kT 5 h6 rfl (q_ (a_ (.int .i64 5) rfl (f_nil (f_ret (.tmp rfl (.nil)) rfl))))
 ·refine kF 5 h6 rfl (q_ (p_ rfl (s_fieldAddr underlying167 rfl ty25 rfl) (o_bind fun x7 hx7 => p_ rfl (s_load underlying25 rfl rfl (ldSl_eq hx7)) (o_ck fun g8 => p_ rfl (s_idx underlying25 ty3 rfl rfl g8) (o_bind fun x9 hx9 => p_ rfl (s_load underlying3 rfl rfl (ldI_eq hx9)) (p_ rfl (s_gtr rfl rfl) (a_ (.bool (decide (20 < x9))) rfl (f_nil ?_))))))))
  refine f_if (fun h10 => ?_) (fun h10 => ?_)
  ·exact kT 13 h10 rfl (q_ (a_ (.int .i64 2) rfl (f_nil (f_ret (.tmp rfl (.nil)) rfl))))
  ·refine kF 13 h10 rfl (q_ (m_ (.ptr a0b a0o) rfl (p_ rfl (s_nilCheck rfl) (p_ rfl (s_fieldAddr underlying150 rfl ty147 rfl) (o_bind fun x11 hx11 => p_ rfl (s_load underlying147 rfl rfl (ldSl_eq hx11)) (p_ rfl (s_lenS rfl underlying147 rfl) (p_ rfl (s_eql rfl rfl) (a_ (.bool (decide ((x11.len : Int) = 6))) rfl (f_nil ?_)))))))))
   refine f_if (fun h12 => ?_) (fun h12 => ?_)
   ·exact kT 19 h12 rfl (q_ (a_ (.int .i64 7) rfl (f_nil (f_ret (.tmp rfl (.nil)) rfl))))
   ·refine kF 19 h12 rfl (f_skip (f_inBlock (f_seq (f_bind fun x13 hx13 => f_bind fun x14 hx14 => f_ck fun g15 => f_bind fun x16 hx16 => f_bind fun x17 hx17 => f_ck fun g18 => f_bind fun x19 hx19 => f_bind fun x20 hx20 => f_bind fun H21 hH21 => f_drawF (Φ := fun _ => True) (lim := 1000000) [0, 0, 0, 0, 1, 0, 1, 0, 1, 0, 1, 0, 1, 0, 2, 2, 0, 0, 2] [false, false, false, false, false, false, false, false, false, false, false, false, false, false, true, false, false, false, false] 14 15 (tm (.ptr a0b a0o) rfl (tm (.ptr a0b a0o) rfl (t_ rfl (fun _ => s_nilCheck rfl) (t_ rfl (fun _ => s_fieldAddr underlying150 rfl ty147 rfl) (tr rfl (s_load underlying147 rfl rfl (ldSl_eq hx13)) (t_ rfl (fun _ => s_fieldAddr underlying167 rfl ty22 rfl) (tr rfl (s_load underlying22 rfl rfl (ldSl_eq hx14)) (t_ rfl (fun _ => s_idx underlying22 ty9 rfl rfl g15) (tr rfl (s_load underlying9 rfl rfl (ldStr_eq hx16)) (t_ rfl (fun _ => s_fieldAddr underlying167 rfl ty25 rfl) (tr rfl (s_load underlying25 rfl rfl (ldSl_eq hx17)) (t_ rfl (fun _ => s_idx underlying25 ty3 rfl rfl g18) (tr rfl (s_load underlying3 rfl rfl (ldI_eq hx19)) (t_ rfl (fun _ => s_build (cs := [.str x16, .int .i64 x19]) underlying186 ty186 rfl pl186 rfl) (Trc.fl (.s 1) rfl rfl rfl (fun _ => trivial) rfl (by rfl) (fun _ => s_buildSlice (cs := [.str x16, .int .i64 x19]) underlying147 ty186 (by decide) (by decide) rfl (by decide) rfl) (Trc.eff rfl rfl rfl (fun _ => trivial) (s_ap rfl rfl underlying147 underlying147 ty186 rfl rfl rfl rfl rfl rfl rfl hx20) (t_ rfl (fun _ => s_nilCheck rfl) (t_ rfl (fun _ => s_fieldAddr underlying150 rfl ty147 rfl) (Trc.eff rfl rfl rfl (fun _ => trivial) (s_store (s := 1) ty147 rfl rfl rfl hH21) (Trc.nil (fun _ => trivial))))))))))))))))))))) rfl rfl (by decide +kernel) mixed (f_seq ?_)))))
    exact f_region (a_ (.int .i64 0) rfl (f_nil (f_ret (.tmp rfl (.nil)) rfl)))

end Go.Lt.P10
