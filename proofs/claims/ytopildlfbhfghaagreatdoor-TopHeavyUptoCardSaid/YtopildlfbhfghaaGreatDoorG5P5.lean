/- PRINTED BY A PROGRAM OF OURS: what each function that 'TopHeavy' reaches computes on the abstract heap, and that the translated code does just that. Nothing is asked of the input. -/
import Derived.Test.YtopildlfbhfghaaGreatDoorG5P4
set_option linter.unusedVariables false
set_option linter.unusedSimpArgs false
set_option maxRecDepth 100000
set_option maxHeartbeats 4000000
namespace Go.Lt.P10
open Go Go.Lt Go.Proofs Go.Proofs.Tryz
/- 351 (*slices.xorshift).Next -/
theorem ok351 : FnOk prog 351 := ⟨⟨f351, func351, by kernel_rfl, rfl⟩⟩
theorem sim351 {a0b : Nat} {a0o : Nat} {H : Hp} {p : Int × Hp} (h : r351 a0b a0o H = some p) : CallSim prog 351 [.ptr a0b a0o] H (.int .u64 p.1) p.2 := by
 refine callSim (fn := f351) (ret := ret351) func351 rfl Tryz.ntmps351 rfl ?_ h
 unfold r351
 refine q_ (a_ (.int .u64 0) rfl (f_nil (f_seq (f_bind fun x1 hx1 => f_bind fun x2 hx2 => f_bind fun H3 hH3 => f_draw (Φ := fun _ => True) (lim := 1000000) [0, 0, 1, 0, 0, 1, 0, 0, 0, 2] (tm (.ptr a0b a0o) rfl (t_ rfl (fun _ => s_nilCheck rfl) (tr rfl (s_load underlying394 rfl rfl (ldI_eq hx1)) (tm (.ptr a0b a0o) rfl (t_ rfl (fun _ => s_nilCheck rfl) (tr rfl (s_load underlying394 rfl rfl (ldI_eq hx2)) (t_ rfl (fun _ => s_shl rfl rfl (by decide)) (t_ rfl (fun _ => s_xor rfl rfl) (t_ rfl (fun _ => s_nilCheck rfl) (Trc.eff rfl rfl rfl (fun _ => trivial) (s_store (s := 1) ty394 rfl rfl rfl hH3) (Trc.nil (fun _ => trivial)))))))))))) rfl (by decide +kernel) mixed (f_seq (f_bind fun x4 hx4 => f_bind fun x5 hx5 => f_bind fun H6 hH6 => f_draw (Φ := fun _ => True) (lim := 1000000) [0, 0, 1, 0, 0, 1, 0, 0, 0, 2] (tm (.ptr a0b a0o) rfl (t_ rfl (fun _ => s_nilCheck rfl) (tr rfl (s_load underlying394 rfl rfl (ldI_eq hx4)) (tm (.ptr a0b a0o) rfl (t_ rfl (fun _ => s_nilCheck rfl) (tr rfl (s_load underlying394 rfl rfl (ldI_eq hx5)) (t_ rfl (fun _ => s_shr rfl rfl (by decide)) (t_ rfl (fun _ => s_xor rfl rfl) (t_ rfl (fun _ => s_nilCheck rfl) (Trc.eff rfl rfl rfl (fun _ => trivial) (s_store (s := 1) ty394 rfl rfl rfl hH6) (Trc.nil (fun _ => trivial)))))))))))) rfl (by decide +kernel) mixed (f_seq (f_bind fun x7 hx7 => ?_))))))))
 exact f_bind fun x8 hx8 => f_bind fun H9 hH9 => f_draw (Φ := fun _ => True) (lim := 1000000) [0, 0, 1, 0, 0, 1, 0, 0, 0, 2] (tm (.ptr a0b a0o) rfl (t_ rfl (fun _ => s_nilCheck rfl) (tr rfl (s_load underlying394 rfl rfl (ldI_eq hx7)) (tm (.ptr a0b a0o) rfl (t_ rfl (fun _ => s_nilCheck rfl) (tr rfl (s_load underlying394 rfl rfl (ldI_eq hx8)) (t_ rfl (fun _ => s_shl rfl rfl (by decide)) (t_ rfl (fun _ => s_xor rfl rfl) (t_ rfl (fun _ => s_nilCheck rfl) (Trc.eff rfl rfl rfl (fun _ => trivial) (s_store (s := 1) ty394 rfl rfl rfl hH9) (Trc.nil (fun _ => trivial)))))))))))) rfl (by decide +kernel) mixed (q_ (m_ (.ptr a0b a0o) rfl (p_ rfl (s_nilCheck rfl) (o_bind fun x10 hx10 => p_ rfl (s_load underlying394 rfl rfl (ldI_eq hx10)) (a_ (.int .u64 x10) rfl (f_nil (f_ret (.tmp rfl (.nil)) rfl)))))))

/- 333 slices.breakPatternsCmpFunc[congou/sketch.Count] -/
theorem ok333 : FnOk prog 333 := ⟨⟨f333, func333, by kernel_rfl, rfl⟩⟩
theorem s333_j1 (kt0 : Sl → Int → Int → Nat → Int → Int → Hp → Option (Unit × Hp)) (hkt0 : ∀ (v1 : Sl) (v2 v3 : Int) (v4 : Nat) (v5 v6 : Int) (H : Hp), Fin prog f333 ret333 67 (todoAt (bodyOf f333) [1, 1, 0, 1, 1, 1, 0, 0] []) [(0, .sl v1), (1, .int .i64 v2), (8, .int .i64 v3), (9, .ptr v4 0), (10, .int .u64 v5), (11, .int .i64 v6)] H (kt0 v1 v2 v3 v4 v5 v6 H)) (v1 : Sl) (v2 v3 : Int) (v4 : Nat) (v5 v6 v7 : Int) (H : Hp) : Fin prog f333 ret333 67 (todoAt (bodyOf f333) [1, 1, 0, 1, 1, 1, 0, 0, 1, 0, 0, 1, 1] []) [(0, .sl v1), (1, .int .i64 v2), (8, .int .i64 v3), (9, .ptr v4 0), (10, .int .u64 v5), (11, .int .i64 v6), (12, .int .i64 v7)] H (r333_j1 kt0 v1 v2 v3 v4 v5 v6 v7 H) := by
 unfold r333_j1
 refine f_ck fun g1 => f_bind fun x2 hx2 => f_bind fun x3 hx3 => f_bind fun x4 hx4 => f_ck fun g5 => f_bind fun x6 hx6 => f_bind fun x7 hx7 => f_bind fun x8 hx8 => f_ck fun g9 => f_bind fun H10 hH10 => f_ck fun g11 => f_bind fun H12 hH12 => f_draw (Φ := fun _ => True) (lim := 1000000) [0, 0, 0, 0, 0, 0, 0, 0, 0, 0, 0, 1, 0, 0, 0, 1, 0, 2, 0, 2] (tm (.sl v1) rfl (tm (.int .i64 v6) rfl (tm (.sl v1) rfl (tm (.int .i64 v2) rfl (tm (.int .i64 v7) rfl (t_ rfl (fun _ => s_add rfl rfl) (tm (.sl v1) rfl (tm (.int .i64 v2) rfl (tm (.int .i64 v7) rfl (t_ rfl (fun _ => s_add rfl rfl) (t_ rfl (fun _ => s_idx underlying58 ty63 rfl rfl g1) (tr rfl (s_loads underlying63 rfl ty63 rfl (lds_cons (ldI_eq hx2) (lds_cons (ldI_eq hx3) (lds_cons (ldI_eq hx4) (lds_nil))))) (tm (.sl v1) rfl (tm (.int .i64 v6) rfl (t_ rfl (fun _ => s_idx underlying58 ty63 rfl rfl g5) (tr rfl (s_loads underlying63 rfl ty63 rfl (lds_cons (ldI_eq hx6) (lds_cons (ldI_eq hx7) (lds_cons (ldI_eq hx8) (lds_nil))))) (t_ rfl (fun _ => s_idx underlying58 ty63 rfl rfl g9) (Trc.eff rfl rfl rfl (fun _ => trivial) (s_stores ty63 rfl rfl rfl rfl hH10 (Nat.le_of_eq (sts_mono hH10).symm)) (t_ rfl (fun _ => s_idx underlying58 ty63 rfl rfl g11) (Trc.eff rfl rfl rfl (fun _ => trivial) (s_stores ty63 rfl rfl rfl rfl hH12 (Nat.le_of_eq (sts_mono hH12).symm)) (Trc.nil (fun _ => trivial)))))))))))))))))))))) rfl (by decide +kernel) mixed (f_inBlock (f_region (m_ (.int .i64 v6) rfl ?_)))
 exact p_ rfl (s_add rfl rfl) (a_ (.int .i64 (w64 (v6 + 1))) rfl (f_nil (f_inLoop (f_keep [0, 1, 8, 9, 10, 11] (hkt0 v1 v2 v3 v4 v5 (w64 (v6 + 1)) H12)))))

theorem s333_l0 : ∀ (k_ : Nat) (v1 : Sl) (v2 v3 : Int) (v4 : Nat) (v5 v6 : Int) (H : Hp), Fin prog f333 ret333 67 (todoAt (bodyOf f333) [1, 1, 0, 1, 1, 1, 0, 0] []) [(0, .sl v1), (1, .int .i64 v2), (8, .int .i64 v3), (9, .ptr v4 0), (10, .int .u64 v5), (11, .int .i64 v6)] H (r333_l0 k_ v1 v2 v3 v4 v5 v6 H) := by
 intro k_
 induction k_ with
 | zero => intro _ _ _ _ _ _ _; exact f_none
 | succ k_ ih =>
  intro v1 v2 v3 v4 v5 v6 H
  rw [r333_l0]
  refine f_seq (q_ (m_ (.int .i64 v6) rfl (m_ (.int .i64 v2) rfl (m_ (.int .i64 v3) rfl (p_ rfl (s_quo rfl rfl (by decide)) (p_ rfl (s_mul rfl rfl) (p_ rfl (s_add rfl rfl) (p_ rfl (s_add rfl rfl) (p_ rfl (s_leq rfl rfl) (f_nil ?_))))))))))
  refine f_if (fun h1 => ?_) (fun h1 => ?_)
  ·refine kT 35 h1 rfl (f_skip (f_seq (f_block (q_ (o_bind fun p2 hp2 => p_ rfl (s_callF rfl ok351 (sim351 hp2)) (m_ (.int .u64 v5) rfl (p_ rfl (s_sub rfl rfl) (p_ rfl (s_and rfl rfl) (p_ rfl (s_convInt underlying46 underlying3 rfl) (a_ (.int .i64 (w64 (bitsOf .and .u64 p2.1 (IntKind.wrap .u64 (v5 - 1))))) rfl (f_nil (f_seq ?_))))))))))))
   refine q_ (m_ (.int .i64 (w64 (bitsOf .and .u64 p2.1 (IntKind.wrap .u64 (v5 - 1))))) rfl (m_ (.int .i64 v3) rfl (p_ rfl (s_geq rfl rfl) (f_nil ?_))))
   refine f_if (fun h3 => ?_) (fun h3 => ?_)
   ·exact kT 45 h3 rfl (f_region (m_ (.int .i64 (w64 (bitsOf .and .u64 p2.1 (IntKind.wrap .u64 (v5 - 1))))) rfl (m_ (.int .i64 v3) rfl (p_ rfl (s_sub rfl rfl) (a_ (.int .i64 (w64 ((w64 (bitsOf .and .u64 p2.1 (IntKind.wrap .u64 (v5 - 1)))) - v3))) rfl (f_nil (f_keep [0, 1, 8, 9, 10, 11, 12] (s333_j1 _ ih v1 v2 v3 v4 v5 v6 (w64 ((w64 (bitsOf .and .u64 p2.1 (IntKind.wrap .u64 (v5 - 1)))) - v3)) p2.2))))))))
   ·exact kF 45 h3 rfl (f_skip (f_keep [0, 1, 8, 9, 10, 11, 12] (s333_j1 _ ih v1 v2 v3 v4 v5 v6 (w64 (bitsOf .and .u64 p2.1 (IntKind.wrap .u64 (v5 - 1)))) p2.2)))
  ·exact kF 35 h1 rfl (f_exit rfl (f_end (.nil) rfl))

theorem sim333 {a0 : Sl} {a1 : Int} {a2 : Int} {a3 : AV} {H : Hp} {p : Unit × Hp} (h : r333 a0 a1 a2 a3 H = some p) : CallSim prog 333 [.sl a0, .int .i64 a1, .int .i64 a2, a3] H (.tup []) p.2 := by
 refine callSim (fn := f333) (ret := ret333) func333 rfl Tryz.ntmps333 rfl ?_ h
 unfold r333
 refine q_ (m_ (.int .i64 a2) rfl (m_ (.int .i64 a1) rfl (p_ rfl (s_sub rfl rfl) (a_ (.int .i64 (w64 (a2 - a1))) rfl (n_ (m_ (.int .i64 (w64 (a2 - a1))) rfl (p_ rfl (s_geq rfl rfl) (f_nil ?_))))))))
 refine f_if (fun h1 => ?_) (fun h1 => ?_)
 ·refine kT 17 h1 rfl (q_ (m_ (.int .i64 (w64 (a2 - a1))) rfl (p_ rfl (s_convInt underlying3 underlying394 rfl) (p_ rfl (s_alloc (zs := [.int .u64 0]) ty394 rfl rfl) (o_bind fun H2 hH2 => p_ rfl (s_store (s := 1) ty394 rfl rfl rfl hH2) (n_ (m_ (.int .i64 (w64 (a2 - a1))) rfl (o_bind fun p3 hp3 => p_ rfl (s_callF rfl ok350 (sim350 hp3)) (a_ (.int .u64 p3.1) rfl ?_)))))))))
  exact n_ (m_ (.int .i64 a1) rfl (m_ (.int .i64 (w64 (a2 - a1))) rfl (p_ rfl (s_quo rfl rfl (by decide)) (p_ rfl (s_mul rfl rfl) (p_ rfl (s_add rfl rfl) (p_ rfl (s_sub rfl rfl) (a_ (.int .i64 (w64 ((w64 (a1 + (w64 ((w64 (Int.tdiv (w64 (a2 - a1)) 4)) * 2)))) - 1))) rfl (f_nil (f_block (f_loop (f_keep [0, 1, 8, 9, 10, 11] (s333_l0 FUEL a0 a1 (w64 (a2 - a1)) H.n p3.1 (w64 ((w64 (a1 + (w64 ((w64 (Int.tdiv (w64 (a2 - a1)) 4)) * 2)))) - 1)) p3.2))))))))))))
 ·exact kF 17 h1 rfl (f_skip (f_end (.nil) rfl))

/- 368 slices.order2CmpFunc[congou/sketch.Count] -/
theorem ok368 : FnOk prog 368 := ⟨⟨f368, func368, by kernel_rfl, rfl⟩⟩
theorem sim368 {app : App} (happ : AppSim prog app) {a0 : Sl} {a1 : Int} {a2 : Int} {a3b : Nat} {a3o : Nat} {a4 : AV} {H : Hp} {p : (Int × Int) × Hp} (h : r368 app a0 a1 a2 a3b a3o a4 H = some p) : CallSim prog 368 [.sl a0, .int .i64 a1, .int .i64 a2, .ptr a3b a3o, a4] H (.tup [.int .i64 p.1.1, .int .i64 p.1.2]) p.2 := by
 refine callSim (fn := f368) (ret := ret368) func368 rfl Tryz.ntmps368 rfl ?_ h
 unfold r368
 refine q_ (a_ (.int .i64 0) rfl (a_ (.int .i64 0) rfl (f_nil (f_seq (f_seq (f_ck fun g1 => f_bind fun x2 hx2 => f_bind fun x3 hx3 => f_bind fun x4 hx4 => f_ck fun g5 => f_bind fun x6 hx6 => f_bind fun x7 hx7 => f_bind fun x8 hx8 => f_bind fun p9 hp9 => ?_))))))
 refine f_bind fun x10 hx10 => f_draw (Φ := fun _ => True) (lim := 1000000) [0, 0, 0, 0, 1, 0, 0, 0, 1, 2, 0] (tm a4 rfl (tm (.sl a0) rfl (tm (.int .i64 a2) rfl (t_ rfl (fun _ => s_idx underlying58 ty63 rfl rfl g1) (tr rfl (s_loads underlying63 rfl ty63 rfl (lds_cons (ldI_eq hx2) (lds_cons (ldI_eq hx3) (lds_cons (ldI_eq hx4) (lds_nil))))) (tm (.sl a0) rfl (tm (.int .i64 a1) rfl (t_ rfl (fun _ => s_idx underlying58 ty63 rfl rfl g5) (tr rfl (s_loads underlying63 rfl ty63 rfl (lds_cons (ldI_eq hx6) (lds_cons (ldI_eq hx7) (lds_cons (ldI_eq hx8) (lds_nil))))) (Trc.eff rfl rfl rfl (fun _ => trivial) (s_callv happ rfl rfl hp9) (Trc.know 21 rfl (asI_eq hx10) (t_ rfl (fun _ => s_lss rfl rfl) (Trc.nil (fun _ => trivial)))))))))))))) rfl (by decide +kernel) mixed ?_
 refine f_if (fun h11 => ?_) (fun h11 => ?_)
 ·refine kT 22 h11 rfl (q_ (m_ (.ptr a3b a3o) rfl (p_ rfl (s_nilCheck rfl) (o_bind fun x12 hx12 => p_ rfl (s_load underlying3 rfl rfl (ldI_eq hx12)) (p_ rfl (s_add rfl rfl) (p_ rfl (s_nilCheck rfl) (o_bind fun H13 hH13 => p_ rfl (s_store (s := 1) ty3 rfl rfl rfl hH13) (n_ (m_ (.int .i64 a2) rfl ?_)))))))))
  exact m_ (.int .i64 a1) rfl (a_ (.int .i64 a2) rfl (a_ (.int .i64 a1) rfl (f_nil (f_ret (.tmp rfl (.tmp rfl (.nil))) rfl))))
 ·exact kF 22 h11 rfl (f_skip (q_ (m_ (.int .i64 a1) rfl (m_ (.int .i64 a2) rfl (a_ (.int .i64 a1) rfl (a_ (.int .i64 a2) rfl (f_nil (f_ret (.tmp rfl (.tmp rfl (.nil))) rfl))))))))

/- 356 slices.medianCmpFunc[congou/sketch.Count] -/
theorem ok356 : FnOk prog 356 := ⟨⟨f356, func356, by kernel_rfl, rfl⟩⟩
theorem sim356 {app : App} (happ : AppSim prog app) {a0 : Sl} {a1 : Int} {a2 : Int} {a3 : Int} {a4b : Nat} {a4o : Nat} {a5 : AV} {H : Hp} {p : Int × Hp} (h : r356 app a0 a1 a2 a3 a4b a4o a5 H = some p) : CallSim prog 356 [.sl a0, .int .i64 a1, .int .i64 a2, .int .i64 a3, .ptr a4b a4o, a5] H (.int .i64 p.1) p.2 := by
 refine callSim (fn := f356) (ret := ret356) func356 rfl Tryz.ntmps356 rfl ?_ h
 unfold r356
 refine q_ (a_ (.int .i64 0) rfl (n_ (m_ (.sl a0) rfl (m_ (.int .i64 a1) rfl (m_ (.int .i64 a2) rfl (m_ (.ptr a4b a4o) rfl (m_ a5 rfl (o_bind fun p1 hp1 => p_ rfl (s_callF rfl ok368 (sim368 happ hp1)) (m_ (.tup [.int .i64 p1.1.1, .int .i64 p1.1.2]) rfl (p_ rfl (s_extract (r := .int .i64 p1.1.1) rfl rfl) (p_ rfl (s_extract (r := .int .i64 p1.1.2) rfl rfl) ?_)))))))))))
 refine a_ (.int .i64 p1.1.1) rfl (a_ (.int .i64 p1.1.2) rfl (n_ (m_ (.sl a0) rfl (m_ (.int .i64 p1.1.2) rfl (m_ (.int .i64 a3) rfl (m_ (.ptr a4b a4o) rfl (m_ a5 rfl (o_bind fun p2 hp2 => p_ rfl (s_callF rfl ok368 (sim368 happ hp2)) (m_ (.tup [.int .i64 p2.1.1, .int .i64 p2.1.2]) rfl (p_ rfl (s_extract (r := .int .i64 p2.1.1) rfl rfl) (p_ rfl (s_extract (r := .int .i64 p2.1.2) rfl rfl) (a_ (.int .i64 p2.1.1) rfl ?_))))))))))))
 refine a_ (.int .i64 p2.1.2) rfl (n_ (m_ (.sl a0) rfl (m_ (.int .i64 p1.1.1) rfl (m_ (.int .i64 p2.1.1) rfl (m_ (.ptr a4b a4o) rfl (m_ a5 rfl (o_bind fun p3 hp3 => p_ rfl (s_callF rfl ok368 (sim368 happ hp3)) (m_ (.tup [.int .i64 p3.1.1, .int .i64 p3.1.2]) rfl (p_ rfl (s_extract (r := .int .i64 p3.1.1) rfl rfl) (p_ rfl (s_extract (r := .int .i64 p3.1.2) rfl rfl) (a_ (.int .i64 p3.1.1) rfl (a_ (.int .i64 p3.1.2) rfl ?_))))))))))))
 exact n_ (m_ (.int .i64 p3.1.2) rfl (a_ (.int .i64 p3.1.2) rfl (f_nil (f_ret (.tmp rfl (.nil)) rfl))))

/- 355 slices.medianAdjacentCmpFunc[congou/sketch.Count] -/
theorem ok355 : FnOk prog 355 := ⟨⟨f355, func355, by kernel_rfl, rfl⟩⟩
theorem sim355 {app : App} (happ : AppSim prog app) {a0 : Sl} {a1 : Int} {a2b : Nat} {a2o : Nat} {a3 : AV} {H : Hp} {p : Int × Hp} (h : r355 app a0 a1 a2b a2o a3 H = some p) : CallSim prog 355 [.sl a0, .int .i64 a1, .ptr a2b a2o, a3] H (.int .i64 p.1) p.2 := by
 refine callSim (fn := f355) (ret := ret355) func355 rfl Tryz.ntmps355 rfl ?_ h
 unfold r355
 refine q_ (a_ (.int .i64 0) rfl (n_ (m_ (.sl a0) rfl (m_ (.int .i64 a1) rfl (p_ rfl (s_sub rfl rfl) (m_ (.int .i64 a1) rfl (m_ (.int .i64 a1) rfl (p_ rfl (s_add rfl rfl) (m_ (.ptr a2b a2o) rfl (m_ a3 rfl (o_bind fun p1 hp1 => p_ rfl (s_callF rfl ok356 (sim356 happ hp1)) ?_)))))))))))
 exact a_ (.int .i64 p1.1) rfl (f_nil (f_ret (.tmp rfl (.nil)) rfl))

/- 334 slices.choosePivotCmpFunc[congou/sketch.Count] -/
theorem ok334 : FnOk prog 334 := ⟨⟨f334, func334, by kernel_rfl, rfl⟩⟩
theorem s334_j1 {app : App} (happ : AppSim prog app) (v1 : Nat) (v2 : Int) (H : Hp) : Fin prog f334 ret334 63 (todoAt (bodyOf f334) [1, 1, 1, 1, 1, 1, 1] []) [(11, .ptr v1 0), (13, .int .i64 v2)] H (r334_j1 app v1 v2 H) := by
 unfold r334_j1
 refine q_ (o_bind fun x1 hx1 => p_ rfl (s_load underlying3 rfl rfl (ldI_eq hx1)) (f_nil (f_block (q_ (p_ rfl (s_eql rfl rfl) (a_ (.bool (decide (x1 = 0))) rfl (f_nil ?_)))))))
 refine f_if (fun h2 => ?_) (fun h2 => ?_)
 ·exact kT 57 h2 rfl (q_ (m_ (.int .i64 v2) rfl (a_ (.int .i64 v2) rfl (a_ (.int .i64 1) rfl (f_nil (f_ret (.tmp rfl (.tmp rfl (.nil))) rfl))))))
 ·refine kF 57 h2 rfl (q_ (p_ rfl (s_eql rfl rfl) (a_ (.bool (decide (x1 = 12))) rfl (f_nil ?_))))
  refine f_if (fun h3 => ?_) (fun h3 => ?_)
  ·exact kT 60 h3 rfl (q_ (m_ (.int .i64 v2) rfl (a_ (.int .i64 v2) rfl (a_ (.int .i64 2) rfl (f_nil (f_ret (.tmp rfl (.tmp rfl (.nil))) rfl))))))
  ·exact kF 60 h3 rfl (q_ (m_ (.int .i64 v2) rfl (a_ (.int .i64 v2) rfl (a_ (.int .i64 0) rfl (f_nil (f_ret (.tmp rfl (.tmp rfl (.nil))) rfl))))))

theorem s334_j0 {app : App} (happ : AppSim prog app) (v1 : Sl) (v2 : AV) (v3 : Nat) (v4 v5 v6 : Int) (H : Hp) : Fin prog f334 ret334 63 (todoAt (bodyOf f334) [1, 1, 1, 1, 1, 1, 0, 1, 0, 1] []) [(0, .sl v1), (3, v2), (11, .ptr v3 0), (12, .int .i64 v4), (13, .int .i64 v5), (14, .int .i64 v6)] H (r334_j0 app v1 v2 v3 v4 v5 v6 H) := by
 unfold r334_j0
 exact f_region (m_ (.sl v1) rfl (m_ (.int .i64 v4) rfl (m_ (.int .i64 v5) rfl (m_ (.int .i64 v6) rfl (m_ v2 rfl (o_bind fun p1 hp1 => p_ rfl (s_callF rfl ok356 (sim356 happ hp1)) (a_ (.int .i64 p1.1) rfl (f_nil (f_keep [11, 13] (s334_j1 happ v3 p1.1 p1.2))))))))))

theorem sim334 {app : App} (happ : AppSim prog app) {a0 : Sl} {a1 : Int} {a2 : Int} {a3 : AV} {H : Hp} {p : (Int × Int) × Hp} (h : r334 app a0 a1 a2 a3 H = some p) : CallSim prog 334 [.sl a0, .int .i64 a1, .int .i64 a2, a3] H (.tup [.int .i64 p.1.1, .int .i64 p.1.2]) p.2 := by
 refine callSim (fn := f334) (ret := ret334) func334 rfl Tryz.ntmps334 rfl ?_ h
 unfold r334
 refine q_ (a_ (.int .i64 0) rfl (a_ (.int .i64 0) rfl (n_ (m_ (.int .i64 a2) rfl (m_ (.int .i64 a1) rfl (p_ rfl (s_sub rfl rfl) (a_ (.int .i64 (w64 (a2 - a1))) rfl (n_ (p_ rfl (s_alloc (zs := [.int .i64 0]) ty3 rfl rfl) (o_hp fun H1 hH1 => ?_))))))))))
 refine n_ (m_ (.int .i64 a1) rfl (m_ (.int .i64 (w64 (a2 - a1))) rfl (p_ rfl (s_quo rfl rfl (by decide)) (p_ rfl (s_mul rfl rfl) (p_ rfl (s_add rfl rfl) (a_ (.int .i64 (w64 (a1 + (w64 ((w64 (Int.tdiv (w64 (a2 - a1)) 4)) * 1))))) rfl (n_ (m_ (.int .i64 a1) rfl (m_ (.int .i64 (w64 (a2 - a1))) rfl (p_ rfl (s_quo rfl rfl (by decide)) (p_ rfl (s_mul rfl rfl) ?_)))))))))))
 refine p_ rfl (s_add rfl rfl) (a_ (.int .i64 (w64 (a1 + (w64 ((w64 (Int.tdiv (w64 (a2 - a1)) 4)) * 2))))) rfl (n_ (m_ (.int .i64 a1) rfl (m_ (.int .i64 (w64 (a2 - a1))) rfl (p_ rfl (s_quo rfl rfl (by decide)) (p_ rfl (s_mul rfl rfl) (p_ rfl (s_add rfl rfl) (a_ (.int .i64 (w64 (a1 + (w64 ((w64 (Int.tdiv (w64 (a2 - a1)) 4)) * 3))))) rfl (f_nil (f_seq (q_ (m_ (.int .i64 (w64 (a2 - a1))) rfl ?_))))))))))))
 refine p_ rfl (s_geq rfl rfl) (f_nil ?_)
 refine f_if (fun h2 => ?_) (fun h2 => ?_)
 ·refine kT 34 h2 rfl (f_seq (q_ (m_ (.int .i64 (w64 (a2 - a1))) rfl (p_ rfl (s_geq rfl rfl) (f_nil ?_)))))
  refine f_if (fun h3 => ?_) (fun h3 => ?_)
  ·refine kT 36 h3 rfl (q_ (m_ (.sl a0) rfl (m_ (.int .i64 (w64 (a1 + (w64 ((w64 (Int.tdiv (w64 (a2 - a1)) 4)) * 1))))) rfl (m_ a3 rfl (o_bind fun p4 hp4 => p_ rfl (s_callF rfl ok355 (sim355 happ hp4)) (a_ (.int .i64 p4.1) rfl (n_ (m_ (.sl a0) rfl (m_ (.int .i64 (w64 (a1 + (w64 ((w64 (Int.tdiv (w64 (a2 - a1)) 4)) * 2))))) rfl (m_ a3 rfl ?_))))))))))
   exact o_bind fun p5 hp5 => p_ rfl (s_callF rfl ok355 (sim355 happ hp5)) (a_ (.int .i64 p5.1) rfl (f_nil (f_region (m_ (.sl a0) rfl (m_ (.int .i64 (w64 (a1 + (w64 ((w64 (Int.tdiv (w64 (a2 - a1)) 4)) * 3))))) rfl (m_ a3 rfl (o_bind fun p6 hp6 => p_ rfl (s_callF rfl ok355 (sim355 happ hp6)) (a_ (.int .i64 p6.1) rfl (f_nil (f_keep [0, 3, 11, 12, 13, 14] (s334_j0 happ a0 a3 H.n p4.1 p5.1 p6.1 p6.2)))))))))))
  ·exact kF 36 h3 rfl (f_skip (f_keep [0, 3, 11, 12, 13, 14] (s334_j0 happ a0 a3 H.n (w64 (a1 + (w64 ((w64 (Int.tdiv (w64 (a2 - a1)) 4)) * 1)))) (w64 (a1 + (w64 ((w64 (Int.tdiv (w64 (a2 - a1)) 4)) * 2)))) (w64 (a1 + (w64 ((w64 (Int.tdiv (w64 (a2 - a1)) 4)) * 3)))) H1)))
 ·exact kF 34 h2 rfl (f_skip (f_keep [11, 13] (s334_j1 happ H.n (w64 (a1 + (w64 ((w64 (Int.tdiv (w64 (a2 - a1)) 4)) * 2)))) H1)))

/- 335 slices.reverseRangeCmpFunc[congou/sketch.Count] -/
theorem ok335 : FnOk prog 335 := ⟨⟨f335, func335, by kernel_rfl, rfl⟩⟩
theorem s335_l0 : ∀ (k_ : Nat) (v1 : Sl) (v2 v3 : Int) (H : Hp), Fin prog f335 ret335 34 (todoAt (bodyOf f335) [1, 1, 0, 0] []) [(0, .sl v1), (8, .int .i64 v2), (9, .int .i64 v3)] H (r335_l0 k_ v1 v2 v3 H) := by
 intro k_
 induction k_ with
 | zero => intro _ _ _ _; exact f_none
 | succ k_ ih =>
  intro v1 v2 v3 H
  rw [r335_l0]
  refine f_seq (q_ (m_ (.int .i64 v2) rfl (m_ (.int .i64 v3) rfl (p_ rfl (s_lss rfl rfl) (f_nil ?_)))))
  refine f_if (fun h1 => ?_) (fun h1 => ?_)
  ·refine kT 15 h1 rfl (f_skip (f_block (f_seq (f_ck fun g2 => f_bind fun x3 hx3 => f_bind fun x4 hx4 => f_bind fun x5 hx5 => f_ck fun g6 => f_bind fun x7 hx7 => f_bind fun x8 hx8 => f_bind fun x9 hx9 => f_ck fun g10 => f_bind fun H11 hH11 => f_ck fun g12 => ?_))))
   refine f_bind fun H13 hH13 => f_draw (Φ := fun _ => True) (lim := 1000000) [0, 0, 0, 0, 0, 0, 0, 1, 0, 0, 0, 1, 0, 2, 0, 2] (tm (.sl v1) rfl (tm (.int .i64 v2) rfl (tm (.sl v1) rfl (tm (.int .i64 v3) rfl (tm (.sl v1) rfl (tm (.int .i64 v3) rfl (t_ rfl (fun _ => s_idx underlying58 ty63 rfl rfl g2) (tr rfl (s_loads underlying63 rfl ty63 rfl (lds_cons (ldI_eq hx3) (lds_cons (ldI_eq hx4) (lds_cons (ldI_eq hx5) (lds_nil))))) (tm (.sl v1) rfl (tm (.int .i64 v2) rfl (t_ rfl (fun _ => s_idx underlying58 ty63 rfl rfl g6) (tr rfl (s_loads underlying63 rfl ty63 rfl (lds_cons (ldI_eq hx7) (lds_cons (ldI_eq hx8) (lds_cons (ldI_eq hx9) (lds_nil))))) (t_ rfl (fun _ => s_idx underlying58 ty63 rfl rfl g10) (Trc.eff rfl rfl rfl (fun _ => trivial) (s_stores ty63 rfl rfl rfl rfl hH11 (Nat.le_of_eq (sts_mono hH11).symm)) (t_ rfl (fun _ => s_idx underlying58 ty63 rfl rfl g12) (Trc.eff rfl rfl rfl (fun _ => trivial) (s_stores ty63 rfl rfl rfl rfl hH13 (Nat.le_of_eq (sts_mono hH13).symm)) (Trc.nil (fun _ => trivial)))))))))))))))))) rfl (by decide +kernel) mixed (q_ (m_ (.int .i64 v2) rfl (p_ rfl (s_add rfl rfl) (a_ (.int .i64 (w64 (v2 + 1))) rfl (f_nil (f_region (m_ (.int .i64 v3) rfl (p_ rfl (s_sub rfl rfl) (a_ (.int .i64 (w64 (v3 - 1))) rfl (f_nil (f_inBlock (f_inLoop (f_keep [0, 8, 9] ?_)))))))))))))
   exact ih v1 (w64 (v2 + 1)) (w64 (v3 - 1)) H13
  ·exact kF 15 h1 rfl (f_exit rfl (f_end (.nil) rfl))

theorem sim335 {a0 : Sl} {a1 : Int} {a2 : Int} {a3 : AV} {H : Hp} {p : Unit × Hp} (h : r335 a0 a1 a2 a3 H = some p) : CallSim prog 335 [.sl a0, .int .i64 a1, .int .i64 a2, a3] H (.tup []) p.2 := by
 refine callSim (fn := f335) (ret := ret335) func335 rfl Tryz.ntmps335 rfl ?_ h
 unfold r335
 exact q_ (m_ (.int .i64 a1) rfl (a_ (.int .i64 a1) rfl (n_ (m_ (.int .i64 a2) rfl (p_ rfl (s_sub rfl rfl) (a_ (.int .i64 (w64 (a2 - 1))) rfl (f_nil (f_block (f_loop (f_keep [0, 8, 9] (s335_l0 FUEL a0 a1 (w64 (a2 - 1)) H)))))))))))

end Go.Lt.P10
