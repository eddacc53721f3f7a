/- PRINTED BY A PROGRAM OF OURS: what each function that 'ChestGives' reaches computes on the abstract heap, and that the translated code does just that. Nothing is asked of the input. -/
import Derived.Test.YtopildlfbhfghaaGreatDoorG6P7
set_option linter.unusedVariables false
set_option linter.unusedSimpArgs false
set_option maxRecDepth 100000
set_option maxHeartbeats 4000000
namespace Go.Lt.P10
open Go Go.Lt Go.Proofs Go.Proofs.Tryz
/- 113 (*congou/chest.state).give -/
theorem ok113 : FnOk prog 113 := ⟨⟨f113, func113, by kernel_rfl, rfl⟩⟩
theorem s113_l1 {app : App} (happ : AppSim prog app) : ∀ (k_ v1 v2 : Nat) (v3 : Sl) (v4 v5 : Int) (H : Hp), Fin prog f113 ret113 87 (todoAt (bodyOf f113) [1, 1, 1, 1, 1, 1, 1, 1, 0, 1, 0, 0] []) [(0, .ptr v1 v2), (71, .sl v3), (72, .int .i64 v4), (73, .int .i64 v5)] H (r113_l1 app k_ v1 v2 v3 v4 v5 H) := by
 intro k_
 induction k_ with
 | zero => intro _ _ _ _ _ _; exact f_none
 | succ k_ ih =>
  intro v1 v2 v3 v4 v5 H
  rw [r113_l1]
  refine q_ (p_ rfl (s_lss rfl rfl) (f_nil (f_seq ?_)))
  refine f_if (fun h1 => ?_) (fun h1 => ?_)
  ·refine kT 74 h1 rfl (f_skip (f_seq (f_block (q_ (m_ (.int .i64 v5) rfl (o_ck fun g2 => p_ rfl (s_idx underlying25 ty3 rfl rfl g2) (o_bind fun x3 hx3 => p_ rfl (s_load underlying3 rfl rfl (ldI_eq hx3)) (a_ (.int .i64 v5) rfl (a_ (.int .i64 x3) rfl (f_nil (f_region ?_)))))))))))
   refine m_ (.ptr v1 v2) rfl (p_ rfl (s_nilCheck rfl) (p_ rfl (s_fieldAddr underlying150 rfl ty147 rfl) (o_bind fun x4 hx4 => p_ rfl (s_load underlying147 rfl rfl (ldSl_eq hx4)) (m_ (.int .i64 v5) rfl (m_ (.int .i64 x3) rfl (o_ck fun g5 => p_ rfl (s_idx underlying147 ty186 rfl rfl g5) (p_ rfl (s_fieldAddr underlying186 rfl ty3 rfl) (o_bind fun H6 hH6 => p_ rfl (s_store (s := 1) ty3 rfl rfl rfl hH6) (f_nil (f_inBlock (f_region (p_ rfl (s_add rfl rfl) ?_))))))))))))
   exact m_ (.int .i64 (w64 (v5 + 1))) rfl (f_nil (f_inLoop (f_keep [0, 71, 72, 73] (ih v1 v2 v3 v4 (w64 (v5 + 1)) H6))))
  ·exact kF 74 h1 rfl (f_exit rfl (q_ (a_ (.int .i64 0) rfl (f_nil (f_ret (.tmp rfl (.nil)) rfl)))))

theorem s113_j2 {app : App} (happ : AppSim prog app) (v1 v2 : Nat) (v3 : Sl) (v4 : Bool) (H : Hp) : Fin prog f113 ret113 87 (todoAt (bodyOf f113) [1, 1, 1, 1, 1, 1, 1, 0, 1, 1] []) [(0, .ptr v1 v2), (9, .sl v3), (70, .bool v4)] H (r113_j2 app v1 v2 v3 v4 H) := by
 unfold r113_j2
 refine f_if (fun h1 => ?_) (fun h1 => ?_)
 ·exact bT 70 h1 rfl (q_ (a_ (.int .i64 5) rfl (f_nil (f_ret (.tmp rfl (.nil)) rfl))))
 ·exact bF 70 h1 rfl (f_skip (f_seq (q_ (m_ (.sl v3) rfl (p_ rfl (s_lenS rfl underlying25 rfl) (m_ (.int .i64 0) rfl (f_nil (f_block (f_loop (f_keep [0, 71, 72, 73] (s113_l1 happ FUEL v1 v2 v3 (v3.len : Int) 0 H)))))))))))

theorem s113_j0 {app : App} (happ : AppSim prog app) (v1 v2 : Nat) (v3 v4 v5 : Int) (v6 : Bool) (H : Hp) : Fin prog f113 ret113 87 (todoAt (bodyOf f113) [1, 1, 0, 1] []) [(0, .ptr v1 v2), (5, .int .i64 v3), (6, .int .i64 v4), (7, .int .i64 v5), (35, .bool v6)] H (r113_j0 app v1 v2 v3 v4 v5 v6 H) := by
 unfold r113_j0
 refine f_if (fun h1 => ?_) (fun h1 => ?_)
 ·exact bT 35 h1 rfl (q_ (a_ (.int .i64 4) rfl (f_nil (f_ret (.tmp rfl (.nil)) rfl))))
 ·refine bF 35 h1 rfl (f_skip (q_ (m_ (.ptr v1 v2) rfl (o_bind fun p2 hp2 => p_ rfl (s_callF rfl ok153 (sim153 hp2)) (a_ (.sl p2.1) rfl (n_ (m_ (.sl p2.1) rfl (o_bind fun p3 hp3 => p_ rfl (s_callF rfl ok18 (sim18 hp3)) (a_ (.sl p3.1) rfl ?_)))))))))
  refine n_ (m_ (.sl p3.1) rfl (m_ (.int .i64 v3) rfl (o_ck fun g4 => p_ rfl (s_idx underlying25 ty3 rfl rfl g4) (o_bind fun x5 hx5 => p_ rfl (s_load underlying3 rfl rfl (ldI_eq hx5)) (m_ (.int .i64 v5) rfl (p_ rfl (s_sub rfl rfl) (o_ck fun g6 => p_ rfl (s_idx underlying25 ty3 rfl rfl g6) (o_bind fun H7 hH7 => p_ rfl (s_store (s := 1) ty3 rfl rfl rfl hH7) (f_nil ?_)))))))))
  refine q_ (m_ (.sl p3.1) rfl (m_ (.int .i64 v4) rfl (o_ck fun g8 => p_ rfl (s_idx underlying25 ty3 rfl rfl g8) (o_bind fun x9 hx9 => p_ rfl (s_load underlying3 rfl rfl (ldI_eq hx9)) (m_ (.int .i64 v5) rfl (p_ rfl (s_add rfl rfl) (o_ck fun g10 => p_ rfl (s_idx underlying25 ty3 rfl rfl g10) (o_bind fun H11 hH11 => p_ rfl (s_store (s := 1) ty3 rfl rfl rfl hH11) (f_nil (f_seq ?_))))))))))
  refine q_ (m_ (.sl p2.1) rfl (m_ (.sl p3.1) rfl (m_ (.int .i64 v3) rfl (m_ (.int .i64 v4) rfl (m_ (.int .i64 v5) rfl (p_ rfl (s_build (cs := [.int .i64 v3, .int .i64 v4, .int .i64 v5]) underlying53 ty53 rfl pl53 rfl) (p_ rfl (s_buildSlice (cs := [.int .i64 v3, .int .i64 v4, .int .i64 v5]) underlying54 ty53 (by decide) (by decide) rfl (by decide) rfl) (o_bind fun p12 hp12 => p_ rfl (s_callF rfl ok24 (sim24 hp12)) (m_ (.tup [.bool p12.1.1, .int .i64 p12.1.2]) rfl (p_ rfl (s_extract (r := .bool p12.1.1) rfl rfl) (p_ rfl (s_extract (r := .int .i64 p12.1.2) rfl rfl) (a_ (.bool p12.1.1) rfl (a_ (.int .i64 p12.1.2) rfl ?_)))))))))))))
  refine n_ (m_ (.bool p12.1.1) rfl (p_ rfl (s_not rfl) (m_ (.bool (!p12.1.1)) rfl ?_)))
  refine o_if (fun h13 => ?_) (fun h13 => ?_)
  ·exact o_know 67 rfl (bool_notT h13) (m_ (.int .i64 p12.1.2) rfl (p_ rfl (s_neq rfl rfl) (p_ rfl (s_pickF (v := .bool (decide (p12.1.2 ≠ 0))) rfl rfl) (f_nil (f_keep [0, 9, 70] (s113_j2 happ v1 v2 p3.1 (decide (p12.1.2 ≠ 0)) p12.2))))))
  ·exact o_know 67 rfl (bool_notF h13) (no_ rfl (no_ rfl (p_ rfl (s_pickT (v := .bool true) rfl rfl) (f_nil (f_keep [0, 9, 70] (s113_j2 happ v1 v2 p3.1 true p12.2))))))

theorem sim113 {app : App} (happ : AppSim prog app) {a0b : Nat} {a0o : Nat} {a1_0 : Sl} {a1_1 : Sl} {H : Hp} {p : Int × Hp} (h : r113 app a0b a0o a1_0 a1_1 H = some p) : CallSim prog 113 [.ptr a0b a0o, .agg [.sl a1_0, .sl a1_1]] H (.int .i64 p.1) p.2 := by
 refine callSim (fn := f113) (ret := ret113) func113 rfl Tryz.ntmps113 rfl ?_ h
 unfold r113
 refine q_ (p_ rfl (s_box (v := .agg [.sl a1_0, .sl a1_1]) rfl rfl) (a_ (.int .i64 0) rfl (o_hp fun H1 hH1 => f_nil (f_seq (f_bind fun x2 hx2 => f_ck fun g3 => f_bind fun x4 hx4 => f_bind fun p5 hp5 => f_bind fun x6 hx6 => f_ck fun g7 => f_bind fun x8 hx8 => f_bind fun p9 hp9 => f_bind fun x10 hx10 => ?_)))))
 refine f_ck fun g11 => f_bind fun x12 hx12 => f_ck fun g13 => f_ck fun g14 => f_ck fun g15 => f_ck fun g16 => f_ck fun g17 => f_ck fun g18 => f_ck fun g19 => f_ck fun g20 => f_draw (Φ := fun H_ => H_.ld H.n (0 + 0) = some (.sl x6) ∧ H_.ld x6.b (x6.o + (1 : Int).toNat * 1) = some (.str x8) ∧ H_.ld H.n (0 + 1) = some (.sl x10) ∧ H_.ld x10.b (x10.o + (0 : Int).toNat * 1) = some (.int .i64 x12)) (lim := 1000000) [0, 0, 1, 0, 1, 2, 0, 0, 0, 0, 0, 2, 0, 0, 0, 0, 0, 0, 0] (tm (.ptr a0b a0o) rfl (t_ rfl (fun _ => s_fieldAddr underlying167 rfl ty22 rfl) (tr rfl (s_load underlying22 rfl rfl (ldSl_eq hx2)) (t_ rfl (fun _ => s_idx underlying22 ty9 rfl rfl g3) (tr rfl (s_load underlying9 rfl rfl (ldStr_eq hx4)) (Trc.eff rfl rfl rfl (fun _ => ⟨ldSl_eq g13, ldStr_eq g14, ldSl_eq g15, ldI_eq g16⟩) (s_callF rfl ok154 (sim154 happ hp5)) (tm (.ptr a0b a0o) rfl (t_ rfl (fun _ => s_fieldAddr underlying167 rfl ty22 rfl) (Trc.pure rfl rfl rfl (.inr ⟨by decide +kernel, fun _ hp_ => s_load underlying22 rfl rfl hp_.1⟩) (t_ rfl (fun _ => s_idx underlying22 ty9 rfl rfl g7) (Trc.pure rfl rfl rfl (.inr ⟨by decide +kernel, fun _ hp_ => s_load underlying9 rfl rfl hp_.2.1⟩) (Trc.eff rfl rfl rfl (fun _ => ⟨ldSl_eq hx6, ldStr_eq hx8, ldSl_eq g17, ldI_eq g18⟩) (s_callF rfl ok154 (sim154 happ hp9)) (t_ rfl (fun _ => s_fieldAddr underlying167 rfl ty25 rfl) (Trc.pure rfl rfl rfl (.inr ⟨by decide +kernel, fun _ hp_ => s_load underlying25 rfl rfl hp_.2.2.1⟩) (t_ rfl (fun _ => s_idx underlying25 ty3 rfl rfl g11) (Trc.pure rfl rfl rfl (.inr ⟨by decide +kernel, fun _ hp_ => s_load underlying3 rfl rfl hp_.2.2.2⟩) (t_ rfl (fun _ => s_as (v := .int .i64 p5.1) rfl) (t_ rfl (fun _ => s_as (v := .int .i64 p9.1) rfl) (t_ rfl (fun _ => s_as (v := .int .i64 x12) rfl) (Trc.nil (fun _ => ⟨ldSl_eq g19, ldStr_eq g20, ldSl_eq hx10, ldI_eq hx12⟩))))))))))))))))))))) rfl (by decide +kernel) mixed (f_seq (q_ (m_ (.int .i64 p5.1) rfl (p_ rfl (s_lss rfl rfl) ?_))))
 refine m_ (.bool (decide (p5.1 < 0))) rfl ?_
 refine o_if (fun h21 => ?_) (fun h21 => ?_)
 ·exact o_know 32 rfl (dec_true h21) (no_ rfl (no_ rfl (p_ rfl (s_pickT (v := .bool true) rfl rfl) (f_nil (f_keep [0, 5, 6, 7, 35] (s113_j0 happ a0b a0o p5.1 p9.1 x12 true p9.2))))))
 ·exact o_know 32 rfl (dec_false h21) (m_ (.int .i64 p9.1) rfl (p_ rfl (s_lss rfl rfl) (p_ rfl (s_pickF (v := .bool (decide (p9.1 < 0))) rfl rfl) (f_nil (f_keep [0, 5, 6, 7, 35] (s113_j0 happ a0b a0o p5.1 p9.1 x12 (decide (p9.1 < 0)) p9.2))))))

/- 114 (*congou/chest.state).order -/
theorem ok114 : FnOk prog 114 := ⟨⟨f114, func114, by kernel_rfl, rfl⟩⟩
theorem sim114 {app : App} (happ : AppSim prog app) {a0b : Nat} {a0o : Nat} {a1_0 : Sl} {a1_1 : Sl} {H : Hp} {p : Int × Hp} (h : r114 app a0b a0o a1_0 a1_1 H = some p) : CallSim prog 114 [.ptr a0b a0o, .agg [.sl a1_0, .sl a1_1]] H (.int .i64 p.1) p.2 := by
 refine callSim (fn := f114) (ret := ret114) func114 rfl Tryz.ntmps114 rfl ?_ h
 unfold r114
 refine q_ (p_ rfl (s_box (v := .agg [.sl a1_0, .sl a1_1]) rfl rfl) (a_ (.int .i64 0) rfl (o_hp fun H1 hH1 => f_nil (f_seq (q_ (m_ (.ptr a0b a0o) rfl (p_ rfl (s_fieldAddr underlying167 rfl ty22 rfl) (o_bind fun x2 hx2 => p_ rfl (s_load underlying22 rfl rfl (ldSl_eq hx2)) (o_ck fun g3 => p_ rfl (s_idx underlying22 ty9 rfl rfl g3) (o_bind fun x4 hx4 => ?_))))))))))
 refine p_ rfl (s_load underlying9 rfl rfl (ldStr_eq hx4)) (o_bind fun p5 hp5 => p_ rfl (s_callF rfl ok154 (sim154 happ hp5)) (a_ (.int .i64 p5.1) rfl (f_nil (f_block (q_ (m_ (.int .i64 p5.1) rfl (p_ rfl (s_lss rfl rfl) (a_ (.bool (decide (p5.1 < 0))) rfl (f_nil ?_)))))))))
 refine f_if (fun h6 => ?_) (fun h6 => ?_)
 ·exact kT 33 h6 rfl (q_ (a_ (.int .i64 4) rfl (f_nil (f_ret (.tmp rfl (.nil)) rfl))))
 ·refine kF 33 h6 rfl (q_ (m_ (.ptr a0b a0o) rfl (p_ rfl (s_nilCheck rfl) (p_ rfl (s_fieldAddr underlying150 rfl ty147 rfl) (o_bind fun x7 hx7 => p_ rfl (s_load underlying147 rfl rfl (ldSl_eq hx7)) (m_ (.int .i64 p5.1) rfl (o_ck fun g8 => p_ rfl (s_idx underlying147 ty186 rfl rfl g8) (p_ rfl (s_fieldAddr underlying186 rfl ty3 rfl) (o_bind fun x9 hx9 => p_ rfl (s_load underlying3 rfl rfl (ldI_eq hx9)) (p_ rfl (s_eql rfl rfl) ?_))))))))))
  refine a_ (.bool (decide (x9 = 0))) rfl (f_nil ?_)
  refine f_if (fun h10 => ?_) (fun h10 => ?_)
  ·exact kT 36 h10 rfl (q_ (a_ (.int .i64 5) rfl (f_nil (f_ret (.tmp rfl (.nil)) rfl))))
  ·refine kF 36 h10 rfl (q_ (m_ (.ptr a0b a0o) rfl (p_ rfl (s_nilCheck rfl) (p_ rfl (s_fieldAddr underlying150 rfl ty25 rfl) (o_bind fun x11 hx11 => p_ rfl (s_load underlying25 rfl rfl (ldSl_eq hx11)) (p_ rfl (s_lenS rfl underlying25 rfl) (p_ rfl (s_eql rfl rfl) (a_ (.bool (decide ((x11.len : Int) = 40))) rfl (f_nil ?_)))))))))
   refine f_if (fun h12 => ?_) (fun h12 => ?_)
   ·exact kT 46 h12 rfl (q_ (a_ (.int .i64 7) rfl (f_nil (f_ret (.tmp rfl (.nil)) rfl))))
   ·refine kF 46 h12 rfl (q_ (m_ (.ptr a0b a0o) rfl (p_ rfl (s_nilCheck rfl) (p_ rfl (s_fieldAddr underlying150 rfl ty147 rfl) (o_bind fun x13 hx13 => p_ rfl (s_load underlying147 rfl rfl (ldSl_eq hx13)) (m_ (.int .i64 p5.1) rfl (o_ck fun g14 => p_ rfl (s_idx underlying147 ty186 rfl rfl g14) (p_ rfl (s_fieldAddr underlying186 rfl ty3 rfl) (o_bind fun x15 hx15 => p_ rfl (s_load underlying3 rfl rfl (ldI_eq hx15)) (p_ rfl (s_sub rfl rfl) ?_))))))))))
    refine o_ck fun g16 => p_ rfl (s_idx underlying147 ty186 rfl rfl g16) (p_ rfl (s_fieldAddr underlying186 rfl ty3 rfl) (o_bind fun H17 hH17 => p_ rfl (s_store (s := 1) ty3 rfl rfl rfl hH17) (f_nil (f_region (m_ (.ptr a0b a0o) rfl (m_ (.ptr a0b a0o) rfl (p_ rfl (s_nilCheck rfl) (p_ rfl (s_fieldAddr underlying150 rfl ty25 rfl) (o_bind fun x18 hx18 => p_ rfl (s_load underlying25 rfl rfl (ldSl_eq hx18)) (m_ (.int .i64 p5.1) rfl (p_ rfl (s_buildSlice (cs := [.int .i64 p5.1]) underlying25 ty3 (by decide) (by decide) rfl (by decide) rfl) (o_bind fun x19 hx19 => ?_))))))))))))
    exact p_ rfl (s_ap rfl rfl underlying25 underlying25 ty3 rfl rfl rfl rfl rfl rfl rfl hx19) (p_ rfl (s_nilCheck rfl) (p_ rfl (s_fieldAddr underlying150 rfl ty25 rfl) (o_bind fun H20 hH20 => p_ rfl (s_store (s := 1) ty25 rfl rfl rfl hH20) (f_nil (f_inBlock (q_ (a_ (.int .i64 0) rfl (f_nil (f_ret (.tmp rfl (.nil)) rfl)))))))))

/- 115 (*congou/chest.state).taste -/
theorem ok115 : FnOk prog 115 := ⟨⟨f115, func115, by kernel_rfl, rfl⟩⟩
theorem s115_j1 (v1 v2 : Nat) (v3 v4 v5 : Int) (v6 : Bool) (H : Hp) : Fin prog f115 ret115 56 (todoAt (bodyOf f115) [1, 1, 1, 1, 0, 0, 1] []) [(0, .ptr v1 v2), (5, .int .i64 v3), (6, .int .i64 v4), (7, .int .i64 v5), (33, .bool v6)] H (r115_j1 v1 v2 v3 v4 v5 v6 H) := by
 unfold r115_j1
 refine f_if (fun h1 => ?_) (fun h1 => ?_)
 ·exact bT 33 h1 rfl (q_ (a_ (.int .i64 2) rfl (f_nil (f_ret (.tmp rfl (.nil)) rfl))))
 ·refine bF 33 h1 rfl (q_ (m_ (.int .i64 v5) rfl (p_ rfl (s_eql rfl rfl) (a_ (.bool (decide (v5 = 16))) rfl (f_nil ?_)))))
  refine f_if (fun h2 => ?_) (fun h2 => ?_)
  ·exact kT 40 h2 rfl (q_ (a_ (.int .i64 7) rfl (f_nil (f_ret (.tmp rfl (.nil)) rfl))))
  ·refine kF 40 h2 rfl (f_skip (f_inBlock (f_seq (f_ck fun g3 => f_ck fun g4 => f_bind fun x5 hx5 => f_ck fun g6 => f_ck fun g7 => f_bind fun H8 hH8 => f_draw (Φ := fun _ => True) (lim := 1000000) [0, 0, 0, 0, 0, 0, 0, 1, 0, 0, 0, 0, 0, 2] (tm (.ptr v1 v2) rfl (tm (.int .i64 v3) rfl (tm (.int .i64 v4) rfl (t_ rfl (fun _ => s_nilCheck rfl) (t_ rfl (fun _ => s_fieldAddr underlying150 rfl ty148 rfl) (t_ rfl (fun _ => s_idxA underlying148 ty101 rfl rfl g3) (t_ rfl (fun _ => s_idxA underlying101 ty3 rfl rfl g4) (tr rfl (s_load underlying3 rfl rfl (ldI_eq hx5)) (t_ rfl (fun _ => s_add rfl rfl) (t_ rfl (fun _ => s_nilCheck rfl) (t_ rfl (fun _ => s_fieldAddr underlying150 rfl ty148 rfl) (t_ rfl (fun _ => s_idxA underlying148 ty101 rfl rfl g6) (t_ rfl (fun _ => s_idxA underlying101 ty3 rfl rfl g7) (Trc.eff rfl rfl rfl (fun _ => trivial) (s_store (s := 1) ty3 rfl rfl rfl hH8) (Trc.nil (fun _ => trivial)))))))))))))))) rfl (by decide +kernel) mixed (q_ (a_ (.int .i64 0) rfl (f_nil ?_)))))))
   exact f_ret (.tmp rfl (.nil)) rfl

theorem s115_l0 : ∀ (k_ v1 v2 : Nat) (v3 v4 v5 v6 v7 v8 v9 v10 : Int) (H : Hp), Fin prog f115 ret115 56 (todoAt (bodyOf f115) [1, 1, 1, 0, 1, 0, 0] []) [(0, .ptr v1 v2), (5, .int .i64 v3), (6, .int .i64 v4), (7, .int .i64 v5), (21, .agg [.int .i64 v6, .int .i64 v7, .int .i64 v8, .int .i64 v9]), (22, .int .i64 v10)] H (r115_l0 k_ v1 v2 v3 v4 v5 v6 v7 v8 v9 v10 H) := by
 intro k_
 induction k_ with
 | zero => intro _ _ _ _ _ _ _ _ _ _ _; exact f_none
 | succ k_ ih =>
  intro v1 v2 v3 v4 v5 v6 v7 v8 v9 v10 H
  rw [r115_l0]
  refine q_ (p_ rfl (s_lss rfl rfl) (f_nil (f_seq ?_)))
  refine f_if (fun h1 => ?_) (fun h1 => ?_)
  ·refine kT 23 h1 rfl (f_skip (f_seq (f_block (q_ (o_ck fun g2 => o_bind fun x3 hx3 => o_bind fun x4 hx4 => o_ck fun g5 => o_bind fun x6 hx6 => o_bind fun x7 hx7 => o_bind fun x8 hx8 => o_bind fun x9 hx9 => p_ rfl (s_index underlying148 underlying101 ty101 rfl rfl g2 hx3) ?_)))))
   refine o_know 24 rfl (aggOf2 hx4 g5 (gete hx6 (asI_eq hx7)) (gete hx8 (asI_eq hx9))) (p_ rfl (s_alloc (zs := [.int .i64 0, .int .i64 0]) ty101 rfl rfl) (o_bind fun H10 hH10 => p_ rfl (s_stores ty101 rfl rfl rfl rfl hH10 (Nat.le_of_eq (sts_mono hH10).symm)) (f_nil (f_region (m_ (.int .i64 v5) rfl (p_ rfl (s_idxA underlying101 ty3 rfl rfl (by decide)) (o_bind fun x11 hx11 => p_ rfl (s_load underlying3 rfl rfl (ldI_eq hx11)) (p_ rfl (s_idxA underlying101 ty3 rfl rfl (by decide)) (o_bind fun x12 hx12 => p_ rfl (s_load underlying3 rfl rfl (ldI_eq hx12)) (p_ rfl (s_add rfl rfl) (p_ rfl (s_add rfl rfl) (a_ (.int .i64 (w64 (v5 + (w64 (x11 + x12))))) rfl ?_))))))))))))
   exact f_nil (f_inBlock (f_region (p_ rfl (s_add rfl rfl) (m_ (.int .i64 (w64 (v10 + 1))) rfl (f_nil (f_inLoop (f_keep [0, 5, 6, 7, 21, 22] (ih v1 v2 v3 v4 (w64 (v5 + (w64 (x11 + x12)))) v6 v7 v8 v9 (w64 (v10 + 1)) H10))))))))
  ·refine kF 23 h1 rfl (f_exit rfl (f_seq (f_block (q_ (m_ (.int .i64 v3) rfl (p_ rfl (s_gtr rfl rfl) (m_ (.bool (decide (1 < v3))) rfl ?_)))))))
   refine o_if (fun h13 => ?_) (fun h13 => ?_)
   ·exact o_know 36 rfl (dec_true h13) (no_ rfl (no_ rfl (p_ rfl (s_pickT (v := .bool true) rfl rfl) (a_ (.bool true) rfl (f_nil (f_keep [0, 5, 6, 7, 33] (s115_j1 v1 v2 v3 v4 v5 true H)))))))
   ·exact o_know 36 rfl (dec_false h13) (m_ (.int .i64 v4) rfl (p_ rfl (s_gtr rfl rfl) (p_ rfl (s_pickF (v := .bool (decide (1 < v4))) rfl rfl) (a_ (.bool (decide (1 < v4))) rfl (f_nil (f_keep [0, 5, 6, 7, 33] (s115_j1 v1 v2 v3 v4 v5 (decide (1 < v4)) H)))))))

theorem sim115 {a0b : Nat} {a0o : Nat} {a1_0 : Sl} {a1_1 : Sl} {H : Hp} {p : Int × Hp} (h : r115 a0b a0o a1_0 a1_1 H = some p) : CallSim prog 115 [.ptr a0b a0o, .agg [.sl a1_0, .sl a1_1]] H (.int .i64 p.1) p.2 := by
 refine callSim (fn := f115) (ret := ret115) func115 rfl Tryz.ntmps115 rfl ?_ h
 unfold r115
 refine q_ (p_ rfl (s_box (v := .agg [.sl a1_0, .sl a1_1]) rfl rfl) (a_ (.int .i64 0) rfl (o_hp fun H1 hH1 => f_nil (f_seq (f_bind fun x2 hx2 => f_ck fun g3 => f_bind fun x4 hx4 => f_bind fun x5 hx5 => f_ck fun g6 => f_bind fun x7 hx7 => f_draw (Φ := fun _ => True) (lim := 1000000) [0, 1, 0, 1, 0, 1, 0, 1, 0, 0] (t_ rfl (fun _ => s_fieldAddr underlying167 rfl ty25 rfl) (tr rfl (s_load underlying25 rfl rfl (ldSl_eq hx2)) (t_ rfl (fun _ => s_idx underlying25 ty3 rfl rfl g3) (tr rfl (s_load underlying3 rfl rfl (ldI_eq hx4)) (t_ rfl (fun _ => s_fieldAddr underlying167 rfl ty25 rfl) (tr rfl (s_load underlying25 rfl rfl (ldSl_eq hx5)) (t_ rfl (fun _ => s_idx underlying25 ty3 rfl rfl g6) (tr rfl (s_load underlying3 rfl rfl (ldI_eq hx7)) (t_ rfl (fun _ => s_as (v := .int .i64 x4) rfl) (t_ rfl (fun _ => s_as (v := .int .i64 x7) rfl) (Trc.nil (fun _ => trivial)))))))))))) rfl (by decide +kernel) mixed (q_ ?_))))))
 refine a_ (.int .i64 0) rfl (f_nil (f_seq (q_ (m_ (.ptr a0b a0o) rfl (p_ rfl (s_nilCheck rfl) (p_ rfl (s_fieldAddr underlying150 rfl ty148 rfl) (o_bind fun x8 hx8 => o_bind fun x9 hx9 => o_bind fun x10 hx10 => o_bind fun x11 hx11 => p_ rfl (s_loads underlying148 rfl ty148 rfl (lds_cons (ldI_eq hx8) (lds_cons (ldI_eq hx9) (lds_cons (ldI_eq hx10) (lds_cons (ldI_eq hx11) (lds_nil)))))) (m_ (.int .i64 0) rfl (f_nil (f_block ?_))))))))))
 exact f_loop (f_keep [0, 5, 6, 7, 21, 22] (s115_l0 FUEL a0b a0o x4 x7 0 x8 x9 x10 x11 0 H1))

/- 230 slices.Index[[][2]int,[2]int] -/
theorem ok230 : FnOk prog 230 := ⟨⟨f230, func230, by kernel_rfl, rfl⟩⟩
theorem s230_l0 : ∀ (k_ : Nat) (v1 : Sl) (v2 : Nat) (v3 v4 : Int) (H : Hp), Fin prog f230 ret230 19 (todoAt (bodyOf f230) [1, 0, 1, 0, 0] []) [(0, .sl v1), (3, .ptr v2 0), (7, .int .i64 v3), (8, .int .i64 v4)] H (r230_l0 k_ v1 v2 v3 v4 H) := by
 intro k_
 induction k_ with
 | zero => intro _ _ _ _ _; exact f_none
 | succ k_ ih =>
  intro v1 v2 v3 v4 H
  rw [r230_l0]
  refine q_ (p_ rfl (s_lss rfl rfl) (f_nil (f_seq ?_)))
  refine f_if (fun h1 => ?_) (fun h1 => ?_)
  ·refine kT 9 h1 rfl (f_skip (f_seq (f_block (q_ (m_ (.int .i64 v4) rfl (a_ (.int .i64 v4) rfl (f_nil (f_seq (f_bind fun x2 hx2 => f_bind fun x3 hx3 => f_ck fun g4 => f_bind fun x5 hx5 => f_bind fun x6 hx6 => ?_)))))))))
   refine f_draw (Φ := fun _ => True) (lim := 1000000) [1, 0, 0, 0, 1, 0] (tr rfl (s_loads underlying101 rfl ty101 rfl (lds_cons (ldI_eq hx2) (lds_cons (ldI_eq hx3) (lds_nil)))) (tm (.sl v1) rfl (tm (.int .i64 v4) rfl (t_ rfl (fun _ => s_idx underlying27 ty101 rfl rfl g4) (tr rfl (s_loads underlying101 rfl ty101 rfl (lds_cons (ldI_eq hx5) (lds_cons (ldI_eq hx6) (lds_nil)))) (t_ rfl (fun _ => s_eqArr eg101 underlying101 underlying3 ty3 rfl rfl rfl rfl rfl rfl) (Trc.nil (fun _ => trivial)))))))) rfl (by decide +kernel) mixed ?_
   refine f_if (fun h7 => ?_) (fun h7 => ?_)
   ·exact bT 16 h7 rfl (q_ (m_ (.int .i64 v4) rfl (a_ (.int .i64 v4) rfl (f_nil (f_ret (.tmp rfl (.nil)) rfl)))))
   ·exact bF 16 h7 rfl (f_skip (f_inBlock (f_region (p_ rfl (s_add rfl rfl) (m_ (.int .i64 (w64 (v4 + 1))) rfl (f_nil (f_inLoop (f_keep [0, 3, 7, 8] (ih v1 v2 v3 (w64 (v4 + 1)) H)))))))))
  ·exact kF 9 h1 rfl (f_exit rfl (q_ (a_ (.int .i64 (-1)) rfl (f_nil (f_ret (.tmp rfl (.nil)) rfl)))))

theorem sim230 {a0 : Sl} {a1_0 : Int} {a1_1 : Int} {H : Hp} {p : Int × Hp} (h : r230 a0 a1_0 a1_1 H = some p) : CallSim prog 230 [.sl a0, .agg [.int .i64 a1_0, .int .i64 a1_1]] H (.int .i64 p.1) p.2 := by
 refine callSim (fn := f230) (ret := ret230) func230 rfl Tryz.ntmps230 rfl ?_ h
 unfold r230
 refine q_ (p_ rfl (s_box (v := .agg [.int .i64 a1_0, .int .i64 a1_1]) rfl rfl) (a_ (.int .i64 0) rfl (o_hp fun H1 hH1 => f_nil (f_seq (q_ (m_ (.sl a0) rfl (p_ rfl (s_lenS rfl underlying27 rfl) (m_ (.int .i64 0) rfl (f_nil (f_block (f_loop (f_keep [0, 3, 7, 8] ?_))))))))))))
 exact s230_l0 FUEL a0 H.n (a0.len : Int) 0 H1

/- 170 slices.Contains[[][2]int,[2]int] -/
theorem ok170 : FnOk prog 170 := ⟨⟨f170, func170, by kernel_rfl, rfl⟩⟩
theorem sim170 {a0 : Sl} {a1_0 : Int} {a1_1 : Int} {H : Hp} {p : Bool × Hp} (h : r170 a0 a1_0 a1_1 H = some p) : CallSim prog 170 [.sl a0, .agg [.int .i64 a1_0, .int .i64 a1_1]] H (.bool p.1) p.2 := by
 refine callSim (fn := f170) (ret := ret170) func170 rfl Tryz.ntmps170 rfl ?_ h
 unfold r170
 refine q_ (p_ rfl (s_box (v := .agg [.int .i64 a1_0, .int .i64 a1_1]) rfl rfl) (a_ (.bool false) rfl (o_hp fun H1 hH1 => n_ (m_ (.sl a0) rfl (o_bind fun x2 hx2 => o_bind fun x3 hx3 => p_ rfl (s_loads underlying101 rfl ty101 rfl (lds_cons (ldI_eq hx2) (lds_cons (ldI_eq hx3) (lds_nil)))) (o_bind fun p4 hp4 => p_ rfl (s_callF rfl ok230 (sim230 hp4)) (p_ rfl (s_geq rfl rfl) (a_ (.bool (decide (0 ≤ p4.1))) rfl ?_))))))))
 exact f_nil (f_ret (.tmp rfl (.nil)) rfl)

/- 116 (*congou/chest.state).offer -/
theorem ok116 : FnOk prog 116 := ⟨⟨f116, func116, by kernel_rfl, rfl⟩⟩
theorem sim116 {a0b : Nat} {a0o : Nat} {a1_0 : Sl} {a1_1 : Sl} {H : Hp} {p : Int × Hp} (h : r116 a0b a0o a1_0 a1_1 H = some p) : CallSim prog 116 [.ptr a0b a0o, .agg [.sl a1_0, .sl a1_1]] H (.int .i64 p.1) p.2 := by
 refine callSim (fn := f116) (ret := ret116) func116 rfl Tryz.ntmps116 rfl ?_ h
 unfold r116
 refine q_ (p_ rfl (s_box (v := .agg [.sl a1_0, .sl a1_1]) rfl rfl) (a_ (.int .i64 0) rfl (o_hp fun H1 hH1 => f_nil (f_seq (f_bind fun x2 hx2 => f_ck fun g3 => f_bind fun x4 hx4 => f_bind fun x5 hx5 => f_ck fun g6 => f_bind fun x7 hx7 => f_bind fun H8 hH8 => f_drawF (Φ := fun _ => True) (lim := 1000000) [0, 1, 0, 1, 0, 1, 0, 1, 0, 2, 2] [false, false, false, false, false, false, false, false, false, true, false] 9 10 (t_ rfl (fun _ => s_fieldAddr underlying167 rfl ty25 rfl) (tr rfl (s_load underlying25 rfl rfl (ldSl_eq hx2)) (t_ rfl (fun _ => s_idx underlying25 ty3 rfl rfl g3) (tr rfl (s_load underlying3 rfl rfl (ldI_eq hx4)) (t_ rfl (fun _ => s_fieldAddr underlying167 rfl ty25 rfl) (tr rfl (s_load underlying25 rfl rfl (ldSl_eq hx5)) (t_ rfl (fun _ => s_idx underlying25 ty3 rfl rfl g6) (tr rfl (s_load underlying3 rfl rfl (ldI_eq hx7)) (t_ rfl (fun _ => s_buildA (cs := [.int .i64 x4, .int .i64 x7]) underlying101 ty101 ty3 rfl rfl) (Trc.fl .p rfl rfl rfl (fun _ => trivial) rfl (by rfl) (fun _ => s_alloc (zs := [.int .i64 0, .int .i64 0]) ty101 rfl rfl) (Trc.eff rfl rfl rfl (fun _ => trivial) (s_stores ty101 rfl rfl rfl rfl hH8 (Nat.le_of_eq (sts_mono hH8).symm)) (Trc.nil (fun _ => trivial))))))))))))) rfl rfl (by decide +kernel) mixed (f_seq ?_))))))
 refine f_block (f_seq (f_bind fun x9 hx9 => f_bind fun x10 hx10 => f_bind fun x11 hx11 => f_bind fun p12 hp12 => f_draw (Φ := fun _ => True) (lim := 1000000) [0, 0, 0, 1, 1, 2, 0] (tm (.ptr a0b a0o) rfl (t_ rfl (fun _ => s_nilCheck rfl) (t_ rfl (fun _ => s_fieldAddr underlying150 rfl ty27 rfl) (tr rfl (s_load underlying27 rfl rfl (ldSl_eq hx9)) (tr rfl (s_loads underlying101 rfl ty101 rfl (lds_cons (ldI_eq hx10) (lds_cons (ldI_eq hx11) (lds_nil)))) (Trc.eff rfl rfl rfl (fun _ => trivial) (s_callF rfl ok170 (sim170 hp12)) (t_ rfl (fun _ => s_as (v := .bool p12.1) rfl) (Trc.nil (fun _ => trivial))))))))) rfl (by decide +kernel) mixed ?_))
 refine f_if (fun h13 => ?_) (fun h13 => ?_)
 ·exact bT 15 h13 rfl (q_ (a_ (.int .i64 5) rfl (f_nil (f_ret (.tmp rfl (.nil)) rfl))))
 ·refine bF 15 h13 rfl (q_ (p_ rfl (s_idxA underlying101 ty3 rfl rfl (by decide)) (o_bind fun x14 hx14 => p_ rfl (s_load underlying3 rfl rfl (ldI_eq hx14)) (p_ rfl (s_idxA underlying101 ty3 rfl rfl (by decide)) (o_bind fun x15 hx15 => p_ rfl (s_load underlying3 rfl rfl (ldI_eq hx15)) (p_ rfl (s_max2 rfl rfl) (p_ rfl (s_gtr rfl rfl) (a_ (.bool (decide (30 < (if x14 < x15 then x15 else x14)))) rfl (f_nil ?_)))))))))
  refine f_if (fun h16 => ?_) (fun h16 => ?_)
  ·exact kT 22 h16 rfl (q_ (a_ (.int .i64 2) rfl (f_nil (f_ret (.tmp rfl (.nil)) rfl))))
  ·refine kF 22 h16 rfl (q_ (m_ (.ptr a0b a0o) rfl (p_ rfl (s_nilCheck rfl) (p_ rfl (s_fieldAddr underlying150 rfl ty27 rfl) (o_bind fun x17 hx17 => p_ rfl (s_load underlying27 rfl rfl (ldSl_eq hx17)) (p_ rfl (s_lenS rfl underlying27 rfl) (p_ rfl (s_eql rfl rfl) (a_ (.bool (decide ((x17.len : Int) = 8))) rfl (f_nil ?_)))))))))
   refine f_if (fun h18 => ?_) (fun h18 => ?_)
   ·exact kT 29 h18 rfl (q_ (a_ (.int .i64 7) rfl (f_nil (f_ret (.tmp rfl (.nil)) rfl))))
   ·exact kF 29 h18 rfl (f_skip (f_inBlock (f_seq (f_bind fun x19 hx19 => f_bind fun x20 hx20 => f_bind fun x21 hx21 => f_bind fun x22 hx22 => f_bind fun H23 hH23 => f_drawF (Φ := fun _ => True) (lim := 1000000) [0, 0, 0, 0, 1, 1, 2, 2, 0, 0, 2] [false, false, false, false, false, false, true, false, false, false, false] 6 7 (tm (.ptr a0b a0o) rfl (tm (.ptr a0b a0o) rfl (t_ rfl (fun _ => s_nilCheck rfl) (t_ rfl (fun _ => s_fieldAddr underlying150 rfl ty27 rfl) (tr rfl (s_load underlying27 rfl rfl (ldSl_eq hx19)) (tr rfl (s_loads underlying101 rfl ty101 rfl (lds_cons (ldI_eq hx20) (lds_cons (ldI_eq hx21) (lds_nil)))) (Trc.fl (.s 1) rfl rfl rfl (fun _ => trivial) rfl (by rfl) (fun _ => s_buildSlice (cs := [.int .i64 x20, .int .i64 x21]) underlying27 ty101 (by decide) (by decide) rfl (by decide) rfl) (Trc.eff rfl rfl rfl (fun _ => trivial) (s_ap rfl rfl underlying27 underlying27 ty101 rfl rfl rfl rfl rfl rfl rfl hx22) (t_ rfl (fun _ => s_nilCheck rfl) (t_ rfl (fun _ => s_fieldAddr underlying150 rfl ty27 rfl) (Trc.eff rfl rfl rfl (fun _ => trivial) (s_store (s := 1) ty27 rfl rfl rfl hH23) (Trc.nil (fun _ => trivial))))))))))))) rfl rfl (by decide +kernel) mixed (q_ (a_ (.int .i64 0) rfl (f_nil (f_ret (.tmp rfl (.nil)) rfl))))))))

/- 118 (*congou/chest.Chest).child$1 -/
theorem ok118 : FnOk prog 118 := ⟨⟨f118, func118, by kernel_rfl, rfl⟩⟩
theorem sim118 {a0_0 : ByteArray} {a0_1 : Int} {a0_2b : Nat} {a0_2o : Nat} {c0 : Nat} {c1 : Nat} {H : Hp} {p : Bool × Hp} (h : r118 a0_0 a0_1 a0_2b a0_2o c0 c1 H = some p) : CallSim prog 118 [.agg [.str a0_0, .int .i64 a0_1, .ptr a0_2b a0_2o], .ptr c0 0, .ptr c1 0] H (.bool p.1) p.2 := by
 refine callSim (fn := f118) (ret := ret118) func118 rfl Tryz.ntmps118 rfl ?_ h
 unfold r118
 refine q_ (p_ rfl (s_box (v := .agg [.str a0_0, .int .i64 a0_1, .ptr a0_2b a0_2o]) rfl rfl) (a_ (.bool false) rfl (o_hp fun H1 hH1 => n_ (p_ rfl (s_fieldAddr underlying120 rfl ty9 rfl) (o_bind fun x2 hx2 => p_ rfl (s_load underlying9 rfl rfl (ldStr_eq hx2)) (o_bind fun x3 hx3 => p_ rfl (s_load underlying9 rfl rfl (ldStr_eq hx3)) (p_ rfl (s_eqStr rfl rfl) (m_ (.bool (strEq x2 x3)) rfl ?_))))))))
 refine o_if (fun h4 => ?_) (fun h4 => ?_)
 ·refine o_know 9 rfl (bool_T h4) (p_ rfl (s_fieldAddr underlying120 rfl ty3 rfl) (o_bind fun x5 hx5 => p_ rfl (s_load underlying3 rfl rfl (ldI_eq hx5)) (o_bind fun x6 hx6 => p_ rfl (s_load underlying3 rfl rfl (ldI_eq hx6)) (p_ rfl (s_eql rfl rfl) (p_ rfl (s_pickT (v := .bool (decide (x5 = x6))) rfl rfl) (m_ (.bool (decide (x5 = x6))) rfl ?_))))))
  refine o_if (fun h7 => ?_) (fun h7 => ?_)
  ·exact o_know 15 rfl (dec_true h7) (p_ rfl (s_fieldAddr underlying120 rfl ty9 rfl) (o_bind fun x8 hx8 => p_ rfl (s_load underlying9 rfl rfl (ldStr_eq hx8)) (p_ rfl (s_neStr rfl rfl) (p_ rfl (s_pickT (v := .bool (!(strEq x8 (ByteArray.mk #[])))) rfl rfl) (a_ (.bool (!(strEq x8 (ByteArray.mk #[])))) rfl (f_nil (f_ret (.tmp rfl (.nil)) rfl)))))))
  ·exact o_know 15 rfl (dec_false h7) (no_ rfl (no_ rfl (no_ rfl (p_ rfl (s_pickF (v := .bool false) rfl rfl) (a_ (.bool false) rfl (f_nil (f_ret (.tmp rfl (.nil)) rfl)))))))
 ·exact o_know 9 rfl (bool_F h4) (no_ rfl (no_ rfl (no_ rfl (no_ rfl (p_ rfl (s_pickF (v := .bool false) rfl rfl) (m_ (.bool false) rfl (no_ rfl (no_ rfl (no_ rfl (p_ rfl (s_pickF (v := .bool false) rfl rfl) (a_ (.bool false) rfl (f_nil (f_ret (.tmp rfl (.nil)) rfl)))))))))))))

/- 130 (*congou/chest.Chest).has$1 -/
theorem ok130 : FnOk prog 130 := ⟨⟨f130, func130, by kernel_rfl, rfl⟩⟩
theorem sim130 {a0 : Int} {c0 : Nat} {H : Hp} {p : Bool × Hp} (h : r130 a0 c0 H = some p) : CallSim prog 130 [.int .i64 a0, .ptr c0 0] H (.bool p.1) p.2 := by
 refine callSim (fn := f130) (ret := ret130) func130 rfl Tryz.ntmps130 rfl ?_ h
 unfold r130
 refine q_ (a_ (.bool false) rfl (n_ (m_ (.int .i64 a0) rfl (p_ rfl (s_lss rfl rfl) (m_ (.bool (decide (a0 < 0))) rfl ?_)))))
 refine o_if (fun h1 => ?_) (fun h1 => ?_)
 ·exact o_know 6 rfl (dec_true h1) (no_ rfl (no_ rfl (no_ rfl (no_ rfl (no_ rfl (no_ rfl (no_ rfl (p_ rfl (s_pickT (v := .bool true) rfl rfl) (a_ (.bool true) rfl (f_nil (f_ret (.tmp rfl (.nil)) rfl)))))))))))
 ·exact o_know 6 rfl (dec_false h1) (m_ (.int .i64 a0) rfl (o_bind fun x2 hx2 => p_ rfl (s_load underlying23 rfl rfl (ldP_eq hx2)) (p_ rfl (s_nilCheck rfl) (p_ rfl (s_fieldAddr underlying118 rfl ty116 rfl) (o_bind fun x3 hx3 => p_ rfl (s_load underlying116 rfl rfl (ldSl_eq hx3)) (p_ rfl (s_lenS rfl underlying116 rfl) (p_ rfl (s_geq rfl rfl) (p_ rfl (s_pickF (v := .bool (decide ((x3.len : Int) ≤ a0))) rfl rfl) (a_ (.bool (decide ((x3.len : Int) ≤ a0))) rfl (f_nil (f_ret (.tmp rfl (.nil)) rfl)))))))))))

/- 132 (*congou/chest.state).text$1 -/
theorem ok132 : FnOk prog 132 := ⟨⟨f132, func132, by kernel_rfl, rfl⟩⟩
theorem sim132 {app : App} (happ : AppSim prog app) {a0 : ByteArray} {a1 : Sl} {c0 : Nat} {H : Hp} {p : Unit × Hp} (h : r132 app a0 a1 c0 H = some p) : CallSim prog 132 [.str a0, .sl a1, .ptr c0 0] H (.tup []) p.2 := by
 refine callSim (fn := f132) (ret := ret132) func132 rfl Tryz.ntmps132 rfl ?_ h
 unfold r132
 refine f_region (m_ (.str a0) rfl (p_ rfl (s_buildSlice (cs := [.str a0]) underlying22 ty9 (by decide) (by decide) rfl (by decide) rfl) (m_ (.sl a1) rfl (o_bind fun x1 hx1 => o_ck fun g2 => o_bind fun x3 hx3 => p_ rfl (s_append rfl rfl underlying22 underlying22 ty9 (by decide) rfl (by decide) rfl rfl hx1 g2 hx3) (o_bind fun p4 hp4 => o_bind fun x5 hx5 => p_ rfl (s_callA happ rfl hp4) (o_know 9 rfl (asStr_eq hx5) (o_ck fun g6 => p_ rfl (s_addStr rfl rfl g6) (o_bind fun p7 hp7 => o_bind fun x8 hx8 => ?_))))))))
 exact o_ck fun g9 => o_bind fun x10 hx10 => o_bind fun x11 hx11 => o_bind fun x12 hx12 => p_ rfl (s_callA happ rfl hp7) (o_know 11 rfl (tupOf2 hx8 g9 (gete hx10 (asI_eq hx11)) (gete hx12 (rfl))) (f_nil (f_end (.nil) rfl)))

/- 198 (*congou/chest.state).find$1 -/
theorem ok198 : FnOk prog 198 := ⟨⟨f198, func198, by kernel_rfl, rfl⟩⟩
theorem sim198 {a0_0 : ByteArray} {a0_1 : Int} {c0 : Nat} {H : Hp} {p : Bool × Hp} (h : r198 a0_0 a0_1 c0 H = some p) : CallSim prog 198 [.agg [.str a0_0, .int .i64 a0_1], .ptr c0 0] H (.bool p.1) p.2 := by
 refine callSim (fn := f198) (ret := ret198) func198 rfl Tryz.ntmps198 rfl ?_ h
 unfold r198
 refine q_ (p_ rfl (s_box (v := .agg [.str a0_0, .int .i64 a0_1]) rfl rfl) (a_ (.bool false) rfl (o_hp fun H1 hH1 => n_ (p_ rfl (s_fieldAddr underlying186 rfl ty9 rfl) (o_bind fun x2 hx2 => p_ rfl (s_load underlying9 rfl rfl (ldStr_eq hx2)) (o_bind fun x3 hx3 => p_ rfl (s_load underlying9 rfl rfl (ldStr_eq hx3)) (p_ rfl (s_eqStr rfl rfl) (a_ (.bool (strEq x2 x3)) rfl (f_nil ?_)))))))))
 exact f_ret (.tmp rfl (.nil)) rfl

end Go.Lt.P10
