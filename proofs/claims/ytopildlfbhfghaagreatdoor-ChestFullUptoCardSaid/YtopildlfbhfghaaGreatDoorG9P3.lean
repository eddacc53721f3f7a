/- PRINTED BY A PROGRAM OF OURS: what each function that 'ChestFull' reaches computes on the abstract heap, and that the translated code does just that. Nothing is asked of the input. -/
import Derived.Test.YtopildlfbhfghaaGreatDoorG9P2
set_option linter.unusedVariables false
set_option linter.unusedSimpArgs false
set_option maxRecDepth 100000
set_option maxHeartbeats 4000000
namespace Go.Lt.P10
open Go Go.Lt Go.Proofs Go.Proofs.Tryz
/- 133 (*congou/chest.state).names -/
theorem ok133 : FnOk prog 133 := ⟨⟨f133, func133, by kernel_rfl, rfl⟩⟩
theorem s133_l0 : ∀ (k_ v1 v2 : Nat) (v3 v4 : Sl) (v5 v6 : Int) (H : Hp), Fin prog f133 ret133 27 (todoAt (bodyOf f133) [1, 1, 0, 1, 0, 0] []) [(0, .ptr v1 v2), (5, .sl v3), (8, .sl v4), (9, .int .i64 v5), (10, .int .i64 v6)] H (r133_l0 k_ v1 v2 v3 v4 v5 v6 H) := by
  intro k_
  induction k_ with
  | zero => intro _ _ _ _ _ _ _; exact f_none
  | succ k_ ih =>
    intro v1 v2 v3 v4 v5 v6 H
    rw [r133_l0]
    refine q_ (p_ rfl (s_lss rfl rfl) (f_nil (f_seq ?_)))
    refine f_if (fun h1 => ?_) (fun h1 => ?_)
    · refine kT 11 h1 rfl (f_skip (f_seq (f_block (q_ (o_ck fun g2 => p_ rfl (s_idx underlying25 ty3 rfl rfl g2) (o_bind fun x3 hx3 => p_ rfl (s_load underlying3 rfl rfl (ldI_eq hx3)) (a_ (.int .i64 x3) rfl (f_nil (f_region (m_ (.sl v3) rfl (m_ (.ptr v1 v2) rfl ?_)))))))))))
      refine p_ rfl (s_nilCheck rfl) (p_ rfl (s_fieldAddr underlying150 rfl ty147 rfl) (o_bind fun x4 hx4 => p_ rfl (s_load underlying147 rfl rfl (ldSl_eq hx4)) (m_ (.int .i64 x3) rfl (o_ck fun g5 => p_ rfl (s_idx underlying147 ty186 rfl rfl g5) (p_ rfl (s_fieldAddr underlying186 rfl ty9 rfl) (o_bind fun x6 hx6 => p_ rfl (s_load underlying9 rfl rfl (ldStr_eq hx6)) (p_ rfl (s_buildSlice (cs := [.str x6]) underlying22 ty9 (by decide) (by decide) rfl (by decide) rfl) (o_bind fun x7 hx7 => p_ rfl (s_ap rfl rfl underlying22 underlying22 ty9 rfl rfl rfl rfl rfl rfl rfl hx7) (a_ (.sl x7.1) rfl (f_nil (f_inBlock ?_)))))))))))
      exact f_region (p_ rfl (s_add rfl rfl) (m_ (.int .i64 (w64 (v6 + 1))) rfl (f_nil (f_inLoop (f_keep [0, 5, 8, 9, 10] (ih v1 v2 x7.1 v4 v5 (w64 (v6 + 1)) x7.2))))))
    · exact kF 11 h1 rfl (f_exit rfl (q_ (m_ (.sl v3) rfl (a_ (.sl v3) rfl (f_nil (f_ret (.tmp rfl (.nil)) rfl))))))

theorem sim133 {a0b : Nat} {a0o : Nat} {a1 : Sl} {H : Hp} {p : Sl × Hp} (h : r133 a0b a0o a1 H = some p) : CallSim prog 133 [.ptr a0b a0o, .sl a1] H (.sl p.1) p.2 := by
  refine callSim (fn := f133) (ret := ret133) func133 rfl Tryz.ntmps133 rfl ?_ h
  unfold r133
  refine q_ (a_ (.sl ⟨true, 0, 0, 0, 0, 0⟩) rfl (n_ (a_ (.sl ⟨true, 0, 0, 0, 0, 0⟩) rfl (f_nil (f_seq (q_ (m_ (.sl a1) rfl (p_ rfl (s_lenS rfl underlying25 rfl) (m_ (.int .i64 0) rfl (f_nil (f_block ?_)))))))))))
  exact f_loop (f_keep [0, 5, 8, 9, 10] (s133_l0 FUEL a0b a0o ⟨true, 0, 0, 0, 0, 0⟩ a1 (a1.len : Int) 0 H))

/- 134 congou/chest.numbers -/
theorem ok134 : FnOk prog 134 := ⟨⟨f134, func134, by kernel_rfl, rfl⟩⟩
theorem s134_l0 {app : App} (happ : AppSim prog app) : ∀ (k_ : Nat) (v1 v2 : Sl) (v3 v4 : Int) (H : Hp), Fin prog f134 ret134 19 (todoAt (bodyOf f134) [1, 1, 0, 1, 0, 0] []) [(3, .sl v1), (6, .sl v2), (7, .int .i64 v3), (8, .int .i64 v4)] H (r134_l0 app k_ v1 v2 v3 v4 H) := by
  intro k_
  induction k_ with
  | zero => intro _ _ _ _ _; exact f_none
  | succ k_ ih =>
    intro v1 v2 v3 v4 H
    rw [r134_l0]
    refine q_ (p_ rfl (s_lss rfl rfl) (f_nil (f_seq ?_)))
    refine f_if (fun h1 => ?_) (fun h1 => ?_)
    · refine kT 9 h1 rfl (f_skip (f_seq (f_block (q_ (o_ck fun g2 => p_ rfl (s_idx underlying25 ty3 rfl rfl g2) (o_bind fun x3 hx3 => p_ rfl (s_load underlying3 rfl rfl (ldI_eq hx3)) (a_ (.int .i64 x3) rfl (f_nil (f_region (m_ (.sl v1) rfl (m_ (.int .i64 x3) rfl ?_)))))))))))
      refine o_bind fun p4 hp4 => o_bind fun x5 hx5 => p_ rfl (s_callA happ rfl hp4) (o_know 14 rfl (asStr_eq hx5) (p_ rfl (s_buildSlice (cs := [.str x5]) underlying22 ty9 (by decide) (by decide) rfl (by decide) rfl) (o_bind fun x6 hx6 => p_ rfl (s_ap rfl rfl underlying22 underlying22 ty9 rfl rfl rfl rfl rfl rfl rfl hx6) (a_ (.sl x6.1) rfl (f_nil (f_inBlock (f_region (p_ rfl (s_add rfl rfl) (m_ (.int .i64 (w64 (v4 + 1))) rfl (f_nil (f_inLoop (f_keep [3, 6, 7, 8] ?_))))))))))))
      exact ih x6.1 v2 v3 (w64 (v4 + 1)) x6.2
    · exact kF 9 h1 rfl (f_exit rfl (q_ (m_ (.sl v1) rfl (a_ (.sl v1) rfl (f_nil (f_ret (.tmp rfl (.nil)) rfl))))))

theorem sim134 {app : App} (happ : AppSim prog app) {a0 : Sl} {H : Hp} {p : Sl × Hp} (h : r134 app a0 H = some p) : CallSim prog 134 [.sl a0] H (.sl p.1) p.2 := by
  refine callSim (fn := f134) (ret := ret134) func134 rfl Tryz.ntmps134 rfl ?_ h
  unfold r134
  refine q_ (a_ (.sl ⟨true, 0, 0, 0, 0, 0⟩) rfl (n_ (a_ (.sl ⟨true, 0, 0, 0, 0, 0⟩) rfl (f_nil (f_seq (q_ (m_ (.sl a0) rfl (p_ rfl (s_lenS rfl underlying25 rfl) (m_ (.int .i64 0) rfl (f_nil (f_block ?_)))))))))))
  exact f_loop (f_keep [3, 6, 7, 8] (s134_l0 happ FUEL ⟨true, 0, 0, 0, 0, 0⟩ a0 (a0.len : Int) 0 H))

/- 186 slices.Grow[[]int,int] -/
theorem ok186 : FnOk prog 186 := ⟨⟨f186, func186, by kernel_rfl, rfl⟩⟩
theorem sim186 {a0 : Sl} {a1 : Int} {H : Hp} {p : Sl × Hp} (h : r186 a0 a1 H = some p) : CallSim prog 186 [.sl a0, .int .i64 a1] H (.sl p.1) p.2 := by
  refine callSim (fn := f186) (ret := ret186) func186 rfl Tryz.ntmps186 rfl ?_ h
  unfold r186
  refine q_ (a_ (.sl ⟨true, 0, 0, 0, 0, 0⟩) rfl (f_nil (f_seq (q_ (m_ (.int .i64 a1) rfl (p_ rfl (s_lss rfl rfl) (f_nil ?_)))))))
  refine f_if (fun h1 => ?_) (fun h1 => ?_)
  · exact kT 6 h1 rfl (f_region (o_none))
  · refine kF 6 h1 rfl (f_skip (f_seq (q_ (m_ (.int .i64 a1) rfl (m_ (.sl a0) rfl (o_ck fun g2 => p_ rfl (s_capS rfl underlying25 rfl g2) (m_ (.sl a0) rfl (p_ rfl (s_lenS rfl underlying25 rfl) (p_ rfl (s_sub rfl rfl) (p_ rfl (s_sub rfl rfl) (a_ (.int .i64 (w64 (a1 - (w64 ((a0.cap : Int) - (a0.len : Int)))))) rfl (f_nil ?_))))))))))))
    refine q_ (m_ (.int .i64 (w64 (a1 - (w64 ((a0.cap : Int) - (a0.len : Int)))))) rfl (p_ rfl (s_gtr rfl rfl) (f_nil ?_)))
    refine f_if (fun h3 => ?_) (fun h3 => ?_)
    · refine kT 16 h3 rfl (f_region (m_ (.sl a0) rfl (m_ (.sl a0) rfl (o_ck fun g4 => p_ rfl (s_capS rfl underlying25 rfl g4) (o_ck fun g5 => p_ rfl (s_slice underlying25 ty3 rfl rfl rfl g5.1 g5.2) (m_ (.int .i64 (w64 (a1 - (w64 ((a0.cap : Int) - (a0.len : Int)))))) rfl (o_ck fun g6 => o_ck fun g7 => p_ rfl (s_appendMk0 rfl rfl rfl underlying25 underlying3 ty3 rfl rfl (by decide) (by decide) rfl rfl g6 g7) (m_ (.sl a0) rfl (p_ rfl (s_lenS rfl underlying25 rfl) (o_ck fun g8 => ?_))))))))))
      exact p_ rfl (s_slice underlying25 ty3 rfl rfl rfl g8.1 g8.2) (a_ (.sl ((⟨false, H.n, 0, (w64 (a1 - (w64 ((a0.cap : Int) - (a0.len : Int)))) : Int).toNat, (w64 (a1 - (w64 ((a0.cap : Int) - (a0.len : Int)))) : Int).toNat, 1⟩ : Sl).cut 1 (0 : Int).toNat ((a0.len : Int) : Int).toNat)) rfl (o_hp fun H9 hH9 => n_ (m_ (.sl ((⟨false, H.n, 0, (w64 (a1 - (w64 ((a0.cap : Int) - (a0.len : Int)))) : Int).toNat, (w64 (a1 - (w64 ((a0.cap : Int) - (a0.len : Int)))) : Int).toNat, 1⟩ : Sl).cut 1 (0 : Int).toNat ((a0.len : Int) : Int).toNat)) rfl (a_ (.sl ((⟨false, H.n, 0, (w64 (a1 - (w64 ((a0.cap : Int) - (a0.len : Int)))) : Int).toNat, (w64 (a1 - (w64 ((a0.cap : Int) - (a0.len : Int)))) : Int).toNat, 1⟩ : Sl).cut 1 (0 : Int).toNat ((a0.len : Int) : Int).toNat)) rfl (f_nil (f_ret (.tmp rfl (.nil)) rfl))))))
    · exact kF 16 h3 rfl (f_skip (q_ (m_ (.sl a0) rfl (a_ (.sl a0) rfl (f_nil (f_ret (.tmp rfl (.nil)) rfl))))))

/- 135 slices.Concat[[]int,int] -/
theorem ok135 : FnOk prog 135 := ⟨⟨f135, func135, by kernel_rfl, rfl⟩⟩
theorem s135_l1 : ∀ (k_ : Nat) (v1 v2 : Sl) (v3 v4 : Int) (H : Hp), Fin prog f135 ret135 36 (todoAt (bodyOf f135) [1, 1, 1, 1, 0, 1, 0, 0] []) [(6, .sl v1), (25, .sl v2), (26, .int .i64 v3), (27, .int .i64 v4)] H (r135_l1 k_ v1 v2 v3 v4 H) := by
  intro k_
  induction k_ with
  | zero => intro _ _ _ _ _; exact f_none
  | succ k_ ih =>
    intro v1 v2 v3 v4 H
    rw [r135_l1]
    refine q_ (p_ rfl (s_lss rfl rfl) (f_nil (f_seq ?_)))
    refine f_if (fun h1 => ?_) (fun h1 => ?_)
    · refine kT 28 h1 rfl (f_skip (f_seq (f_block (q_ (o_ck fun g2 => p_ rfl (s_idx underlying31 ty25 rfl rfl g2) (o_bind fun x3 hx3 => p_ rfl (s_load underlying25 rfl rfl (ldSl_eq hx3)) (a_ (.sl x3) rfl (f_nil (f_region (m_ (.sl v1) rfl (m_ (.sl x3) rfl ?_)))))))))))
      exact o_bind fun x4 hx4 => o_ck fun g5 => o_bind fun x6 hx6 => p_ rfl (s_append rfl rfl underlying25 underlying25 ty3 (by decide) rfl (by decide) rfl rfl hx4 g5 hx6) (a_ (.sl x6.1) rfl (f_nil (f_inBlock (f_region (p_ rfl (s_add rfl rfl) (m_ (.int .i64 (w64 (v4 + 1))) rfl (f_nil (f_inLoop (f_keep [6, 25, 26, 27] (ih x6.1 v2 v3 (w64 (v4 + 1)) x6.2))))))))))
    · exact kF 28 h1 rfl (f_exit rfl (q_ (m_ (.sl v1) rfl (a_ (.sl v1) rfl (f_nil (f_ret (.tmp rfl (.nil)) rfl))))))

theorem s135_l0 : ∀ (k_ : Nat) (v1 : Sl) (v2 : Int) (v3 : Sl) (v4 v5 : Int) (H : Hp), Fin prog f135 ret135 36 (todoAt (bodyOf f135) [1, 1, 0, 1, 0, 0] []) [(0, .sl v1), (3, .int .i64 v2), (9, .sl v3), (10, .int .i64 v4), (11, .int .i64 v5)] H (r135_l0 k_ v1 v2 v3 v4 v5 H) := by
  intro k_
  induction k_ with
  | zero => intro _ _ _ _ _ _; exact f_none
  | succ k_ ih =>
    intro v1 v2 v3 v4 v5 H
    rw [r135_l0]
    refine q_ (p_ rfl (s_lss rfl rfl) (f_nil (f_seq ?_)))
    refine f_if (fun h1 => ?_) (fun h1 => ?_)
    · refine kT 12 h1 rfl (f_skip (f_seq (f_block (q_ (o_ck fun g2 => p_ rfl (s_idx underlying31 ty25 rfl rfl g2) (o_bind fun x3 hx3 => p_ rfl (s_load underlying25 rfl rfl (ldSl_eq hx3)) (a_ (.sl x3) rfl (n_ (m_ (.int .i64 v2) rfl ?_)))))))))
      refine m_ (.sl x3) rfl (p_ rfl (s_lenS rfl underlying25 rfl) (p_ rfl (s_add rfl rfl) (a_ (.int .i64 (w64 (v2 + (x3.len : Int)))) rfl (n_ (m_ (.int .i64 (w64 (v2 + (x3.len : Int)))) rfl (p_ rfl (s_lss rfl rfl) (f_nil ?_)))))))
      refine f_if (fun h4 => ?_) (fun h4 => ?_)
      · exact kT 20 h4 rfl (f_region (o_none))
      · exact kF 20 h4 rfl (f_skip (f_inBlock (f_region (p_ rfl (s_add rfl rfl) (m_ (.int .i64 (w64 (v5 + 1))) rfl (f_nil (f_inLoop (f_keep [0, 3, 9, 10, 11] (ih v1 (w64 (v2 + (x3.len : Int))) v3 v4 (w64 (v5 + 1)) H)))))))))
    · refine kF 12 h1 rfl (f_exit rfl (q_ (m_ (.int .i64 v2) rfl (o_bind fun p5 hp5 => p_ rfl (s_callF rfl ok186 (sim186 hp5)) (a_ (.sl p5.1) rfl (f_nil (f_seq (q_ (m_ (.sl v1) rfl (p_ rfl (s_lenS rfl underlying31 rfl) (m_ (.int .i64 0) rfl ?_)))))))))))
      exact f_nil (f_block (f_loop (f_keep [6, 25, 26, 27] (s135_l1 FUEL p5.1 v1 (v1.len : Int) 0 p5.2))))

theorem sim135 {a0 : Sl} {H : Hp} {p : Sl × Hp} (h : r135 a0 H = some p) : CallSim prog 135 [.sl a0] H (.sl p.1) p.2 := by
  refine callSim (fn := f135) (ret := ret135) func135 rfl Tryz.ntmps135 rfl ?_ h
  unfold r135
  refine q_ (a_ (.sl ⟨true, 0, 0, 0, 0, 0⟩) rfl (n_ (a_ (.int .i64 0) rfl (f_nil (f_seq (q_ (m_ (.sl a0) rfl (p_ rfl (s_lenS rfl underlying31 rfl) (m_ (.int .i64 0) rfl (f_nil (f_block ?_)))))))))))
  exact f_loop (f_keep [0, 3, 9, 10, 11] (s135_l0 FUEL a0 0 a0 (a0.len : Int) 0 H))

/- 80 (*congou/chest.state).text -/
theorem ok80 : FnOk prog 80 := ⟨⟨f80, func80, by kernel_rfl, rfl⟩⟩
theorem s80_l1 {app : App} (happ : AppSim prog app) : ∀ (k_ v1 v2 : Nat) (v3 v4 : Sl) (v5 v6 : Int) (H : Hp), Fin prog f80 ret80 79 (todoAt (bodyOf f80) [1, 1, 1, 1, 1, 1, 1, 0, 1, 0, 0] []) [(3, .ptr v1 0), (6, .fn 132 [] [.ptr v2 0]), (7, .sl v3), (57, .sl v4), (58, .int .i64 v5), (59, .int .i64 v6)] H (r80_l1 app k_ v1 v2 v3 v4 v5 v6 H) := by
  intro k_
  induction k_ with
  | zero => intro _ _ _ _ _ _ _; exact f_none
  | succ k_ ih =>
    intro v1 v2 v3 v4 v5 v6 H
    rw [r80_l1]
    refine q_ (p_ rfl (s_lss rfl rfl) (f_nil (f_seq ?_)))
    refine f_if (fun h1 => ?_) (fun h1 => ?_)
    · refine kT 60 h1 rfl (f_skip (f_seq (f_block (q_ (o_ck fun g2 => p_ rfl (s_idx underlying27 ty101 rfl rfl g2) (o_bind fun x3 hx3 => o_bind fun x4 hx4 => p_ rfl (s_loads underlying101 rfl ty101 rfl (lds_cons (ldI_eq hx3) (lds_cons (ldI_eq hx4) (lds_nil)))) (p_ rfl (s_alloc (zs := [.int .i64 0, .int .i64 0]) ty101 rfl rfl) (o_bind fun H5 hH5 => p_ rfl (s_stores ty101 rfl rfl rfl rfl hH5 (Nat.le_of_eq (sts_mono hH5).symm)) (f_nil ?_)))))))))
      refine f_bind fun x6 hx6 => f_bind fun p7 hp7 => f_bind fun x8 hx8 => f_ck fun g9 => f_bind fun x10 hx10 => f_bind fun p11 hp11 => f_bind fun x12 hx12 => f_ck fun g13 => f_bind fun x14 hx14 => f_ck fun g15 => f_draw (Φ := fun H_ => H_.ld H.n (0 + (1 : Int).toNat * 1) = some (.int .i64 x10)) (lim := 7) [0, 0, 1, 2, 0, 0, 0, 2, 0, 2, 2, 0] (tm (.sl v3) rfl (t_ rfl (fun _ => s_idxA underlying101 ty3 rfl rfl (by decide)) (tr rfl (s_load underlying3 rfl rfl (ldI_eq hx6)) (Trc.eff rfl rfl rfl (fun _ => ldI_eq g15) (s_callA happ rfl hp7) (Trc.know 66 rfl (asStr_eq hx8) (t_ rfl (fun _ => s_addStr rfl rfl g9) (t_ rfl (fun _ => s_idxA underlying101 ty3 rfl rfl (by decide)) (Trc.pure rfl rfl rfl (.inr ⟨by decide +kernel, fun _ hp_ => s_load underlying3 rfl rfl hp_⟩) (Trc.eff rfl rfl rfl (fun _ => ldI_eq hx10) (s_callA happ rfl hp11) (Trc.know 70 rfl (asStr_eq hx12) (t_ rfl (fun _ => s_addStr rfl rfl g13) (Trc.eff rfl rfl rfl (fun h_ => absurd h_ (by decide +kernel)) (s_buildSlice (cs := [.str ((x8 ++ (ByteArray.mk #[44])) ++ x12)]) underlying22 ty9 (by decide) (by decide) rfl (by decide) rfl) (Trc.eff rfl rfl rfl (fun h_ => absurd h_ (by decide +kernel)) (s_ap rfl rfl underlying22 underlying22 ty9 rfl rfl rfl rfl rfl rfl rfl hx14) (t_ rfl (fun _ => s_as (v := .sl x14.1) rfl) (Trc.nil (fun h_ => absurd h_ (by decide +kernel))))))))))))))))) rfl (by decide +kernel) mixed (f_inBlock (f_region (p_ rfl (s_add rfl rfl) (m_ (.int .i64 (w64 (v6 + 1))) rfl (f_nil ?_)))))
      exact f_inLoop (f_keep [3, 6, 7, 57, 58, 59] (ih v1 v2 x14.1 v4 v5 (w64 (v6 + 1)) x14.2))
    · refine kF 60 h1 rfl (f_exit rfl (q_ (m_ (.fn 132 [] [.ptr v2 0]) rfl (m_ (.sl v3) rfl (o_bind fun p16 hp16 => p_ rfl (s_callv happ rfl rfl hp16) (n_ (o_bind fun p17 hp17 => o_bind fun x18 hx18 => p_ rfl (s_callA happ rfl hp17) (o_know 78 rfl (asStr_eq hx18) ?_))))))))
      exact a_ (.str x18) rfl (f_nil (f_ret (.tmp rfl (.nil)) rfl))

theorem s80_l0 {app : App} (happ : AppSim prog app) : ∀ (k_ v1 v2 v3 : Nat) (v4 : Sl) (v5 v6 : Int) (H : Hp), Fin prog f80 ret80 79 (todoAt (bodyOf f80) [1, 1, 0, 1, 0, 0] []) [(0, .ptr v1 v2), (3, .ptr v3 0), (13, .sl v4), (14, .int .i64 v5), (15, .int .i64 v6)] H (r80_l0 app k_ v1 v2 v3 v4 v5 v6 H) := by
  intro k_
  induction k_ with
  | zero => intro _ _ _ _ _ _ _; exact f_none
  | succ k_ ih =>
    intro v1 v2 v3 v4 v5 v6 H
    rw [r80_l0]
    refine q_ (p_ rfl (s_lss rfl rfl) (f_nil (f_seq ?_)))
    refine f_if (fun h1 => ?_) (fun h1 => ?_)
    · refine kT 16 h1 rfl (f_skip (f_seq (f_block (q_ (o_ck fun g2 => p_ rfl (s_idx underlying147 ty186 rfl rfl g2) (o_bind fun x3 hx3 => o_bind fun x4 hx4 => p_ rfl (s_loads underlying186 rfl ty186 rfl (lds_cons (ldStr_eq hx3) (lds_cons (ldI_eq hx4) (lds_nil)))) (p_ rfl (s_alloc (zs := [.str (ByteArray.mk #[]), .int .i64 0]) ty186 rfl rfl) (o_bind fun H5 hH5 => p_ rfl (s_stores ty186 rfl rfl rfl rfl hH5 (Nat.le_of_eq (sts_mono hH5).symm)) (f_nil ?_)))))))))
      refine f_bind fun x6 hx6 => f_ck fun g7 => f_ck fun g8 => f_bind fun x9 hx9 => f_bind fun p10 hp10 => f_bind fun x11 hx11 => f_ck fun g12 => f_ck fun g13 => f_bind fun p14 hp14 => f_bind fun x15 hx15 => f_ck fun g16 => f_bind fun x17 hx17 => f_bind fun x18 hx18 => f_bind fun x19 hx19 => f_ck fun g20 => f_draw (Φ := fun H_ => H_.ld H.n (0 + 0) = some (.str x6)) (lim := 9) [0, 0, 0, 0, 0, 1, 2, 0, 0, 2] (t_ rfl (fun _ => s_fieldAddr underlying186 rfl ty9 rfl) (Trc.pure rfl rfl rfl (.inr ⟨by decide +kernel, fun _ hp_ => s_load underlying9 rfl rfl hp_⟩) (t_ rfl (fun _ => s_addStr rfl rfl g7) (t_ rfl (fun _ => s_addStr rfl rfl g8) (t_ rfl (fun _ => s_fieldAddr underlying186 rfl ty3 rfl) (tr rfl (s_load underlying3 rfl rfl (ldI_eq hx9)) (Trc.eff rfl rfl rfl (fun _ => ldStr_eq hx6) (s_callA happ rfl hp10) (Trc.know 25 rfl (asStr_eq hx11) (t_ rfl (fun _ => s_addStr rfl rfl g12) (t_ rfl (fun _ => s_addStr rfl rfl g13) (Trc.eff rfl rfl rfl (fun _ => ldStr_eq g20) (s_callA happ rfl hp14) (Trc.know 28 rfl (tupOf2 hx15 g16 (gete hx17 (asI_eq hx18)) (gete hx19 (rfl))) (Trc.nil (fun h_ => absurd h_ (by decide +kernel))))))))))))))) rfl (by decide +kernel) mixed ?_
      exact f_inBlock (f_region (p_ rfl (s_add rfl rfl) (m_ (.int .i64 (w64 (v6 + 1))) rfl (f_nil (f_inLoop (f_keep [0, 3, 13, 14, 15] (ih v1 v2 v3 v4 v5 (w64 (v6 + 1)) p14.2)))))))
    · refine kF 16 h1 rfl (f_exit rfl (q_ (p_ rfl (s_makeFunc rfl rfl) (a_ (.fn 132 [] [.ptr v3 0]) rfl (n_ (m_ (.fn 132 [] [.ptr v3 0]) rfl (m_ (.ptr v1 v2) rfl (m_ (.ptr v1 v2) rfl (p_ rfl (s_nilCheck rfl) (p_ rfl (s_fieldAddr underlying150 rfl ty25 rfl) (o_bind fun x21 hx21 => ?_)))))))))))
      refine p_ rfl (s_load underlying25 rfl rfl (ldSl_eq hx21)) (o_bind fun p22 hp22 => p_ rfl (s_callF rfl ok133 (sim133 hp22)) (o_bind fun p23 hp23 => p_ rfl (s_callv happ rfl rfl hp23) (f_nil (f_seq (f_bind fun p24 hp24 => f_bind fun p25 hp25 => f_bind fun p26 hp26 => f_draw (Φ := fun _ => True) (lim := 1000000) [0, 0, 0, 0, 0, 0, 0, 0, 0, 0, 0, 2, 2, 2, 2] (tm (.fn 132 [] [.ptr v3 0]) rfl (tm (.ptr v1 v2) rfl (t_ rfl (fun _ => s_nilCheck rfl) (t_ rfl (fun _ => s_fieldAddr underlying150 rfl ty148 rfl) (t_ rfl (fun _ => s_idxA underlying148 ty101 rfl rfl (by decide)) (t_ rfl (fun _ => s_sliceA underlying101 ty3 rfl rfl rfl (by decide)) (tm (.ptr v1 v2) rfl (t_ rfl (fun _ => s_nilCheck rfl) (t_ rfl (fun _ => s_fieldAddr underlying150 rfl ty148 rfl) (t_ rfl (fun _ => s_idxA underlying148 ty101 rfl rfl (by decide)) (t_ rfl (fun _ => s_sliceA underlying101 ty3 rfl rfl rfl (by decide)) (Trc.eff rfl rfl rfl (fun _ => trivial) (s_buildSlice (cs := [.sl ⟨false, v1, ((v2 + 2) + (0 : Int).toNat * 2) + (0 : Int).toNat * 1, (((2 : Nat) : Int) : Int).toNat - (0 : Int).toNat, 2 - (0 : Int).toNat, 0⟩, .sl ⟨false, v1, ((v2 + 2) + (1 : Int).toNat * 2) + (0 : Int).toNat * 1, (((2 : Nat) : Int) : Int).toNat - (0 : Int).toNat, 2 - (0 : Int).toNat, 0⟩]) underlying31 ty25 (by decide) (by decide) rfl (by decide) rfl) (Trc.eff rfl rfl rfl (fun _ => trivial) (s_callF rfl ok135 (sim135 hp24)) (Trc.eff rfl rfl rfl (fun _ => trivial) (s_callF rfl ok134 (sim134 happ hp25)) (Trc.eff rfl rfl rfl (fun _ => trivial) (s_callv happ rfl rfl hp26) (Trc.nil (fun _ => trivial))))))))))))))))) rfl (by decide +kernel) mixed (q_ (a_ (.sl ⟨true, 0, 0, 0, 0, 0⟩) rfl (f_nil (f_seq ?_)))))))))
      exact q_ (m_ (.ptr v1 v2) rfl (p_ rfl (s_nilCheck rfl) (p_ rfl (s_fieldAddr underlying150 rfl ty27 rfl) (o_bind fun x27 hx27 => p_ rfl (s_load underlying27 rfl rfl (ldSl_eq hx27)) (p_ rfl (s_lenS rfl underlying27 rfl) (m_ (.int .i64 0) rfl (f_nil (f_block (f_loop (f_keep [3, 6, 7, 57, 58, 59] (s80_l1 happ FUEL v3 v3 ⟨true, 0, 0, 0, 0, 0⟩ x27 (x27.len : Int) 0 p26.2)))))))))))

theorem sim80 {app : App} (happ : AppSim prog app) {a0b : Nat} {a0o : Nat} {H : Hp} {p : ByteArray × Hp} (h : r80 app a0b a0o H = some p) : CallSim prog 80 [.ptr a0b a0o] H (.str p.1) p.2 := by
  refine callSim (fn := f80) (ret := ret80) func80 rfl Tryz.ntmps80 rfl ?_ h
  unfold r80
  refine q_ (a_ (.str (ByteArray.mk #[])) rfl (n_ (p_ rfl (s_allocB rfl ty184) (o_hp fun H1 hH1 => f_nil (f_seq (q_ (m_ (.ptr a0b a0o) rfl (p_ rfl (s_nilCheck rfl) (p_ rfl (s_fieldAddr underlying150 rfl ty147 rfl) (o_bind fun x2 hx2 => ?_))))))))))
  exact p_ rfl (s_load underlying147 rfl rfl (ldSl_eq hx2)) (p_ rfl (s_lenS rfl underlying147 rfl) (m_ (.int .i64 0) rfl (f_nil (f_block (f_loop (f_keep [0, 3, 13, 14, 15] (s80_l0 happ FUEL a0b a0o H.n x2 (x2.len : Int) 0 H1)))))))

/- 41 (*congou/chest.Chest).State -/
theorem ok41 : FnOk prog 41 := ⟨⟨f41, func41, by kernel_rfl, rfl⟩⟩
theorem sim41 {app : App} (happ : AppSim prog app) {a0b : Nat} {a0o : Nat} {H : Hp} {p : ByteArray × Hp} (h : r41 app a0b a0o H = some p) : CallSim prog 41 [.ptr a0b a0o] H (.str p.1) p.2 := by
  refine callSim (fn := f41) (ret := ret41) func41 rfl Tryz.ntmps41 rfl ?_ h
  unfold r41
  refine q_ (a_ (.str (ByteArray.mk #[])) rfl (f_nil (f_seq (q_ (m_ (.ptr a0b a0o) rfl (o_bind fun p1 hp1 => p_ rfl (s_callF rfl ok60 (sim60 hp1)) (f_nil ?_)))))))
  refine f_if (fun h2 => ?_) (fun h2 => ?_)
  · exact bT 4 h2 rfl (q_ (a_ (.str (ByteArray.mk #[])) rfl (f_nil (f_ret (.tmp rfl (.nil)) rfl))))
  · exact bF 4 h2 rfl (f_skip (q_ (m_ (.ptr a0b a0o) rfl (o_bind fun p3 hp3 => p_ rfl (s_callF rfl ok61 (sim61 hp3)) (o_bind fun p4 hp4 => p_ rfl (s_callF rfl ok80 (sim80 happ hp4)) (a_ (.str p4.1) rfl (f_nil (f_ret (.tmp rfl (.nil)) rfl))))))))

/- 42 slices.Equal[[]string,string] -/
theorem ok42 : FnOk prog 42 := ⟨⟨f42, func42, by kernel_rfl, rfl⟩⟩
theorem s42_l0 : ∀ (k_ : Nat) (v1 v2 : Sl) (v3 v4 : Int) (H : Hp), Fin prog f42 ret42 26 (todoAt (bodyOf f42) [1, 1, 0, 1, 0, 0] []) [(0, .sl v1), (1, .sl v2), (12, .int .i64 v3), (13, .int .i64 v4)] H (r42_l0 k_ v1 v2 v3 v4 H) := by
  intro k_
  induction k_ with
  | zero => intro _ _ _ _ _; exact f_none
  | succ k_ ih =>
    intro v1 v2 v3 v4 H
    rw [r42_l0]
    refine q_ (p_ rfl (s_lss rfl rfl) (f_nil (f_seq ?_)))
    refine f_if (fun h1 => ?_) (fun h1 => ?_)
    · refine kT 14 h1 rfl (f_skip (f_seq (f_block (q_ (m_ (.int .i64 v4) rfl (a_ (.int .i64 v4) rfl (f_nil (f_seq (f_ck fun g2 => f_bind fun x3 hx3 => f_ck fun g4 => f_bind fun x5 hx5 => f_draw (Φ := fun _ => True) (lim := 1000000) [0, 0, 0, 1, 0, 0, 0, 1, 0] (tm (.sl v1) rfl (tm (.int .i64 v4) rfl (t_ rfl (fun _ => s_idx underlying22 ty9 rfl rfl g2) (tr rfl (s_load underlying9 rfl rfl (ldStr_eq hx3)) (tm (.sl v2) rfl (tm (.int .i64 v4) rfl (t_ rfl (fun _ => s_idx underlying22 ty9 rfl rfl g4) (tr rfl (s_load underlying9 rfl rfl (ldStr_eq hx5)) (t_ rfl (fun _ => s_neStr rfl rfl) (Trc.nil (fun _ => trivial))))))))))) rfl (by decide +kernel) mixed ?_)))))))))
      refine f_if (fun h6 => ?_) (fun h6 => ?_)
      · exact f_know 24 rfl (bool_notT h6) (f_condF rfl (f_skip (f_inBlock (f_region (p_ rfl (s_add rfl rfl) (m_ (.int .i64 (w64 (v4 + 1))) rfl (f_nil (f_inLoop (f_keep [0, 1, 12, 13] (ih v1 v2 v3 (w64 (v4 + 1)) H))))))))))
      · exact f_know 24 rfl (bool_notF h6) (f_condT rfl (q_ (a_ (.bool false) rfl (f_nil (f_ret (.tmp rfl (.nil)) rfl)))))
    · exact kF 14 h1 rfl (f_exit rfl (q_ (a_ (.bool true) rfl (f_nil (f_ret (.tmp rfl (.nil)) rfl)))))

theorem sim42 {a0 : Sl} {a1 : Sl} {H : Hp} {p : Bool × Hp} (h : r42 a0 a1 H = some p) : CallSim prog 42 [.sl a0, .sl a1] H (.bool p.1) p.2 := by
  refine callSim (fn := f42) (ret := ret42) func42 rfl Tryz.ntmps42 rfl ?_ h
  unfold r42
  refine q_ (a_ (.bool false) rfl (f_nil (f_seq (q_ (m_ (.sl a0) rfl (p_ rfl (s_lenS rfl underlying22 rfl) (m_ (.sl a1) rfl (p_ rfl (s_lenS rfl underlying22 rfl) (p_ rfl (s_neq rfl rfl) (f_nil ?_))))))))))
  refine f_if (fun h1 => ?_) (fun h1 => ?_)
  · exact kT 10 h1 rfl (q_ (a_ (.bool false) rfl (f_nil (f_ret (.tmp rfl (.nil)) rfl))))
  · exact kF 10 h1 rfl (f_skip (f_seq (q_ (m_ (.sl a0) rfl (p_ rfl (s_lenS rfl underlying22 rfl) (m_ (.int .i64 0) rfl (f_nil (f_block (f_loop (f_keep [0, 1, 12, 13] (s42_l0 FUEL a0 a1 (a0.len : Int) 0 H)))))))))))

/- 137 slices.Reverse[[]int,int] -/
theorem ok137 : FnOk prog 137 := ⟨⟨f137, func137, by kernel_rfl, rfl⟩⟩
theorem s137_l0 : ∀ (k_ : Nat) (v1 : Sl) (v2 v3 : Int) (H : Hp), Fin prog f137 ret137 28 (todoAt (bodyOf f137) [1, 0, 0] []) [(0, .sl v1), (2, .int .i64 v2), (3, .int .i64 v3)] H (r137_l0 k_ v1 v2 v3 H) := by
  intro k_
  induction k_ with
  | zero => intro _ _ _ _; exact f_none
  | succ k_ ih =>
    intro v1 v2 v3 H
    rw [r137_l0]
    refine f_seq (q_ (m_ (.int .i64 v2) rfl (m_ (.int .i64 v3) rfl (p_ rfl (s_lss rfl rfl) (f_nil ?_)))))
    refine f_if (fun h1 => ?_) (fun h1 => ?_)
    · refine kT 9 h1 rfl (f_skip (f_seq (f_block (f_ck fun g2 => f_bind fun x3 hx3 => f_ck fun g4 => f_bind fun x5 hx5 => f_ck fun g6 => f_bind fun H7 hH7 => f_ck fun g8 => f_bind fun H9 hH9 => f_draw (Φ := fun _ => True) (lim := 1000000) [0, 0, 0, 0, 0, 0, 0, 1, 0, 0, 0, 1, 0, 2, 0, 2] (tm (.sl v1) rfl (tm (.int .i64 v2) rfl (tm (.sl v1) rfl (tm (.int .i64 v3) rfl (tm (.sl v1) rfl (tm (.int .i64 v3) rfl (t_ rfl (fun _ => s_idx underlying25 ty3 rfl rfl g2) (tr rfl (s_load underlying3 rfl rfl (ldI_eq hx3)) (tm (.sl v1) rfl (tm (.int .i64 v2) rfl (t_ rfl (fun _ => s_idx underlying25 ty3 rfl rfl g4) (tr rfl (s_load underlying3 rfl rfl (ldI_eq hx5)) (t_ rfl (fun _ => s_idx underlying25 ty3 rfl rfl g6) (Trc.eff rfl rfl rfl (fun _ => trivial) (s_store (s := 1) ty3 rfl rfl rfl hH7) (t_ rfl (fun _ => s_idx underlying25 ty3 rfl rfl g8) (Trc.eff rfl rfl rfl (fun _ => trivial) (s_store (s := 1) ty3 rfl rfl rfl hH9) (Trc.nil (fun _ => trivial)))))))))))))))))) rfl (by decide +kernel) mixed (f_inBlock (f_region ?_))))))
      exact m_ (.int .i64 v2) rfl (p_ rfl (s_add rfl rfl) (m_ (.int .i64 v3) rfl (p_ rfl (s_sub rfl rfl) (a_ (.int .i64 (w64 (v2 + 1))) rfl (a_ (.int .i64 (w64 (v3 - 1))) rfl (f_nil (f_inLoop (f_keep [0, 2, 3] (ih v1 (w64 (v2 + 1)) (w64 (v3 - 1)) H9)))))))))
    · exact kF 9 h1 rfl (f_exit rfl (f_end (.nil) rfl))

theorem sim137 {a0 : Sl} {H : Hp} {p : Unit × Hp} (h : r137 a0 H = some p) : CallSim prog 137 [.sl a0] H (.tup []) p.2 := by
  refine callSim (fn := f137) (ret := ret137) func137 rfl Tryz.ntmps137 rfl ?_ h
  unfold r137
  exact q_ (m_ (.sl a0) rfl (p_ rfl (s_lenS rfl underlying25 rfl) (p_ rfl (s_sub rfl rfl) (a_ (.int .i64 0) rfl (a_ (.int .i64 (w64 ((a0.len : Int) - 1))) rfl (f_nil (f_block (f_loop (f_keep [0, 2, 3] (s137_l0 FUEL a0 0 (w64 ((a0.len : Int) - 1)) H))))))))))

/- 81 (*congou/chest.Chest).way -/
theorem ok81 : FnOk prog 81 := ⟨⟨f81, func81, by kernel_rfl, rfl⟩⟩
theorem s81_l0 : ∀ (k_ v1 v2 : Nat) (v3 : Sl) (v4 : Int) (H : Hp), Fin prog f81 ret81 25 (todoAt (bodyOf f81) [1, 1, 0, 1, 0, 0] []) [(0, .ptr v1 v2), (5, .sl v3), (6, .int .i64 v4)] H (r81_l0 k_ v1 v2 v3 v4 H) := by
  intro k_
  induction k_ with
  | zero => intro _ _ _ _ _; exact f_none
  | succ k_ ih =>
    intro v1 v2 v3 v4 H
    rw [r81_l0]
    refine f_seq (q_ (m_ (.int .i64 v4) rfl (p_ rfl (s_neq rfl rfl) (f_nil ?_))))
    refine f_if (fun h1 => ?_) (fun h1 => ?_)
    · refine kT 9 h1 rfl (f_skip (f_seq (f_block (f_region (m_ (.sl v3) rfl (m_ (.int .i64 v4) rfl (p_ rfl (s_buildSlice (cs := [.int .i64 v4]) underlying25 ty3 (by decide) (by decide) rfl (by decide) rfl) (o_bind fun x2 hx2 => p_ rfl (s_ap rfl rfl underlying25 underlying25 ty3 rfl rfl rfl rfl rfl rfl rfl hx2) (a_ (.sl x2.1) rfl (f_nil (f_inBlock (f_region (m_ (.ptr v1 v2) rfl ?_)))))))))))))
      exact p_ rfl (s_nilCheck rfl) (p_ rfl (s_fieldAddr underlying118 rfl ty116 rfl) (o_bind fun x3 hx3 => p_ rfl (s_load underlying116 rfl rfl (ldSl_eq hx3)) (m_ (.int .i64 v4) rfl (o_ck fun g4 => p_ rfl (s_idx underlying116 ty120 rfl rfl g4) (p_ rfl (s_fieldAddr underlying120 rfl ty3 rfl) (o_bind fun x5 hx5 => p_ rfl (s_load underlying3 rfl rfl (ldI_eq hx5)) (a_ (.int .i64 x5) rfl (f_nil (f_inLoop (f_keep [0, 5, 6] (ih v1 v2 x2.1 x5 x2.2)))))))))))
    · exact kF 9 h1 rfl (f_exit rfl (q_ (m_ (.sl v3) rfl (o_bind fun p6 hp6 => p_ rfl (s_callF rfl ok137 (sim137 hp6)) (n_ (m_ (.sl v3) rfl (a_ (.sl v3) rfl (f_nil (f_ret (.tmp rfl (.nil)) rfl)))))))))

theorem sim81 {a0b : Nat} {a0o : Nat} {a1 : Int} {H : Hp} {p : Sl × Hp} (h : r81 a0b a0o a1 H = some p) : CallSim prog 81 [.ptr a0b a0o, .int .i64 a1] H (.sl p.1) p.2 := by
  refine callSim (fn := f81) (ret := ret81) func81 rfl Tryz.ntmps81 rfl ?_ h
  unfold r81
  refine q_ (a_ (.sl ⟨true, 0, 0, 0, 0, 0⟩) rfl (n_ (a_ (.sl ⟨true, 0, 0, 0, 0, 0⟩) rfl (f_nil (f_seq (q_ (m_ (.int .i64 a1) rfl (a_ (.int .i64 a1) rfl (f_nil (f_block (f_loop ?_)))))))))))
  exact f_keep [0, 5, 6] (s81_l0 FUEL a0b a0o ⟨true, 0, 0, 0, 0, 0⟩ a1 H)

/- 43 (*congou/chest.Chest).Path -/
theorem ok43 : FnOk prog 43 := ⟨⟨f43, func43, by kernel_rfl, rfl⟩⟩
theorem s43_l0 : ∀ (k_ v1 v2 : Nat) (v3 v4 : Sl) (v5 v6 : Int) (H : Hp), Fin prog f43 ret43 32 (todoAt (bodyOf f43) [1, 1, 1, 0, 1, 0, 0] []) [(0, .ptr v1 v2), (3, .sl v3), (13, .sl v4), (14, .int .i64 v5), (15, .int .i64 v6)] H (r43_l0 k_ v1 v2 v3 v4 v5 v6 H) := by
  intro k_
  induction k_ with
  | zero => intro _ _ _ _ _ _ _; exact f_none
  | succ k_ ih =>
    intro v1 v2 v3 v4 v5 v6 H
    rw [r43_l0]
    refine q_ (p_ rfl (s_lss rfl rfl) (f_nil (f_seq ?_)))
    refine f_if (fun h1 => ?_) (fun h1 => ?_)
    · refine kT 16 h1 rfl (f_skip (f_seq (f_block (q_ (o_ck fun g2 => p_ rfl (s_idx underlying25 ty3 rfl rfl g2) (o_bind fun x3 hx3 => p_ rfl (s_load underlying3 rfl rfl (ldI_eq hx3)) (a_ (.int .i64 x3) rfl (f_nil (f_region (m_ (.sl v3) rfl (m_ (.ptr v1 v2) rfl ?_)))))))))))
      refine p_ rfl (s_nilCheck rfl) (p_ rfl (s_fieldAddr underlying118 rfl ty116 rfl) (o_bind fun x4 hx4 => p_ rfl (s_load underlying116 rfl rfl (ldSl_eq hx4)) (m_ (.int .i64 x3) rfl (o_ck fun g5 => p_ rfl (s_idx underlying116 ty120 rfl rfl g5) (p_ rfl (s_fieldAddr underlying120 rfl ty9 rfl) (o_bind fun x6 hx6 => p_ rfl (s_load underlying9 rfl rfl (ldStr_eq hx6)) (p_ rfl (s_buildSlice (cs := [.str x6]) underlying22 ty9 (by decide) (by decide) rfl (by decide) rfl) (o_bind fun x7 hx7 => p_ rfl (s_ap rfl rfl underlying22 underlying22 ty9 rfl rfl rfl rfl rfl rfl rfl hx7) (a_ (.sl x7.1) rfl (f_nil (f_inBlock ?_)))))))))))
      exact f_region (p_ rfl (s_add rfl rfl) (m_ (.int .i64 (w64 (v6 + 1))) rfl (f_nil (f_inLoop (f_keep [0, 3, 13, 14, 15] (ih v1 v2 x7.1 v4 v5 (w64 (v6 + 1)) x7.2))))))
    · exact kF 16 h1 rfl (f_exit rfl (q_ (m_ (.sl v3) rfl (a_ (.sl v3) rfl (f_nil (f_ret (.tmp rfl (.nil)) rfl))))))

theorem sim43 {a0b : Nat} {a0o : Nat} {H : Hp} {p : Sl × Hp} (h : r43 a0b a0o H = some p) : CallSim prog 43 [.ptr a0b a0o] H (.sl p.1) p.2 := by
  refine callSim (fn := f43) (ret := ret43) func43 rfl Tryz.ntmps43 rfl ?_ h
  unfold r43
  refine q_ (a_ (.sl ⟨true, 0, 0, 0, 0, 0⟩) rfl (f_nil (f_seq (q_ (m_ (.ptr a0b a0o) rfl (o_bind fun p1 hp1 => p_ rfl (s_callF rfl ok60 (sim60 hp1)) (f_nil ?_)))))))
  refine f_if (fun h2 => ?_) (fun h2 => ?_)
  · exact bT 7 h2 rfl (q_ (a_ (.sl ⟨true, 0, 0, 0, 0, 0⟩) rfl (f_nil (f_ret (.tmp rfl (.nil)) rfl))))
  · refine bF 7 h2 rfl (f_skip (q_ (a_ (.sl ⟨true, 0, 0, 0, 0, 0⟩) rfl (f_nil (f_seq (q_ (m_ (.ptr a0b a0o) rfl (m_ (.ptr a0b a0o) rfl (p_ rfl (s_nilCheck rfl) (p_ rfl (s_fieldAddr underlying118 rfl ty3 rfl) (o_bind fun x3 hx3 => p_ rfl (s_load underlying3 rfl rfl (ldI_eq hx3)) ?_)))))))))))
    exact o_bind fun p4 hp4 => p_ rfl (s_callF rfl ok81 (sim81 hp4)) (p_ rfl (s_lenS rfl underlying25 rfl) (m_ (.int .i64 0) rfl (f_nil (f_block (f_loop (f_keep [0, 3, 13, 14, 15] (s43_l0 FUEL a0b a0o ⟨true, 0, 0, 0, 0, 0⟩ p4.1 (p4.1.len : Int) 0 p4.2)))))))

/- 44 (*congou/chest.Chest).Children -/
theorem ok44 : FnOk prog 44 := ⟨⟨f44, func44, by kernel_rfl, rfl⟩⟩
theorem s44_j1 (kt0 : Nat → Nat → Sl → Sl → Int → Int → Hp → Option (Sl × Hp)) (hkt0 : ∀ (v1 v2 : Nat) (v3 v4 : Sl) (v5 v6 : Int) (H : Hp), Fin prog f44 ret44 35 (todoAt (bodyOf f44) [1, 1, 1, 0, 1, 0, 0] []) [(0, .ptr v1 v2), (3, .sl v3), (11, .sl v4), (12, .int .i64 v5), (13, .int .i64 v6)] H (kt0 v1 v2 v3 v4 v5 v6 H)) (v1 v2 : Nat) (v3 : Sl) (v4 : Int) (v5 : Sl) (v6 v7 : Int) (v8 : Bool) (H : Hp) : Fin prog f44 ret44 35 (todoAt (bodyOf f44) [1, 1, 1, 0, 1, 0, 0, 1, 1, 0, 0, 1, 1] []) [(0, .ptr v1 v2), (3, .sl v3), (4, .int .i64 v4), (11, .sl v5), (12, .int .i64 v6), (13, .int .i64 v7), (28, .bool v8)] H (r44_j1 kt0 v1 v2 v3 v4 v5 v6 v7 v8 H) := by
  unfold r44_j1
  refine f_if (fun h1 => ?_) (fun h1 => ?_)
  · refine bT 28 h1 rfl (f_region (m_ (.sl v3) rfl (m_ (.int .i64 v4) rfl (p_ rfl (s_buildSlice (cs := [.int .i64 v4]) underlying25 ty3 (by decide) (by decide) rfl (by decide) rfl) (o_bind fun x2 hx2 => p_ rfl (s_ap rfl rfl underlying25 underlying25 ty3 rfl rfl rfl rfl rfl rfl rfl hx2) (a_ (.sl x2.1) rfl (f_nil (f_inBlock (f_region (p_ rfl (s_add rfl rfl) (m_ (.int .i64 (w64 (v7 + 1))) rfl (f_nil (f_inLoop ?_)))))))))))))
    exact f_keep [0, 3, 11, 12, 13] (hkt0 v1 v2 x2.1 v5 v6 (w64 (v7 + 1)) x2.2)
  · exact bF 28 h1 rfl (f_skip (f_inBlock (f_region (p_ rfl (s_add rfl rfl) (m_ (.int .i64 (w64 (v7 + 1))) rfl (f_nil (f_inLoop (f_keep [0, 3, 11, 12, 13] (hkt0 v1 v2 v3 v5 v6 (w64 (v7 + 1)) H)))))))))

theorem s44_l0 : ∀ (k_ v1 v2 : Nat) (v3 v4 : Sl) (v5 v6 : Int) (H : Hp), Fin prog f44 ret44 35 (todoAt (bodyOf f44) [1, 1, 1, 0, 1, 0, 0] []) [(0, .ptr v1 v2), (3, .sl v3), (11, .sl v4), (12, .int .i64 v5), (13, .int .i64 v6)] H (r44_l0 k_ v1 v2 v3 v4 v5 v6 H) := by
  intro k_
  induction k_ with
  | zero => intro _ _ _ _ _ _ _; exact f_none
  | succ k_ ih =>
    intro v1 v2 v3 v4 v5 v6 H
    rw [r44_l0]
    refine q_ (p_ rfl (s_lss rfl rfl) (f_nil (f_seq ?_)))
    refine f_if (fun h1 => ?_) (fun h1 => ?_)
    · refine kT 14 h1 rfl (f_skip (f_seq (f_block (q_ (m_ (.int .i64 v6) rfl (o_ck fun g2 => p_ rfl (s_idx underlying116 ty120 rfl rfl g2) (o_bind fun x3 hx3 => o_bind fun x4 hx4 => o_bind fun x5 hx5 => p_ rfl (s_loads underlying120 rfl ty120 rfl (lds_cons (ldStr_eq hx3) (lds_cons (ldI_eq hx4) (lds_cons (ldP_eq hx5) (lds_nil))))) (p_ rfl (s_alloc (zs := [.str (ByteArray.mk #[]), .int .i64 0, .nilptr]) ty120 rfl rfl) (a_ (.int .i64 v6) rfl ?_)))))))))
      refine o_bind fun H6 hH6 => p_ rfl (s_stores ty120 rfl rfl rfl rfl hH6 (Nat.le_of_eq (sts_mono hH6).symm)) (f_nil (f_seq ?_))
      refine f_if (fun h7 => ?_) (fun h7 => ?_)
      · exact f_bind fun x8 hx8 => f_bind fun x9 hx9 => f_draw (Φ := fun _ => True) (lim := 1000000) [0, 0, 0, 0, 1, 0, 0, 0, 1, 0, 0] (tm (.int .i64 v6) rfl (t_ rfl (fun _ => s_gtr rfl rfl) (tm (.bool (decide (0 < v6))) rfl (Trc.know 20 rfl (dec_true h7) (t_ rfl (fun _ => s_fieldAddr underlying120 rfl ty3 rfl) (tr rfl (s_load underlying3 rfl rfl (ldI_eq hx8)) (tm (.ptr v1 v2) rfl (t_ rfl (fun _ => s_nilCheck rfl) (t_ rfl (fun _ => s_fieldAddr underlying118 rfl ty3 rfl) (tr rfl (s_load underlying3 rfl rfl (ldI_eq hx9)) (t_ rfl (fun _ => s_eql rfl rfl) (t_ rfl (fun _ => s_pickT (v := .bool (decide (x8 = x9))) rfl rfl) (Trc.nil (fun _ => trivial)))))))))))))) rfl (by decide +kernel) mixed (f_keep [0, 3, 4, 11, 12, 13, 28] (s44_j1 _ ih v1 v2 v3 v6 v4 v5 v6 (decide (x8 = x9)) H6))
      · exact f_draw (Φ := fun _ => True) (lim := 1000000) [0, 0, 0, 0, 0, 0, 0, 0, 0, 0, 0] (tm (.int .i64 v6) rfl (t_ rfl (fun _ => s_gtr rfl rfl) (tm (.bool (decide (0 < v6))) rfl (Trc.know 20 rfl (dec_false h7) (Trc.no rfl rfl rfl (Trc.no rfl rfl rfl (Trc.no rfl rfl rfl (Trc.no rfl rfl rfl (Trc.no rfl rfl rfl (Trc.no rfl rfl rfl (Trc.no rfl rfl rfl (t_ rfl (fun _ => s_pickF (v := .bool false) rfl rfl) (Trc.nil (fun _ => trivial)))))))))))))) rfl (by decide +kernel) mixed (f_keep [0, 3, 4, 11, 12, 13, 28] (s44_j1 _ ih v1 v2 v3 v6 v4 v5 v6 false H6))
    · exact kF 14 h1 rfl (f_exit rfl (q_ (m_ (.sl v3) rfl (a_ (.sl v3) rfl (f_nil (f_ret (.tmp rfl (.nil)) rfl))))))

theorem sim44 {a0b : Nat} {a0o : Nat} {H : Hp} {p : Sl × Hp} (h : r44 a0b a0o H = some p) : CallSim prog 44 [.ptr a0b a0o] H (.sl p.1) p.2 := by
  refine callSim (fn := f44) (ret := ret44) func44 rfl Tryz.ntmps44 rfl ?_ h
  unfold r44
  refine q_ (a_ (.sl ⟨true, 0, 0, 0, 0, 0⟩) rfl (f_nil (f_seq (q_ (m_ (.ptr a0b a0o) rfl (o_bind fun p1 hp1 => p_ rfl (s_callF rfl ok60 (sim60 hp1)) (f_nil ?_)))))))
  refine f_if (fun h2 => ?_) (fun h2 => ?_)
  · exact bT 7 h2 rfl (q_ (a_ (.sl ⟨true, 0, 0, 0, 0, 0⟩) rfl (f_nil (f_ret (.tmp rfl (.nil)) rfl))))
  · refine bF 7 h2 rfl (f_skip (q_ (a_ (.sl ⟨true, 0, 0, 0, 0, 0⟩) rfl (f_nil (f_seq (q_ (m_ (.ptr a0b a0o) rfl (p_ rfl (s_nilCheck rfl) (p_ rfl (s_fieldAddr underlying118 rfl ty116 rfl) (o_bind fun x3 hx3 => p_ rfl (s_load underlying116 rfl rfl (ldSl_eq hx3)) (p_ rfl (s_lenS rfl underlying116 rfl) ?_)))))))))))
    exact m_ (.int .i64 0) rfl (f_nil (f_block (f_loop (f_keep [0, 3, 11, 12, 13] (s44_l0 FUEL a0b a0o ⟨true, 0, 0, 0, 0, 0⟩ x3 (x3.len : Int) 0 p1.2)))))

end Go.Lt.P10
