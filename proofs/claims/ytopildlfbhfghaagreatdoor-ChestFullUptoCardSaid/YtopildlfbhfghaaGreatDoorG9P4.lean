/- PRINTED BY A PROGRAM OF OURS: what each function that 'ChestFull' reaches computes on the abstract heap, and that the translated code does just that. Nothing is asked of the input. -/
import Derived.Test.YtopildlfbhfghaaGreatDoorG9P3
set_option linter.unusedVariables false
set_option linter.unusedSimpArgs false
set_option maxRecDepth 100000
set_option maxHeartbeats 4000000
namespace Go.Lt.P10
open Go Go.Lt Go.Proofs Go.Proofs.Tryz
/- 138 congou/congouref10.told -/
theorem ok138 : FnOk prog 138 := ⟨⟨f138, func138, by kernel_rfl, rfl⟩⟩
theorem s138_l0 {app : App} (happ : AppSim prog app) : ∀ (k_ : Nat) (v1 : ByteArray) (v2 : Sl) (v3 v4 : Int) (H : Hp), Fin prog f138 ret138 21 (todoAt (bodyOf f138) [1, 0, 1, 0, 0] []) [(0, .str v1), (8, .sl v2), (9, .int .i64 v3), (10, .int .i64 v4)] H (r138_l0 app k_ v1 v2 v3 v4 H) := by
  intro k_
  induction k_ with
  | zero => intro _ _ _ _ _; exact f_none
  | succ k_ ih =>
    intro v1 v2 v3 v4 H
    rw [r138_l0]
    refine q_ (p_ rfl (s_lss rfl rfl) (f_nil (f_seq ?_)))
    refine f_if (fun h1 => ?_) (fun h1 => ?_)
    · refine kT 11 h1 rfl (f_skip (f_seq (f_block (q_ (o_ck fun g2 => p_ rfl (s_idx underlying25 ty3 rfl rfl g2) (o_bind fun x3 hx3 => p_ rfl (s_load underlying3 rfl rfl (ldI_eq hx3)) (a_ (.int .i64 x3) rfl (f_nil (f_region (m_ (.str v1) rfl (m_ (.int .i64 x3) rfl ?_)))))))))))
      refine o_bind fun p4 hp4 => o_bind fun x5 hx5 => p_ rfl (s_callA happ rfl hp4) (o_know 16 rfl (asStr_eq hx5) (o_ck fun g6 => p_ rfl (s_addStr rfl rfl g6) (o_ck fun g7 => p_ rfl (s_addStr rfl rfl g7) (a_ (.str (v1 ++ ((ByteArray.mk #[32]) ++ x5))) rfl (f_nil (f_inBlock (f_region (p_ rfl (s_add rfl rfl) (m_ (.int .i64 (w64 (v4 + 1))) rfl (f_nil (f_inLoop ?_)))))))))))
      exact f_keep [0, 8, 9, 10] (ih (v1 ++ ((ByteArray.mk #[32]) ++ x5)) v2 v3 (w64 (v4 + 1)) p4.2)
    · exact kF 11 h1 rfl (f_exit rfl (q_ (m_ (.str v1) rfl (a_ (.str v1) rfl (a_ (.int .i64 0) rfl (f_nil (f_ret (.tmp rfl (.tmp rfl (.nil))) rfl)))))))

theorem sim138 {app : App} (happ : AppSim prog app) {a0 : ByteArray} {a1 : Sl} {H : Hp} {p : (ByteArray × Int) × Hp} (h : r138 app a0 a1 H = some p) : CallSim prog 138 [.str a0, .sl a1] H (.tup [.str p.1.1, .int .i64 p.1.2]) p.2 := by
  refine callSim (fn := f138) (ret := ret138) func138 rfl Tryz.ntmps138 rfl ?_ h
  unfold r138
  exact q_ (a_ (.str (ByteArray.mk #[])) rfl (a_ (.int .i64 0) rfl (f_nil (f_seq (q_ (m_ (.sl a1) rfl (p_ rfl (s_lenS rfl underlying25 rfl) (m_ (.int .i64 0) rfl (f_nil (f_block (f_loop (f_keep [0, 8, 9, 10] (s138_l0 happ FUEL a0 a1 (a1.len : Int) 0 H)))))))))))))

/- 83 congou/congouref10.Text -/
theorem ok83 : FnOk prog 83 := ⟨⟨f83, func83, by kernel_rfl, rfl⟩⟩
theorem s83_l2 {app : App} (happ : AppSim prog app) : ∀ (k_ : Nat) (v1 : ByteArray) (v2 : Sl) (v3 v4 : Int) (H : Hp), Fin prog f83 ret83 82 (todoAt (bodyOf f83) [1, 1, 1, 1, 1, 1, 1, 0, 1, 0, 0] []) [(3, .str v1), (62, .sl v2), (63, .int .i64 v3), (64, .int .i64 v4)] H (r83_l2 app k_ v1 v2 v3 v4 H) := by
  intro k_
  induction k_ with
  | zero => intro _ _ _ _ _; exact f_none
  | succ k_ ih =>
    intro v1 v2 v3 v4 H
    rw [r83_l2]
    refine q_ (p_ rfl (s_lss rfl rfl) (f_nil (f_seq ?_)))
    refine f_if (fun h1 => ?_) (fun h1 => ?_)
    · refine kT 65 h1 rfl (f_skip (f_seq (f_block (q_ (o_ck fun g2 => p_ rfl (s_idx underlying27 ty101 rfl rfl g2) (o_bind fun x3 hx3 => o_bind fun x4 hx4 => p_ rfl (s_loads underlying101 rfl ty101 rfl (lds_cons (ldI_eq hx3) (lds_cons (ldI_eq hx4) (lds_nil)))) (p_ rfl (s_alloc (zs := [.int .i64 0, .int .i64 0]) ty101 rfl rfl) (o_bind fun H5 hH5 => p_ rfl (s_stores ty101 rfl rfl rfl rfl hH5 (Nat.le_of_eq (sts_mono hH5).symm)) (f_nil ?_)))))))))
      refine f_bind fun x6 hx6 => f_bind fun p7 hp7 => f_bind fun x8 hx8 => f_ck fun g9 => f_ck fun g10 => f_bind fun x11 hx11 => f_bind fun p12 hp12 => f_bind fun x13 hx13 => f_ck fun g14 => f_ck fun g15 => f_ck fun g16 => f_draw (Φ := fun H_ => H_.ld H.n (0 + (1 : Int).toNat * 1) = some (.int .i64 x11)) (lim := 8) [0, 0, 1, 2, 0, 0, 0, 0, 2, 0, 0, 0] (tm (.str v1) rfl (t_ rfl (fun _ => s_idxA underlying101 ty3 rfl rfl (by decide)) (tr rfl (s_load underlying3 rfl rfl (ldI_eq hx6)) (Trc.eff rfl rfl rfl (fun _ => ldI_eq g16) (s_callA happ rfl hp7) (Trc.know 71 rfl (asStr_eq hx8) (t_ rfl (fun _ => s_addStr rfl rfl g9) (t_ rfl (fun _ => s_addStr rfl rfl g10) (t_ rfl (fun _ => s_idxA underlying101 ty3 rfl rfl (by decide)) (Trc.pure rfl rfl rfl (.inr ⟨by decide +kernel, fun _ hp_ => s_load underlying3 rfl rfl hp_⟩) (Trc.eff rfl rfl rfl (fun _ => ldI_eq hx11) (s_callA happ rfl hp12) (Trc.know 76 rfl (asStr_eq hx13) (t_ rfl (fun _ => s_addStr rfl rfl g14) (t_ rfl (fun _ => s_addStr rfl rfl g15) (t_ rfl (fun _ => s_as (v := .str (v1 ++ ((((ByteArray.mk #[32]) ++ x8) ++ (ByteArray.mk #[44])) ++ x13))) rfl) (Trc.nil (fun h_ => absurd h_ (by decide +kernel))))))))))))))))) rfl (by decide +kernel) mixed (f_inBlock (f_region (p_ rfl (s_add rfl rfl) (m_ (.int .i64 (w64 (v4 + 1))) rfl ?_))))
      exact f_nil (f_inLoop (f_keep [3, 62, 63, 64] (ih (v1 ++ ((((ByteArray.mk #[32]) ++ x8) ++ (ByteArray.mk #[44])) ++ x13)) v2 v3 (w64 (v4 + 1)) p12.2)))
    · exact kF 65 h1 rfl (f_exit rfl (q_ (m_ (.str v1) rfl (o_ck fun g17 => p_ rfl (s_addStr rfl rfl g17) (a_ (.str (v1 ++ (ByteArray.mk #[10]))) rfl (f_nil (f_ret (.tmp rfl (.nil)) rfl)))))))

theorem s83_l1 {app : App} (happ : AppSim prog app) : ∀ (k_ v1 : Nat) (v2 : ByteArray) (v3 : Sl) (v4 v5 : Int) (H : Hp), Fin prog f83 ret83 82 (todoAt (bodyOf f83) [1, 1, 1, 1, 0, 1, 0, 0] []) [(1, .ptr v1 0), (3, .str v2), (34, .sl v3), (35, .int .i64 v4), (36, .int .i64 v5)] H (r83_l1 app k_ v1 v2 v3 v4 v5 H) := by
  intro k_
  induction k_ with
  | zero => intro _ _ _ _ _ _; exact f_none
  | succ k_ ih =>
    intro v1 v2 v3 v4 v5 H
    rw [r83_l1]
    refine q_ (p_ rfl (s_lss rfl rfl) (f_nil (f_seq ?_)))
    refine f_if (fun h1 => ?_) (fun h1 => ?_)
    · refine kT 37 h1 rfl (f_skip (f_seq (f_block (q_ (o_ck fun g2 => p_ rfl (s_idx underlying25 ty3 rfl rfl g2) (o_bind fun x3 hx3 => p_ rfl (s_load underlying3 rfl rfl (ldI_eq hx3)) (a_ (.int .i64 x3) rfl (f_nil (f_region (m_ (.str v2) rfl (p_ rfl (s_fieldAddr underlying144 rfl ty142 rfl) ?_)))))))))))
      refine o_bind fun x4 hx4 => p_ rfl (s_load underlying142 rfl rfl (ldSl_eq hx4)) (m_ (.int .i64 x3) rfl (o_ck fun g5 => p_ rfl (s_idx underlying142 ty193 rfl rfl g5) (p_ rfl (s_fieldAddr underlying193 rfl ty9 rfl) (o_bind fun x6 hx6 => p_ rfl (s_load underlying9 rfl rfl (ldStr_eq hx6)) (o_ck fun g7 => p_ rfl (s_addStr rfl rfl g7) (o_ck fun g8 => p_ rfl (s_addStr rfl rfl g8) (a_ (.str (v2 ++ ((ByteArray.mk #[32]) ++ x6))) rfl (f_nil (f_inBlock (f_region ?_))))))))))
      exact p_ rfl (s_add rfl rfl) (m_ (.int .i64 (w64 (v5 + 1))) rfl (f_nil (f_inLoop (f_keep [1, 3, 34, 35, 36] (ih v1 (v2 ++ ((ByteArray.mk #[32]) ++ x6)) v3 v4 (w64 (v5 + 1)) H)))))
    · refine kF 37 h1 rfl (f_exit rfl (q_ (p_ rfl (s_fieldAddr underlying144 rfl ty26 rfl) (p_ rfl (s_sliceA underlying26 ty3 rfl rfl rfl (by decide)) (o_bind fun p9 hp9 => p_ rfl (s_callF rfl ok138 (sim138 happ hp9)) (m_ (.tup [.str p9.1.1, .int .i64 p9.1.2]) rfl (p_ rfl (s_extract (r := .str p9.1.1) rfl rfl) (p_ rfl (s_extract (r := .int .i64 p9.1.2) rfl rfl) (a_ (.str p9.1.1) rfl (a_ (.int .i64 p9.1.2) rfl (f_nil (f_seq ?_))))))))))))
      refine f_region (m_ (.str v2) rfl (m_ (.str p9.1.1) rfl (o_ck fun g10 => p_ rfl (s_addStr rfl rfl g10) (o_ck fun g11 => p_ rfl (s_addStr rfl rfl g11) (o_ck fun g12 => p_ rfl (s_addStr rfl rfl g12) (a_ (.str (v2 ++ (((ByteArray.mk #[10]) ++ p9.1.1) ++ (ByteArray.mk #[10, 111, 102, 102, 101, 114, 115])))) rfl (f_nil (f_seq (q_ (p_ rfl (s_fieldAddr underlying144 rfl ty27 rfl) (o_bind fun x13 hx13 => ?_)))))))))))
      exact p_ rfl (s_load underlying27 rfl rfl (ldSl_eq hx13)) (p_ rfl (s_lenS rfl underlying27 rfl) (m_ (.int .i64 0) rfl (f_nil (f_block (f_loop (f_keep [3, 62, 63, 64] (s83_l2 happ FUEL (v2 ++ (((ByteArray.mk #[10]) ++ p9.1.1) ++ (ByteArray.mk #[10, 111, 102, 102, 101, 114, 115]))) x13 (x13.len : Int) 0 p9.2)))))))

theorem s83_l0 {app : App} (happ : AppSim prog app) : ∀ (k_ v1 : Nat) (v2 : ByteArray) (v3 : Sl) (v4 v5 : Int) (H : Hp), Fin prog f83 ret83 82 (todoAt (bodyOf f83) [1, 1, 0, 1, 0, 0] []) [(1, .ptr v1 0), (3, .str v2), (13, .sl v3), (14, .int .i64 v4), (15, .int .i64 v5)] H (r83_l0 app k_ v1 v2 v3 v4 v5 H) := by
  intro k_
  induction k_ with
  | zero => intro _ _ _ _ _ _; exact f_none
  | succ k_ ih =>
    intro v1 v2 v3 v4 v5 H
    rw [r83_l0]
    refine q_ (p_ rfl (s_lss rfl rfl) (f_nil (f_seq ?_)))
    refine f_if (fun h1 => ?_) (fun h1 => ?_)
    · refine kT 16 h1 rfl (f_skip (f_seq (f_block (q_ (o_ck fun g2 => p_ rfl (s_idx underlying142 ty193 rfl rfl g2) (o_bind fun x3 hx3 => o_bind fun x4 hx4 => p_ rfl (s_loads underlying193 rfl ty193 rfl (lds_cons (ldStr_eq hx3) (lds_cons (ldI_eq hx4) (lds_nil)))) (p_ rfl (s_alloc (zs := [.str (ByteArray.mk #[]), .int .i64 0]) ty193 rfl rfl) (o_bind fun H5 hH5 => p_ rfl (s_stores ty193 rfl rfl rfl rfl hH5 (Nat.le_of_eq (sts_mono hH5).symm)) (f_nil ?_)))))))))
      refine f_bind fun x6 hx6 => f_ck fun g7 => f_ck fun g8 => f_bind fun x9 hx9 => f_bind fun p10 hp10 => f_bind fun x11 hx11 => f_ck fun g12 => f_ck fun g13 => f_ck fun g14 => f_ck fun g15 => f_draw (Φ := fun H_ => H_.ld H.n (0 + 0) = some (.str x6)) (lim := 1000000) [0, 0, 0, 0, 0, 0, 1, 2, 0, 0, 0, 0] (tm (.str v2) rfl (t_ rfl (fun _ => s_fieldAddr underlying193 rfl ty9 rfl) (Trc.pure rfl rfl rfl (.inr ⟨by decide +kernel, fun _ hp_ => s_load underlying9 rfl rfl hp_⟩) (t_ rfl (fun _ => s_addStr rfl rfl g7) (t_ rfl (fun _ => s_addStr rfl rfl g8) (t_ rfl (fun _ => s_fieldAddr underlying193 rfl ty3 rfl) (tr rfl (s_load underlying3 rfl rfl (ldI_eq hx9)) (Trc.eff rfl rfl rfl (fun _ => ldStr_eq hx6) (s_callA happ rfl hp10) (Trc.know 26 rfl (asStr_eq hx11) (t_ rfl (fun _ => s_addStr rfl rfl g12) (t_ rfl (fun _ => s_addStr rfl rfl g13) (t_ rfl (fun _ => s_addStr rfl rfl g14) (t_ rfl (fun _ => s_as (v := .str (v2 ++ (((((ByteArray.mk #[108, 101, 97, 102, 32]) ++ x6) ++ (ByteArray.mk #[32])) ++ x11) ++ (ByteArray.mk #[10])))) rfl) (Trc.nil (fun _ => ldStr_eq g15))))))))))))))) rfl (by decide +kernel) mixed (f_inBlock (f_region (p_ rfl (s_add rfl rfl) (m_ (.int .i64 (w64 (v5 + 1))) rfl (f_nil ?_)))))
      exact f_inLoop (f_keep [1, 3, 13, 14, 15] (ih v1 (v2 ++ (((((ByteArray.mk #[108, 101, 97, 102, 32]) ++ x6) ++ (ByteArray.mk #[32])) ++ x11) ++ (ByteArray.mk #[10]))) v3 v4 (w64 (v5 + 1)) p10.2))
    · refine kF 16 h1 rfl (f_exit rfl (q_ (m_ (.str v2) rfl (o_ck fun g16 => p_ rfl (s_addStr rfl rfl g16) (a_ (.str (v2 ++ (ByteArray.mk #[111, 114, 100, 101, 114, 115]))) rfl (f_nil (f_seq (q_ (p_ rfl (s_fieldAddr underlying144 rfl ty25 rfl) (o_bind fun x17 hx17 => p_ rfl (s_load underlying25 rfl rfl (ldSl_eq hx17)) ?_))))))))))
      exact p_ rfl (s_lenS rfl underlying25 rfl) (m_ (.int .i64 0) rfl (f_nil (f_block (f_loop (f_keep [1, 3, 34, 35, 36] (s83_l1 happ FUEL v1 (v2 ++ (ByteArray.mk #[111, 114, 100, 101, 114, 115])) x17 (x17.len : Int) 0 H))))))

theorem sim83 {app : App} (happ : AppSim prog app) {a0_0 : Sl} {a0_1 : Sl} {a0_2 : Int} {a0_3 : Int} {a0_4 : Int} {a0_5 : Int} {a0_6 : Sl} {H : Hp} {p : ByteArray × Hp} (h : r83 app a0_0 a0_1 a0_2 a0_3 a0_4 a0_5 a0_6 H = some p) : CallSim prog 83 [.agg [.sl a0_0, .sl a0_1, .int .i64 a0_2, .int .i64 a0_3, .int .i64 a0_4, .int .i64 a0_5, .sl a0_6]] H (.str p.1) p.2 := by
  refine callSim (fn := f83) (ret := ret83) func83 rfl Tryz.ntmps83 rfl ?_ h
  unfold r83
  refine q_ (p_ rfl (s_box (v := .agg [.sl a0_0, .sl a0_1, .int .i64 a0_2, .int .i64 a0_3, .int .i64 a0_4, .int .i64 a0_5, .sl a0_6]) rfl rfl) (a_ (.str (ByteArray.mk #[])) rfl (o_hp fun H1 hH1 => n_ (a_ (.str (ByteArray.mk #[])) rfl (f_nil (f_seq (q_ (p_ rfl (s_fieldAddr underlying144 rfl ty142 rfl) (o_bind fun x2 hx2 => p_ rfl (s_load underlying142 rfl rfl (ldSl_eq hx2)) ?_)))))))))
  exact p_ rfl (s_lenS rfl underlying142 rfl) (m_ (.int .i64 0) rfl (f_nil (f_block (f_loop (f_keep [1, 3, 13, 14, 15] (s83_l0 happ FUEL H.n (ByteArray.mk #[]) x2 (x2.len : Int) 0 H1))))))

/- 139 (*congou/congouref10.Chest).Way -/
theorem ok139 : FnOk prog 139 := ⟨⟨f139, func139, by kernel_rfl, rfl⟩⟩
theorem sim139 {app : App} (happ : AppSim prog app) {a0b : Nat} {a0o : Nat} {a1 : Int} {H : Hp} {p : Sl × Hp} (h : r139 app a0b a0o a1 H = some p) : CallSim prog 139 [.ptr a0b a0o, .int .i64 a1] H (.sl p.1) p.2 := by
  refine callSim (fn := f139) (ret := ret139) func139 rfl Tryz.ntmps139 rfl ?_ h
  unfold r139
  refine q_ (a_ (.sl ⟨true, 0, 0, 0, 0, 0⟩) rfl (f_nil (f_seq (q_ (m_ (.int .i64 a1) rfl (p_ rfl (s_eql rfl rfl) (f_nil ?_)))))))
  refine f_if (fun h1 => ?_) (fun h1 => ?_)
  · exact kT 7 h1 rfl (q_ (a_ (.sl ⟨true, 0, 0, 0, 0, 0⟩) rfl (f_nil (f_ret (.tmp rfl (.nil)) rfl))))
  · refine kF 7 h1 rfl (f_skip (q_ (m_ (.ptr a0b a0o) rfl (m_ (.ptr a0b a0o) rfl (p_ rfl (s_nilCheck rfl) (p_ rfl (s_fieldAddr underlying140 rfl ty138 rfl) (o_bind fun x2 hx2 => p_ rfl (s_load underlying138 rfl rfl (ldSl_eq hx2)) (m_ (.int .i64 a1) rfl (o_ck fun g3 => p_ rfl (s_idx underlying138 ty152 rfl rfl g3) (p_ rfl (s_fieldAddr underlying152 rfl ty3 rfl) (o_bind fun x4 hx4 => ?_)))))))))))
    refine p_ rfl (s_load underlying3 rfl rfl (ldI_eq hx4)) (o_bind fun p5 hp5 => o_bind fun x6 hx6 => p_ rfl (s_callA happ rfl hp5) (o_know 17 rfl (asSl_eq hx6) (a_ (.sl x6) rfl (n_ (m_ (.sl x6) rfl (m_ (.sl x6) rfl (p_ rfl (s_lenS rfl underlying25 rfl) (m_ (.sl x6) rfl (p_ rfl (s_lenS rfl underlying25 rfl) (o_ck fun g7 => p_ rfl (s_slice3 underlying25 ty3 rfl rfl rfl rfl g7) ?_))))))))))
    exact m_ (.int .i64 a1) rfl (p_ rfl (s_buildSlice (cs := [.int .i64 a1]) underlying25 ty3 (by decide) (by decide) rfl (by decide) rfl) (o_bind fun x8 hx8 => p_ rfl (s_ap rfl rfl underlying25 underlying25 ty3 rfl rfl rfl rfl rfl rfl rfl hx8) (a_ (.sl x8.1) rfl (f_nil (f_ret (.tmp rfl (.nil)) rfl)))))

/- 85 (*congou/congouref10.Chest).Path -/
theorem ok85 : FnOk prog 85 := ⟨⟨f85, func85, by kernel_rfl, rfl⟩⟩
theorem s85_l0 {app : App} (happ : AppSim prog app) : ∀ (k_ v1 v2 : Nat) (v3 v4 : Sl) (v5 v6 : Int) (H : Hp), Fin prog f85 ret85 29 (todoAt (bodyOf f85) [1, 1, 0, 1, 0, 0] []) [(0, .ptr v1 v2), (5, .sl v3), (10, .sl v4), (11, .int .i64 v5), (12, .int .i64 v6)] H (r85_l0 app k_ v1 v2 v3 v4 v5 v6 H) := by
  intro k_
  induction k_ with
  | zero => intro _ _ _ _ _ _ _; exact f_none
  | succ k_ ih =>
    intro v1 v2 v3 v4 v5 v6 H
    rw [r85_l0]
    refine q_ (p_ rfl (s_lss rfl rfl) (f_nil (f_seq ?_)))
    refine f_if (fun h1 => ?_) (fun h1 => ?_)
    · refine kT 13 h1 rfl (f_skip (f_seq (f_block (q_ (o_ck fun g2 => p_ rfl (s_idx underlying25 ty3 rfl rfl g2) (o_bind fun x3 hx3 => p_ rfl (s_load underlying3 rfl rfl (ldI_eq hx3)) (a_ (.int .i64 x3) rfl (f_nil (f_region (m_ (.sl v3) rfl (m_ (.ptr v1 v2) rfl ?_)))))))))))
      refine p_ rfl (s_nilCheck rfl) (p_ rfl (s_fieldAddr underlying140 rfl ty138 rfl) (o_bind fun x4 hx4 => p_ rfl (s_load underlying138 rfl rfl (ldSl_eq hx4)) (m_ (.int .i64 x3) rfl (o_ck fun g5 => p_ rfl (s_idx underlying138 ty152 rfl rfl g5) (p_ rfl (s_fieldAddr underlying152 rfl ty9 rfl) (o_bind fun x6 hx6 => p_ rfl (s_load underlying9 rfl rfl (ldStr_eq hx6)) (p_ rfl (s_buildSlice (cs := [.str x6]) underlying22 ty9 (by decide) (by decide) rfl (by decide) rfl) (o_bind fun x7 hx7 => p_ rfl (s_ap rfl rfl underlying22 underlying22 ty9 rfl rfl rfl rfl rfl rfl rfl hx7) (a_ (.sl x7.1) rfl (f_nil (f_inBlock ?_)))))))))))
      exact f_region (p_ rfl (s_add rfl rfl) (m_ (.int .i64 (w64 (v6 + 1))) rfl (f_nil (f_inLoop (f_keep [0, 5, 10, 11, 12] (ih v1 v2 x7.1 v4 v5 (w64 (v6 + 1)) x7.2))))))
    · exact kF 13 h1 rfl (f_exit rfl (q_ (m_ (.sl v3) rfl (a_ (.sl v3) rfl (f_nil (f_ret (.tmp rfl (.nil)) rfl))))))

theorem sim85 {app : App} (happ : AppSim prog app) {a0b : Nat} {a0o : Nat} {a1 : Int} {H : Hp} {p : Sl × Hp} (h : r85 app a0b a0o a1 H = some p) : CallSim prog 85 [.ptr a0b a0o, .int .i64 a1] H (.sl p.1) p.2 := by
  refine callSim (fn := f85) (ret := ret85) func85 rfl Tryz.ntmps85 rfl ?_ h
  unfold r85
  refine q_ (a_ (.sl ⟨true, 0, 0, 0, 0, 0⟩) rfl (n_ (a_ (.sl ⟨true, 0, 0, 0, 0, 0⟩) rfl (f_nil (f_seq (q_ (m_ (.ptr a0b a0o) rfl (m_ (.int .i64 a1) rfl (o_bind fun p1 hp1 => p_ rfl (s_callF rfl ok139 (sim139 happ hp1)) (p_ rfl (s_lenS rfl underlying25 rfl) ?_))))))))))
  exact m_ (.int .i64 0) rfl (f_nil (f_block (f_loop (f_keep [0, 5, 10, 11, 12] (s85_l0 happ FUEL a0b a0o ⟨true, 0, 0, 0, 0, 0⟩ p1.1 (p1.1.len : Int) 0 p1.2)))))

/- 187 congou/congouref10.Line -/
theorem ok187 : FnOk prog 187 := ⟨⟨f187, func187, by kernel_rfl, rfl⟩⟩
theorem s187_j1 (kt0 : ByteArray → Int → Int → Hp → Option (Bool × Hp)) (hkt0 : ∀ (v1 : ByteArray) (v2 v3 : Int) (H : Hp), Fin prog f187 ret187 35 (todoAt (bodyOf f187) [1, 0, 1, 0, 0] []) [(0, .str v1), (7, .int .i64 v2), (8, .int .i64 v3)] H (kt0 v1 v2 v3 H)) (v1 : ByteArray) (v2 v3 : Int) (v4 : Bool) (H : Hp) : Fin prog f187 ret187 35 (todoAt (bodyOf f187) [1, 0, 1, 0, 0, 1, 1, 0, 0, 1, 1] []) [(0, .str v1), (7, .int .i64 v2), (8, .int .i64 v3), (20, .bool v4)] H (r187_j1 kt0 v1 v2 v3 v4 H) := by
  unfold r187_j1
  refine f_if (fun h1 => ?_) (fun h1 => ?_)
  · exact bT 20 h1 rfl (q_ (a_ (.bool false) rfl (f_nil (f_ret (.tmp rfl (.nil)) rfl))))
  · exact bF 20 h1 rfl (f_skip (f_inBlock (f_region (p_ rfl (s_add rfl rfl) (m_ (.int .i64 (w64 (v3 + 1))) rfl (f_nil (f_inLoop (f_keep [0, 7, 8] (hkt0 v1 v2 (w64 (v3 + 1)) H)))))))))

theorem s187_l2 : ∀ (k_ : Nat) (v1 : ByteArray) (v2 : Sl) (v3 v4 : Int) (H : Hp), Fin prog f187 ret187 35 (todoAt (bodyOf f187) [1, 1, 0, 1, 0, 0] []) [(0, .str v1), (23, .sl v2), (24, .int .i64 v3), (25, .int .i64 v4)] H (r187_l2 k_ v1 v2 v3 v4 H) := by
  intro k_
  induction k_ with
  | zero => intro _ _ _ _ _; exact f_none
  | succ k_ ih =>
    intro v1 v2 v3 v4 H
    rw [r187_l2]
    refine q_ (p_ rfl (s_lss rfl rfl) (f_nil (f_seq ?_)))
    refine f_if (fun h1 => ?_) (fun h1 => ?_)
    · refine kT 26 h1 rfl (f_skip (f_seq (f_block (q_ (o_ck fun g2 => p_ rfl (s_idx underlying22 ty9 rfl rfl g2) (o_bind fun x3 hx3 => p_ rfl (s_load underlying9 rfl rfl (ldStr_eq hx3)) (a_ (.str x3) rfl (n_ (m_ (.str x3) rfl ?_)))))))))
      refine p_ rfl (s_eqStr rfl rfl) (f_nil ?_)
      refine f_if (fun h4 => ?_) (fun h4 => ?_)
      · exact bT 30 h4 rfl (q_ (a_ (.bool false) rfl (f_nil (f_ret (.tmp rfl (.nil)) rfl))))
      · exact bF 30 h4 rfl (f_skip (f_inBlock (f_region (p_ rfl (s_add rfl rfl) (m_ (.int .i64 (w64 (v4 + 1))) rfl (f_nil (f_inLoop (f_keep [0, 23, 24, 25] (ih v1 v2 v3 (w64 (v4 + 1)) H)))))))))
    · exact kF 26 h1 rfl (f_exit rfl (q_ (m_ (.str v1) rfl (p_ rfl (s_lenStr rfl underlying9 rfl) (p_ rfl (s_leq rfl rfl) (a_ (.bool (decide ((v1.size : Int) ≤ 60))) rfl (f_nil (f_ret (.tmp rfl (.nil)) rfl))))))))

theorem s187_l0 : ∀ (k_ : Nat) (v1 : ByteArray) (v2 v3 : Int) (H : Hp), Fin prog f187 ret187 35 (todoAt (bodyOf f187) [1, 0, 1, 0, 0] []) [(0, .str v1), (7, .int .i64 v2), (8, .int .i64 v3)] H (r187_l0 k_ v1 v2 v3 H) := by
  intro k_
  induction k_ with
  | zero => intro _ _ _ _; exact f_none
  | succ k_ ih =>
    intro v1 v2 v3 H
    rw [r187_l0]
    refine q_ (p_ rfl (s_lss rfl rfl) (f_nil (f_seq ?_)))
    refine f_if (fun h1 => ?_) (fun h1 => ?_)
    · refine kT 9 h1 rfl (f_skip (f_seq (f_block (q_ (m_ (.int .i64 v3) rfl (a_ (.int .i64 v3) rfl (n_ (m_ (.str v1) rfl (m_ (.int .i64 v3) rfl (o_ck fun g2 => p_ rfl (s_indexStr underlying9 rfl rfl g2) ?_))))))))))
      refine p_ rfl (s_lss rfl rfl) (m_ (.bool (decide ((bt v1 v3) < 32))) rfl ?_)
      refine o_if (fun h3 => ?_) (fun h3 => ?_)
      · exact o_know 15 rfl (dec_true h3) (no_ rfl (no_ rfl (no_ rfl (no_ rfl (p_ rfl (s_pickT (v := .bool true) rfl rfl) (f_nil (f_keep [0, 7, 8, 20] (s187_j1 _ ih v1 v2 v3 true H))))))))
      · exact o_know 15 rfl (dec_false h3) (m_ (.str v1) rfl (m_ (.int .i64 v3) rfl (o_ck fun g4 => p_ rfl (s_indexStr underlying9 rfl rfl g4) (p_ rfl (s_gtr rfl rfl) (p_ rfl (s_pickF (v := .bool (decide (126 < (bt v1 v3)))) rfl rfl) (f_nil (f_keep [0, 7, 8, 20] (s187_j1 _ ih v1 v2 v3 (decide (126 < (bt v1 v3))) H))))))))
    · exact kF 9 h1 rfl (f_exit rfl (f_seq (q_ (m_ (.str v1) rfl (o_bind fun p5 hp5 => p_ rfl (s_callF rfl ok52 (sim52 hp5)) (p_ rfl (s_lenS rfl underlying22 rfl) (m_ (.int .i64 0) rfl (f_nil (f_block (f_loop (f_keep [0, 23, 24, 25] (s187_l2 FUEL v1 p5.1 (p5.1.len : Int) 0 p5.2))))))))))))

theorem sim187 {a0 : ByteArray} {H : Hp} {p : Bool × Hp} (h : r187 a0 H = some p) : CallSim prog 187 [.str a0] H (.bool p.1) p.2 := by
  refine callSim (fn := f187) (ret := ret187) func187 rfl Tryz.ntmps187 rfl ?_ h
  unfold r187
  exact q_ (a_ (.bool false) rfl (f_nil (f_seq (q_ (m_ (.str a0) rfl (p_ rfl (s_lenStr rfl underlying9 rfl) (m_ (.int .i64 0) rfl (f_nil (f_block (f_loop (f_keep [0, 7, 8] (s187_l0 FUEL a0 (a0.size : Int) 0 H))))))))))))

/- 188 congou/congouref10.number -/
theorem ok188 : FnOk prog 188 := ⟨⟨f188, func188, by kernel_rfl, rfl⟩⟩
theorem s188_j0 {app : App} (happ : AppSim prog app) (v1 : ByteArray) (v2 : Bool) (H : Hp) : Fin prog f188 ret188 35 (todoAt (bodyOf f188) [1, 0, 1] []) [(0, .str v1), (28, .bool v2)] H (r188_j0 app v1 v2 H) := by
  unfold r188_j0
  refine f_if (fun h1 => ?_) (fun h1 => ?_)
  · exact bT 28 h1 rfl (q_ (a_ (.int .i64 0) rfl (a_ (.bool false) rfl (f_nil (f_ret (.tmp rfl (.tmp rfl (.nil))) rfl)))))
  · refine bF 28 h1 rfl (f_skip (q_ (m_ (.str v1) rfl (o_bind fun p2 hp2 => o_bind fun x3 hx3 => o_ck fun g4 => o_bind fun x5 hx5 => o_bind fun x6 hx6 => o_bind fun x7 hx7 => p_ rfl (s_callA happ rfl hp2) (o_know 31 rfl (tupOf2 hx3 g4 (gete hx5 (asI_eq hx6)) (gete hx7 (rfl))) (m_ (.tup [.int .i64 x6, x7]) rfl (p_ rfl (s_extract (r := .int .i64 x6) rfl rfl) ?_)))))))
    exact p_ rfl (s_extract (r := x7) rfl rfl) (a_ (.int .i64 x6) rfl (a_ x7 rfl (n_ (m_ (.int .i64 x6) rfl (a_ (.int .i64 x6) rfl (a_ (.bool true) rfl (f_nil (f_ret (.tmp rfl (.tmp rfl (.nil))) rfl))))))))

theorem sim188 {app : App} (happ : AppSim prog app) {a0 : ByteArray} {H : Hp} {p : (Int × Bool) × Hp} (h : r188 app a0 H = some p) : CallSim prog 188 [.str a0] H (.tup [.int .i64 p.1.1, .bool p.1.2]) p.2 := by
  refine callSim (fn := f188) (ret := ret188) func188 rfl Tryz.ntmps188 rfl ?_ h
  unfold r188
  refine q_ (a_ (.int .i64 0) rfl (a_ (.bool false) rfl (f_nil (f_seq (q_ (m_ (.str a0) rfl (p_ rfl (s_lenStr rfl underlying9 rfl) (p_ rfl (s_lss rfl rfl) (m_ (.bool (decide ((a0.size : Int) < 1))) rfl ?_)))))))))
  refine o_if (fun h1 => ?_) (fun h1 => ?_)
  · refine o_know 9 rfl (dec_true h1) (no_ rfl (no_ rfl (no_ rfl (p_ rfl (s_pickT (v := .bool true) rfl rfl) (m_ (.bool true) rfl (no_ rfl (no_ rfl (no_ rfl (p_ rfl (s_pickT (v := .bool true) rfl rfl) (m_ (.bool true) rfl (no_ rfl (no_ rfl (no_ rfl (no_ rfl (no_ rfl ?_)))))))))))))))
    exact no_ rfl (no_ rfl (no_ rfl (p_ rfl (s_pickT (v := .bool true) rfl rfl) (f_nil (f_keep [0, 28] (s188_j0 happ a0 true H))))))
  · refine o_know 9 rfl (dec_false h1) (m_ (.str a0) rfl (p_ rfl (s_lenStr rfl underlying9 rfl) (p_ rfl (s_gtr rfl rfl) (p_ rfl (s_pickF (v := .bool (decide (3 < (a0.size : Int)))) rfl rfl) (m_ (.bool (decide (3 < (a0.size : Int)))) rfl ?_)))))
    refine o_if (fun h2 => ?_) (fun h2 => ?_)
    · refine o_know 14 rfl (dec_true h2) (no_ rfl (no_ rfl (no_ rfl (p_ rfl (s_pickT (v := .bool true) rfl rfl) (m_ (.bool true) rfl (no_ rfl (no_ rfl (no_ rfl (no_ rfl (no_ rfl (no_ rfl (no_ rfl (no_ rfl (p_ rfl (s_pickT (v := .bool true) rfl rfl) (f_nil ?_)))))))))))))))
      exact f_keep [0, 28] (s188_j0 happ a0 true H)
    · refine o_know 14 rfl (dec_false h2) (m_ (.str a0) rfl (o_bind fun p3 hp3 => o_bind fun x4 hx4 => p_ rfl (s_callA happ rfl hp3) (o_know 16 rfl (asStr_eq hx4) (p_ rfl (s_neStr rfl rfl) (p_ rfl (s_pickF (v := .bool (!(strEq x4 (ByteArray.mk #[])))) rfl rfl) (m_ (.bool (!(strEq x4 (ByteArray.mk #[])))) rfl ?_))))))
      refine o_if (fun h5 => ?_) (fun h5 => ?_)
      · refine o_know 19 rfl (bool_notT h5) (m_ (.str a0) rfl (p_ rfl (s_lenStr rfl underlying9 rfl) (p_ rfl (s_gtr rfl rfl) (m_ (.bool (decide (1 < (a0.size : Int)))) rfl ?_))))
        refine o_if (fun h6 => ?_) (fun h6 => ?_)
        · exact o_know 23 rfl (dec_true h6) (m_ (.str a0) rfl (o_ck fun g7 => p_ rfl (s_indexStr underlying9 rfl rfl g7) (p_ rfl (s_eql rfl rfl) (p_ rfl (s_pickT (v := .bool (decide ((bt a0 0) = 48))) rfl rfl) (p_ rfl (s_pickF (v := .bool (decide ((bt a0 0) = 48))) rfl rfl) (f_nil (f_keep [0, 28] (s188_j0 happ a0 (decide ((bt a0 0) = 48)) p3.2))))))))
        · exact o_know 23 rfl (dec_false h6) (no_ rfl (no_ rfl (no_ rfl (p_ rfl (s_pickF (v := .bool false) rfl rfl) (p_ rfl (s_pickF (v := .bool false) rfl rfl) (f_nil (f_keep [0, 28] (s188_j0 happ a0 false p3.2))))))))
      · exact o_know 19 rfl (bool_notF h5) (no_ rfl (no_ rfl (no_ rfl (no_ rfl (no_ rfl (no_ rfl (no_ rfl (no_ rfl (p_ rfl (s_pickT (v := .bool true) rfl rfl) (f_nil (f_keep [0, 28] (s188_j0 happ a0 true p3.2))))))))))))

/- 189 congou/congouref10.name -/
theorem ok189 : FnOk prog 189 := ⟨⟨f189, func189, by kernel_rfl, rfl⟩⟩
theorem sim189 {app : App} (happ : AppSim prog app) {a0 : ByteArray} {H : Hp} {p : Bool × Hp} (h : r189 app a0 H = some p) : CallSim prog 189 [.str a0] H (.bool p.1) p.2 := by
  refine callSim (fn := f189) (ret := ret189) func189 rfl Tryz.ntmps189 rfl ?_ h
  unfold r189
  refine q_ (a_ (.bool false) rfl (n_ (m_ (.str a0) rfl (p_ rfl (s_lenStr rfl underlying9 rfl) (p_ rfl (s_geq rfl rfl) (m_ (.bool (decide (1 ≤ (a0.size : Int)))) rfl ?_))))))
  refine o_if (fun h1 => ?_) (fun h1 => ?_)
  · refine o_know 6 rfl (dec_true h1) (m_ (.str a0) rfl (p_ rfl (s_lenStr rfl underlying9 rfl) (p_ rfl (s_leq rfl rfl) (p_ rfl (s_pickT (v := .bool (decide ((a0.size : Int) ≤ 8))) rfl rfl) (m_ (.bool (decide ((a0.size : Int) ≤ 8))) rfl ?_)))))
    refine o_if (fun h2 => ?_) (fun h2 => ?_)
    · exact o_know 11 rfl (dec_true h2) (m_ (.str a0) rfl (o_bind fun p3 hp3 => o_bind fun x4 hx4 => p_ rfl (s_callA happ rfl hp3) (o_know 13 rfl (asStr_eq hx4) (p_ rfl (s_eqStr rfl rfl) (p_ rfl (s_pickT (v := .bool (strEq x4 (ByteArray.mk #[]))) rfl rfl) (a_ (.bool (strEq x4 (ByteArray.mk #[]))) rfl (f_nil (f_ret (.tmp rfl (.nil)) rfl))))))))
    · exact o_know 11 rfl (dec_false h2) (no_ rfl (no_ rfl (no_ rfl (p_ rfl (s_pickF (v := .bool false) rfl rfl) (a_ (.bool false) rfl (f_nil (f_ret (.tmp rfl (.nil)) rfl)))))))
  · exact o_know 6 rfl (dec_false h1) (no_ rfl (no_ rfl (no_ rfl (p_ rfl (s_pickF (v := .bool false) rfl rfl) (m_ (.bool false) rfl (no_ rfl (no_ rfl (no_ rfl (p_ rfl (s_pickF (v := .bool false) rfl rfl) (a_ (.bool false) rfl (f_nil (f_ret (.tmp rfl (.nil)) rfl))))))))))))

end Go.Lt.P10
