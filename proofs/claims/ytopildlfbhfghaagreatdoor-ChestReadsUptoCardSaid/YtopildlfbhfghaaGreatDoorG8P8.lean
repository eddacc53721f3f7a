/- PRINTED BY A PROGRAM OF OURS: what each function that 'ChestReads' reaches computes on the abstract heap, and that the translated code does just that. Nothing is asked of the input. -/
import Derived.Test.YtopildlfbhfghaaGreatDoorG8P7
set_option linter.unusedVariables false
set_option linter.unusedSimpArgs false
set_option maxRecDepth 100000
set_option maxHeartbeats 4000000
namespace Go.Lt.P10
open Go Go.Lt Go.Proofs Go.Proofs.Tryz
/- 83 congou/congouref10.Text -/
theorem ok83 : FnOk prog 83 := ⟨⟨f83, func83, by kernel_rfl, rfl⟩⟩
theorem s83_l2 {app : App} (happ : AppSim prog app) : ∀ (k_ : Nat) (v1 : ByteArray) (v2 : Sl) (v3 v4 : Int) (H : Hp), Fin prog f83 ret83 82 (todoAt (bodyOf f83) [1, 1, 1, 1, 1, 1, 1, 0, 1, 0, 0] []) [(3, .str v1), (62, .sl v2), (63, .int .i64 v3), (64, .int .i64 v4)] H (r83_l2 app k_ v1 v2 v3 v4 H) := by
  intro k_
  induction k_ with
  | zero => intro _ _ _ _ _; exact f_none
  | succ k_ ih =>
    intro v1 v2 v3 v4 H
    rw [r83_l2]
    refine q_ (p_ rfl (s_lss rfl rfl) (f_nil (f_seq ?_)))
    refine f_if (fun h1 => ?_) (fun h1 => ?_)
    · refine kT 65 h1 rfl (f_skip (f_seq (f_block (q_ (o_ck fun g2 => p_ rfl (s_idx underlying27 ty101 rfl rfl g2) (o_bind fun x3 hx3 => o_bind fun x4 hx4 => p_ rfl (s_loads underlying101 rfl ty101 rfl (lds_cons (ldI_eq hx3) (lds_cons (ldI_eq hx4) (lds_nil)))) (p_ rfl (s_alloc (zs := [.int .i64 0, .int .i64 0]) ty101 rfl rfl) (o_bind fun H5 hH5 => p_ rfl (s_stores ty101 rfl rfl rfl rfl hH5 (Nat.le_of_eq (sts_mono hH5).symm)) (f_nil ?_)))))))))
      refine f_bind fun x6 hx6 => f_bind fun p7 hp7 => f_bind fun x8 hx8 => f_ck fun g9 => f_ck fun g10 => f_bind fun x11 hx11 => f_bind fun p12 hp12 => f_bind fun x13 hx13 => f_ck fun g14 => f_ck fun g15 => f_ck fun g16 => f_draw (Φ := fun H_ => H_.ld H.n (0 + (1 : Int).toNat * 1) = some (.int .i64 x11)) (lim := 8) [0, 0, 1, 2, 0, 0, 0, 0, 2, 0, 0, 0] (tm (.str v1) rfl (t_ rfl (fun _ => s_idxA underlying101 ty3 rfl rfl (by decide)) (tr rfl (s_load underlying3 rfl rfl (ldI_eq hx6)) (Trc.eff rfl rfl rfl (fun _ => ldI_eq g16) (s_callA happ rfl hp7) (Trc.know 71 rfl (asStr_eq hx8) (t_ rfl (fun _ => s_addStr rfl rfl g9) (t_ rfl (fun _ => s_addStr rfl rfl g10) (t_ rfl (fun _ => s_idxA underlying101 ty3 rfl rfl (by decide)) (Trc.pure rfl rfl rfl (.inr ⟨by decide +kernel, fun _ hp_ => s_load underlying3 rfl rfl hp_⟩) (Trc.eff rfl rfl rfl (fun _ => ldI_eq hx11) (s_callA happ rfl hp12) (Trc.know 76 rfl (asStr_eq hx13) (t_ rfl (fun _ => s_addStr rfl rfl g14) (t_ rfl (fun _ => s_addStr rfl rfl g15) (t_ rfl (fun _ => s_as (v := .str (v1 ++ ((((ByteArray.mk #[32]) ++ x8) ++ (ByteArray.mk #[44])) ++ x13))) rfl) (Trc.nil (fun h_ => absurd h_ (by decide +kernel))))))))))))))))) rfl (by decide +kernel) mixed (f_inBlock (f_region (p_ rfl (s_add rfl rfl) (m_ (.int .i64 (w64 (v4 + 1))) rfl ?_))))
      exact f_nil (f_inLoop (f_keep [3, 62, 63, 64] (ih (v1 ++ ((((ByteArray.mk #[32]) ++ x8) ++ (ByteArray.mk #[44])) ++ x13)) v2 v3 (w64 (v4 + 1)) p12.2)))
    · exact kF 65 h1 rfl (f_exit rfl (q_ (m_ (.str v1) rfl (o_ck fun g17 => p_ rfl (s_addStr rfl rfl g17) (a_ (.str (v1 ++ (ByteArray.mk #[10]))) rfl (f_nil (f_ret (.tmp rfl (.nil)) rfl)))))))

theorem s83_l1 {app : App} (happ : AppSim prog app) : ∀ (k_ v1 : Nat) (v2 : ByteArray) (v3 : Sl) (v4 v5 : Int) (H : Hp), Fin prog f83 ret83 82 (todoAt (bodyOf f83) [1, 1, 1, 1, 0, 1, 0, 0] []) [(1, .ptr v1 0), (3, .str v2), (34, .sl v3), (35, .int .i64 v4), (36, .int .i64 v5)] H (r83_l1 app k_ v1 v2 v3 v4 v5 H) := by
  intro k_
  induction k_ with
  | zero => intro _ _ _ _ _ _; exact f_none
  | succ k_ ih =>
    intro v1 v2 v3 v4 v5 H
    rw [r83_l1]
    refine q_ (p_ rfl (s_lss rfl rfl) (f_nil (f_seq ?_)))
    refine f_if (fun h1 => ?_) (fun h1 => ?_)
    · refine kT 37 h1 rfl (f_skip (f_seq (f_block (q_ (o_ck fun g2 => p_ rfl (s_idx underlying25 ty3 rfl rfl g2) (o_bind fun x3 hx3 => p_ rfl (s_load underlying3 rfl rfl (ldI_eq hx3)) (a_ (.int .i64 x3) rfl (f_nil (f_region (m_ (.str v2) rfl (p_ rfl (s_fieldAddr underlying144 rfl ty142 rfl) ?_)))))))))))
      refine o_bind fun x4 hx4 => p_ rfl (s_load underlying142 rfl rfl (ldSl_eq hx4)) (m_ (.int .i64 x3) rfl (o_ck fun g5 => p_ rfl (s_idx underlying142 ty193 rfl rfl g5) (p_ rfl (s_fieldAddr underlying193 rfl ty9 rfl) (o_bind fun x6 hx6 => p_ rfl (s_load underlying9 rfl rfl (ldStr_eq hx6)) (o_ck fun g7 => p_ rfl (s_addStr rfl rfl g7) (o_ck fun g8 => p_ rfl (s_addStr rfl rfl g8) (a_ (.str (v2 ++ ((ByteArray.mk #[32]) ++ x6))) rfl (f_nil (f_inBlock (f_region ?_))))))))))
      exact p_ rfl (s_add rfl rfl) (m_ (.int .i64 (w64 (v5 + 1))) rfl (f_nil (f_inLoop (f_keep [1, 3, 34, 35, 36] (ih v1 (v2 ++ ((ByteArray.mk #[32]) ++ x6)) v3 v4 (w64 (v5 + 1)) H)))))
    · refine kF 37 h1 rfl (f_exit rfl (q_ (p_ rfl (s_fieldAddr underlying144 rfl ty26 rfl) (p_ rfl (s_sliceA underlying26 ty3 rfl rfl rfl (by decide)) (o_bind fun p9 hp9 => p_ rfl (s_callF rfl ok138 (sim138 happ hp9)) (m_ (.tup [.str p9.1.1, .int .i64 p9.1.2]) rfl (p_ rfl (s_extract (r := .str p9.1.1) rfl rfl) (p_ rfl (s_extract (r := .int .i64 p9.1.2) rfl rfl) (a_ (.str p9.1.1) rfl (a_ (.int .i64 p9.1.2) rfl (f_nil (f_seq ?_))))))))))))
      refine f_region (m_ (.str v2) rfl (m_ (.str p9.1.1) rfl (o_ck fun g10 => p_ rfl (s_addStr rfl rfl g10) (o_ck fun g11 => p_ rfl (s_addStr rfl rfl g11) (o_ck fun g12 => p_ rfl (s_addStr rfl rfl g12) (a_ (.str (v2 ++ (((ByteArray.mk #[10]) ++ p9.1.1) ++ (ByteArray.mk #[10, 111, 102, 102, 101, 114, 115])))) rfl (f_nil (f_seq (q_ (p_ rfl (s_fieldAddr underlying144 rfl ty27 rfl) (o_bind fun x13 hx13 => ?_)))))))))))
      exact p_ rfl (s_load underlying27 rfl rfl (ldSl_eq hx13)) (p_ rfl (s_lenS rfl underlying27 rfl) (m_ (.int .i64 0) rfl (f_nil (f_block (f_loop (f_keep [3, 62, 63, 64] (s83_l2 happ FUEL (v2 ++ (((ByteArray.mk #[10]) ++ p9.1.1) ++ (ByteArray.mk #[10, 111, 102, 102, 101, 114, 115]))) x13 (x13.len : Int) 0 p9.2)))))))

theorem s83_l0 {app : App} (happ : AppSim prog app) : ∀ (k_ v1 : Nat) (v2 : ByteArray) (v3 : Sl) (v4 v5 : Int) (H : Hp), Fin prog f83 ret83 82 (todoAt (bodyOf f83) [1, 1, 0, 1, 0, 0] []) [(1, .ptr v1 0), (3, .str v2), (13, .sl v3), (14, .int .i64 v4), (15, .int .i64 v5)] H (r83_l0 app k_ v1 v2 v3 v4 v5 H) := by
  intro k_
  induction k_ with
  | zero => intro _ _ _ _ _ _; exact f_none
  | succ k_ ih =>
    intro v1 v2 v3 v4 v5 H
    rw [r83_l0]
    refine q_ (p_ rfl (s_lss rfl rfl) (f_nil (f_seq ?_)))
    refine f_if (fun h1 => ?_) (fun h1 => ?_)
    · refine kT 16 h1 rfl (f_skip (f_seq (f_block (q_ (o_ck fun g2 => p_ rfl (s_idx underlying142 ty193 rfl rfl g2) (o_bind fun x3 hx3 => o_bind fun x4 hx4 => p_ rfl (s_loads underlying193 rfl ty193 rfl (lds_cons (ldStr_eq hx3) (lds_cons (ldI_eq hx4) (lds_nil)))) (p_ rfl (s_alloc (zs := [.str (ByteArray.mk #[]), .int .i64 0]) ty193 rfl rfl) (o_bind fun H5 hH5 => p_ rfl (s_stores ty193 rfl rfl rfl rfl hH5 (Nat.le_of_eq (sts_mono hH5).symm)) (f_nil ?_)))))))))
      refine f_bind fun x6 hx6 => f_ck fun g7 => f_ck fun g8 => f_bind fun x9 hx9 => f_bind fun p10 hp10 => f_bind fun x11 hx11 => f_ck fun g12 => f_ck fun g13 => f_ck fun g14 => f_ck fun g15 => f_draw (Φ := fun H_ => H_.ld H.n (0 + 0) = some (.str x6)) (lim := 1000000) [0, 0, 0, 0, 0, 0, 1, 2, 0, 0, 0, 0] (tm (.str v2) rfl (t_ rfl (fun _ => s_fieldAddr underlying193 rfl ty9 rfl) (Trc.pure rfl rfl rfl (.inr ⟨by decide +kernel, fun _ hp_ => s_load underlying9 rfl rfl hp_⟩) (t_ rfl (fun _ => s_addStr rfl rfl g7) (t_ rfl (fun _ => s_addStr rfl rfl g8) (t_ rfl (fun _ => s_fieldAddr underlying193 rfl ty3 rfl) (tr rfl (s_load underlying3 rfl rfl (ldI_eq hx9)) (Trc.eff rfl rfl rfl (fun _ => ldStr_eq hx6) (s_callA happ rfl hp10) (Trc.know 26 rfl (asStr_eq hx11) (t_ rfl (fun _ => s_addStr rfl rfl g12) (t_ rfl (fun _ => s_addStr rfl rfl g13) (t_ rfl (fun _ => s_addStr rfl rfl g14) (t_ rfl (fun _ => s_as (v := .str (v2 ++ (((((ByteArray.mk #[108, 101, 97, 102, 32]) ++ x6) ++ (ByteArray.mk #[32])) ++ x11) ++ (ByteArray.mk #[10])))) rfl) (Trc.nil (fun _ => ldStr_eq g15))))))))))))))) rfl (by decide +kernel) mixed (f_inBlock (f_region (p_ rfl (s_add rfl rfl) (m_ (.int .i64 (w64 (v5 + 1))) rfl (f_nil ?_)))))
      exact f_inLoop (f_keep [1, 3, 13, 14, 15] (ih v1 (v2 ++ (((((ByteArray.mk #[108, 101, 97, 102, 32]) ++ x6) ++ (ByteArray.mk #[32])) ++ x11) ++ (ByteArray.mk #[10]))) v3 v4 (w64 (v5 + 1)) p10.2))
    · refine kF 16 h1 rfl (f_exit rfl (q_ (m_ (.str v2) rfl (o_ck fun g16 => p_ rfl (s_addStr rfl rfl g16) (a_ (.str (v2 ++ (ByteArray.mk #[111, 114, 100, 101, 114, 115]))) rfl (f_nil (f_seq (q_ (p_ rfl (s_fieldAddr underlying144 rfl ty25 rfl) (o_bind fun x17 hx17 => p_ rfl (s_load underlying25 rfl rfl (ldSl_eq hx17)) ?_))))))))))
      exact p_ rfl (s_lenS rfl underlying25 rfl) (m_ (.int .i64 0) rfl (f_nil (f_block (f_loop (f_keep [1, 3, 34, 35, 36] (s83_l1 happ FUEL v1 (v2 ++ (ByteArray.mk #[111, 114, 100, 101, 114, 115])) x17 (x17.len : Int) 0 H))))))

theorem sim83 {app : App} (happ : AppSim prog app) {a0_0 : Sl} {a0_1 : Sl} {a0_2 : Int} {a0_3 : Int} {a0_4 : Int} {a0_5 : Int} {a0_6 : Sl} {H : Hp} {p : ByteArray × Hp} (h : r83 app a0_0 a0_1 a0_2 a0_3 a0_4 a0_5 a0_6 H = some p) : CallSim prog 83 [.agg [.sl a0_0, .sl a0_1, .int .i64 a0_2, .int .i64 a0_3, .int .i64 a0_4, .int .i64 a0_5, .sl a0_6]] H (.str p.1) p.2 := by
  refine callSim (fn := f83) (ret := ret83) func83 rfl Tryz.ntmps83 rfl ?_ h
  unfold r83
  refine q_ (p_ rfl (s_box (v := .agg [.sl a0_0, .sl a0_1, .int .i64 a0_2, .int .i64 a0_3, .int .i64 a0_4, .int .i64 a0_5, .sl a0_6]) rfl rfl) (a_ (.str (ByteArray.mk #[])) rfl (o_hp fun H1 hH1 => n_ (a_ (.str (ByteArray.mk #[])) rfl (f_nil (f_seq (q_ (p_ rfl (s_fieldAddr underlying144 rfl ty142 rfl) (o_bind fun x2 hx2 => p_ rfl (s_load underlying142 rfl rfl (ldSl_eq hx2)) ?_)))))))))
  exact p_ rfl (s_lenS rfl underlying142 rfl) (m_ (.int .i64 0) rfl (f_nil (f_block (f_loop (f_keep [1, 3, 13, 14, 15] (s83_l0 happ FUEL H.n (ByteArray.mk #[]) x2 (x2.len : Int) 0 H1))))))

/- 46 congou/congoulaw10.alike -/
theorem ok46 : FnOk prog 46 := ⟨⟨f46, func46, by kernel_rfl, rfl⟩⟩
theorem sim46 {app : App} (happ : AppSim prog app) {a0b : Nat} {a0o : Nat} {a1b : Nat} {a1o : Nat} {H : Hp} {p : Bool × Hp} (h : r46 app a0b a0o a1b a1o H = some p) : CallSim prog 46 [.ptr a0b a0o, .ptr a1b a1o] H (.bool p.1) p.2 := by
  refine callSim (fn := f46) (ret := ret46) func46 rfl Tryz.ntmps46 rfl ?_ h
  unfold r46
  refine q_ (a_ (.bool false) rfl (f_nil (f_seq (f_bind fun p1 hp1 => f_bind fun x2 hx2 => ?_))))
  refine f_if (fun h3 => ?_) (fun h3 => ?_)
  · refine f_bind fun p4 hp4 => f_bind fun x5 hx5 => f_bind fun p6 hp6 => f_bind fun p7 hp7 => ?_
    refine f_if (fun h8 => ?_) (fun h8 => ?_)
    · refine f_bind fun p9 hp9 => f_bind fun x10 hx10 => f_bind fun p11 hp11 => f_bind fun p12 hp12 => ?_
      refine f_if (fun h13 => ?_) (fun h13 => ?_)
      · refine f_bind fun p14 hp14 => f_bind fun x15 hx15 => f_bind fun p16 hp16 => f_bind fun p17 hp17 => f_ck fun g18 => f_ck fun g19 => f_ck fun g20 => f_ck fun g21 => f_ck fun g22 => f_ck fun g23 => f_ck fun g24 => f_ck fun g25 => f_ck fun g26 => f_ck fun g27 => f_ck fun g28 => f_ck fun g29 => ?_
        refine f_ck fun g30 => f_ck fun g31 => f_ck fun g32 => f_ck fun g33 => f_ck fun g34 => f_ck fun g35 => f_ck fun g36 => f_ck fun g37 => f_ck fun g38 => f_ck fun g39 => f_ck fun g40 => f_ck fun g41 => f_ck fun g42 => f_ck fun g43 => f_ck fun g44 => f_ck fun g45 => ?_
        exact f_ck fun g46 => f_ck fun g47 => f_ck fun g48 => f_ck fun g49 => f_draw (Φ := fun H_ => H_.ld a1b (a1o + 1) = some (.int .i64 x2) ∧ H_.ld a1b (a1o + 1) = some (.int .i64 x5) ∧ H_.ld a1b (a1o + 1) = some (.int .i64 x10) ∧ H_.ld a1b (a1o + 1) = some (.int .i64 x15)) (lim := 38) [0, 2, 0, 0, 0, 0, 0, 0, 0, 2, 0, 0, 0, 0, 0, 2, 2, 0, 0, 0, 0, 2, 0, 0, 0, 0, 0, 2, 2, 0, 0, 0, 2, 0, 0, 0, 0, 0, 2, 2, 0, 0] (tm (.ptr a0b a0o) rfl (Trc.eff rfl rfl rfl (fun _ => ⟨ldI_eq g18, ldI_eq g19, ldI_eq g20, ldI_eq g21⟩) (s_callF rfl ok38 (sim38 hp1)) (tm (.ptr a1b a1o) rfl (t_ rfl (fun _ => s_nilCheck rfl) (t_ rfl (fun _ => s_fieldAddr underlying140 rfl ty3 rfl) (Trc.pure rfl rfl rfl (.inr ⟨by decide +kernel, fun _ hp_ => s_load underlying3 rfl rfl hp_.1⟩) (t_ rfl (fun _ => s_eql rfl rfl) (tm (.bool (decide (p1.1 = x2))) rfl (Trc.know 12 rfl (dec_true h3) (tm (.ptr a0b a0o) rfl (Trc.eff rfl rfl rfl (fun _ => ⟨ldI_eq hx2, ldI_eq g22, ldI_eq g23, ldI_eq g24⟩) (s_callF rfl ok41 (sim41 happ hp4)) (tm (.ptr a1b a1o) rfl (tm (.ptr a1b a1o) rfl (t_ rfl (fun _ => s_nilCheck rfl) (t_ rfl (fun _ => s_fieldAddr underlying140 rfl ty3 rfl) (Trc.pure rfl rfl rfl (.inr ⟨by decide +kernel, fun _ hp_ => s_load underlying3 rfl rfl hp_.2.1⟩) (Trc.eff rfl rfl rfl (fun _ => ⟨ldI_eq g25, ldI_eq hx5, ldI_eq g26, ldI_eq g27⟩) (s_callF rfl ok84 (sim84 happ hp6)) (Trc.eff rfl rfl rfl (fun _ => ⟨ldI_eq g28, ldI_eq g29, ldI_eq g30, ldI_eq g31⟩) (s_callF rfl ok83 (sim83 happ hp7)) (t_ rfl (fun _ => s_eqStr rfl rfl) (t_ rfl (fun _ => s_pickT (v := .bool (strEq p4.1 p7.1)) rfl rfl) (tm (.bool (strEq p4.1 p7.1)) rfl (Trc.know 24 rfl (bool_T h8) (tm (.ptr a0b a0o) rfl (Trc.eff rfl rfl rfl (fun _ => ⟨ldI_eq g32, ldI_eq g33, ldI_eq g34, ldI_eq g35⟩) (s_callF rfl ok43 (sim43 hp9)) (tm (.ptr a1b a1o) rfl (tm (.ptr a1b a1o) rfl (t_ rfl (fun _ => s_nilCheck rfl) (t_ rfl (fun _ => s_fieldAddr underlying140 rfl ty3 rfl) (Trc.pure rfl rfl rfl (.inr ⟨by decide +kernel, fun _ hp_ => s_load underlying3 rfl rfl hp_.2.2.1⟩) (Trc.eff rfl rfl rfl (fun _ => ⟨ldI_eq g36, ldI_eq g37, ldI_eq hx10, ldI_eq g38⟩) (s_callF rfl ok85 (sim85 happ hp11)) (Trc.eff rfl rfl rfl (fun _ => ⟨ldI_eq g39, ldI_eq g40, ldI_eq g41, ldI_eq g42⟩) (s_callF rfl ok42 (sim42 hp12)) (t_ rfl (fun _ => s_pickT (v := .bool p12.1) rfl rfl) (tm (.bool p12.1) rfl (Trc.know 35 rfl (bool_T h13) (tm (.ptr a0b a0o) rfl (Trc.eff rfl rfl rfl (fun _ => ⟨ldI_eq g43, ldI_eq g44, ldI_eq g45, ldI_eq g46⟩) (s_callF rfl ok44 (sim44 hp14)) (tm (.ptr a1b a1o) rfl (tm (.ptr a1b a1o) rfl (t_ rfl (fun _ => s_nilCheck rfl) (t_ rfl (fun _ => s_fieldAddr underlying140 rfl ty3 rfl) (Trc.pure rfl rfl rfl (.inr ⟨by decide +kernel, fun _ hp_ => s_load underlying3 rfl rfl hp_.2.2.2⟩) (Trc.eff rfl rfl rfl (fun _ => ⟨ldI_eq g47, ldI_eq g48, ldI_eq g49, ldI_eq hx15⟩) (s_callF rfl ok86 (sim86 hp16)) (Trc.eff rfl rfl rfl (fun h_ => absurd h_ (by decide +kernel)) (s_callF rfl ok21 (sim21 hp17)) (t_ rfl (fun _ => s_pickT (v := .bool p17.1) rfl rfl) (t_ rfl (fun _ => s_as (v := .bool p17.1) rfl) (Trc.nil (fun h_ => absurd h_ (by decide +kernel)))))))))))))))))))))))))))))))))))))))))))))))) rfl (by decide +kernel) mixed (f_ret (.tmp rfl (.nil)) rfl)
      · refine f_ck fun g50 => f_ck fun g51 => f_ck fun g52 => f_ck fun g53 => f_ck fun g54 => f_ck fun g55 => f_ck fun g56 => f_ck fun g57 => f_ck fun g58 => f_ck fun g59 => f_ck fun g60 => f_ck fun g61 => f_ck fun g62 => f_ck fun g63 => f_ck fun g64 => f_draw (Φ := fun H_ => H_.ld a1b (a1o + 1) = some (.int .i64 x2) ∧ H_.ld a1b (a1o + 1) = some (.int .i64 x5) ∧ H_.ld a1b (a1o + 1) = some (.int .i64 x10)) (lim := 27) [0, 2, 0, 0, 0, 0, 0, 0, 0, 2, 0, 0, 0, 0, 0, 2, 2, 0, 0, 0, 0, 2, 0, 0, 0, 0, 0, 2, 2, 0, 0, 0, 0, 0, 0, 0, 0, 0, 0, 0, 0, 0] (tm (.ptr a0b a0o) rfl (Trc.eff rfl rfl rfl (fun _ => ⟨ldI_eq g50, ldI_eq g51, ldI_eq g52⟩) (s_callF rfl ok38 (sim38 hp1)) (tm (.ptr a1b a1o) rfl (t_ rfl (fun _ => s_nilCheck rfl) (t_ rfl (fun _ => s_fieldAddr underlying140 rfl ty3 rfl) (Trc.pure rfl rfl rfl (.inr ⟨by decide +kernel, fun _ hp_ => s_load underlying3 rfl rfl hp_.1⟩) (t_ rfl (fun _ => s_eql rfl rfl) (tm (.bool (decide (p1.1 = x2))) rfl (Trc.know 12 rfl (dec_true h3) (tm (.ptr a0b a0o) rfl (Trc.eff rfl rfl rfl (fun _ => ⟨ldI_eq hx2, ldI_eq g53, ldI_eq g54⟩) (s_callF rfl ok41 (sim41 happ hp4)) (tm (.ptr a1b a1o) rfl (tm (.ptr a1b a1o) rfl (t_ rfl (fun _ => s_nilCheck rfl) (t_ rfl (fun _ => s_fieldAddr underlying140 rfl ty3 rfl) (Trc.pure rfl rfl rfl (.inr ⟨by decide +kernel, fun _ hp_ => s_load underlying3 rfl rfl hp_.2.1⟩) (Trc.eff rfl rfl rfl (fun _ => ⟨ldI_eq g55, ldI_eq hx5, ldI_eq g56⟩) (s_callF rfl ok84 (sim84 happ hp6)) (Trc.eff rfl rfl rfl (fun _ => ⟨ldI_eq g57, ldI_eq g58, ldI_eq g59⟩) (s_callF rfl ok83 (sim83 happ hp7)) (t_ rfl (fun _ => s_eqStr rfl rfl) (t_ rfl (fun _ => s_pickT (v := .bool (strEq p4.1 p7.1)) rfl rfl) (tm (.bool (strEq p4.1 p7.1)) rfl (Trc.know 24 rfl (bool_T h8) (tm (.ptr a0b a0o) rfl (Trc.eff rfl rfl rfl (fun _ => ⟨ldI_eq g60, ldI_eq g61, ldI_eq g62⟩) (s_callF rfl ok43 (sim43 hp9)) (tm (.ptr a1b a1o) rfl (tm (.ptr a1b a1o) rfl (t_ rfl (fun _ => s_nilCheck rfl) (t_ rfl (fun _ => s_fieldAddr underlying140 rfl ty3 rfl) (Trc.pure rfl rfl rfl (.inr ⟨by decide +kernel, fun _ hp_ => s_load underlying3 rfl rfl hp_.2.2⟩) (Trc.eff rfl rfl rfl (fun _ => ⟨ldI_eq g63, ldI_eq g64, ldI_eq hx10⟩) (s_callF rfl ok85 (sim85 happ hp11)) (Trc.eff rfl rfl rfl (fun h_ => absurd h_ (by decide +kernel)) (s_callF rfl ok42 (sim42 hp12)) (t_ rfl (fun _ => s_pickT (v := .bool p12.1) rfl rfl) (tm (.bool p12.1) rfl (Trc.know 35 rfl (bool_F h13) (Trc.no rfl rfl rfl (Trc.no rfl rfl rfl (Trc.no rfl rfl rfl (Trc.no rfl rfl rfl (Trc.no rfl rfl rfl (Trc.no rfl rfl rfl (Trc.no rfl rfl rfl (Trc.no rfl rfl rfl (Trc.no rfl rfl rfl (t_ rfl (fun _ => s_pickF (v := .bool false) rfl rfl) (t_ rfl (fun _ => s_as (v := .bool false) rfl) (Trc.nil (fun h_ => absurd h_ (by decide +kernel)))))))))))))))))))))))))))))))))))))))))))))))) rfl (by decide +kernel) mixed ?_
        exact f_ret (.tmp rfl (.nil)) rfl
    · exact f_ck fun g65 => f_ck fun g66 => f_ck fun g67 => f_ck fun g68 => f_draw (Φ := fun H_ => H_.ld a1b (a1o + 1) = some (.int .i64 x2) ∧ H_.ld a1b (a1o + 1) = some (.int .i64 x5)) (lim := 15) [0, 2, 0, 0, 0, 0, 0, 0, 0, 2, 0, 0, 0, 0, 0, 2, 2, 0, 0, 0, 0, 0, 0, 0, 0, 0, 0, 0, 0, 0, 0, 0, 0, 0, 0, 0, 0, 0, 0, 0, 0, 0] (tm (.ptr a0b a0o) rfl (Trc.eff rfl rfl rfl (fun _ => ⟨ldI_eq g65, ldI_eq g66⟩) (s_callF rfl ok38 (sim38 hp1)) (tm (.ptr a1b a1o) rfl (t_ rfl (fun _ => s_nilCheck rfl) (t_ rfl (fun _ => s_fieldAddr underlying140 rfl ty3 rfl) (Trc.pure rfl rfl rfl (.inr ⟨by decide +kernel, fun _ hp_ => s_load underlying3 rfl rfl hp_.1⟩) (t_ rfl (fun _ => s_eql rfl rfl) (tm (.bool (decide (p1.1 = x2))) rfl (Trc.know 12 rfl (dec_true h3) (tm (.ptr a0b a0o) rfl (Trc.eff rfl rfl rfl (fun _ => ⟨ldI_eq hx2, ldI_eq g67⟩) (s_callF rfl ok41 (sim41 happ hp4)) (tm (.ptr a1b a1o) rfl (tm (.ptr a1b a1o) rfl (t_ rfl (fun _ => s_nilCheck rfl) (t_ rfl (fun _ => s_fieldAddr underlying140 rfl ty3 rfl) (Trc.pure rfl rfl rfl (.inr ⟨by decide +kernel, fun _ hp_ => s_load underlying3 rfl rfl hp_.2⟩) (Trc.eff rfl rfl rfl (fun _ => ⟨ldI_eq g68, ldI_eq hx5⟩) (s_callF rfl ok84 (sim84 happ hp6)) (Trc.eff rfl rfl rfl (fun h_ => absurd h_ (by decide +kernel)) (s_callF rfl ok83 (sim83 happ hp7)) (t_ rfl (fun _ => s_eqStr rfl rfl) (t_ rfl (fun _ => s_pickT (v := .bool (strEq p4.1 p7.1)) rfl rfl) (tm (.bool (strEq p4.1 p7.1)) rfl (Trc.know 24 rfl (bool_F h8) (Trc.no rfl rfl rfl (Trc.no rfl rfl rfl (Trc.no rfl rfl rfl (Trc.no rfl rfl rfl (Trc.no rfl rfl rfl (Trc.no rfl rfl rfl (Trc.no rfl rfl rfl (Trc.no rfl rfl rfl (Trc.no rfl rfl rfl (t_ rfl (fun _ => s_pickF (v := .bool false) rfl rfl) (tm (.bool false) rfl (Trc.no rfl rfl rfl (Trc.no rfl rfl rfl (Trc.no rfl rfl rfl (Trc.no rfl rfl rfl (Trc.no rfl rfl rfl (Trc.no rfl rfl rfl (Trc.no rfl rfl rfl (Trc.no rfl rfl rfl (Trc.no rfl rfl rfl (t_ rfl (fun _ => s_pickF (v := .bool false) rfl rfl) (t_ rfl (fun _ => s_as (v := .bool false) rfl) (Trc.nil (fun h_ => absurd h_ (by decide +kernel))))))))))))))))))))))))))))))))))))))))))))))) rfl (by decide +kernel) mixed (f_ret (.tmp rfl (.nil)) rfl)
  · exact f_ck fun g69 => f_draw (Φ := fun H_ => H_.ld a1b (a1o + 1) = some (.int .i64 x2)) (lim := 1000000) [0, 2, 0, 0, 0, 0, 0, 0, 0, 0, 0, 0, 0, 0, 0, 0, 0, 0, 0, 0, 0, 0, 0, 0, 0, 0, 0, 0, 0, 0, 0, 0, 0, 0, 0, 0, 0, 0, 0, 0, 0, 0] (tm (.ptr a0b a0o) rfl (Trc.eff rfl rfl rfl (fun _ => ldI_eq g69) (s_callF rfl ok38 (sim38 hp1)) (tm (.ptr a1b a1o) rfl (t_ rfl (fun _ => s_nilCheck rfl) (t_ rfl (fun _ => s_fieldAddr underlying140 rfl ty3 rfl) (Trc.pure rfl rfl rfl (.inr ⟨by decide +kernel, fun _ hp_ => s_load underlying3 rfl rfl hp_⟩) (t_ rfl (fun _ => s_eql rfl rfl) (tm (.bool (decide (p1.1 = x2))) rfl (Trc.know 12 rfl (dec_false h3) (Trc.no rfl rfl rfl (Trc.no rfl rfl rfl (Trc.no rfl rfl rfl (Trc.no rfl rfl rfl (Trc.no rfl rfl rfl (Trc.no rfl rfl rfl (Trc.no rfl rfl rfl (Trc.no rfl rfl rfl (Trc.no rfl rfl rfl (Trc.no rfl rfl rfl (t_ rfl (fun _ => s_pickF (v := .bool false) rfl rfl) (tm (.bool false) rfl (Trc.no rfl rfl rfl (Trc.no rfl rfl rfl (Trc.no rfl rfl rfl (Trc.no rfl rfl rfl (Trc.no rfl rfl rfl (Trc.no rfl rfl rfl (Trc.no rfl rfl rfl (Trc.no rfl rfl rfl (Trc.no rfl rfl rfl (t_ rfl (fun _ => s_pickF (v := .bool false) rfl rfl) (tm (.bool false) rfl (Trc.no rfl rfl rfl (Trc.no rfl rfl rfl (Trc.no rfl rfl rfl (Trc.no rfl rfl rfl (Trc.no rfl rfl rfl (Trc.no rfl rfl rfl (Trc.no rfl rfl rfl (Trc.no rfl rfl rfl (Trc.no rfl rfl rfl (t_ rfl (fun _ => s_pickF (v := .bool false) rfl rfl) (t_ rfl (fun _ => s_as (v := .bool false) rfl) (Trc.nil (fun _ => ldI_eq hx2))))))))))))))))))))))))))))))))))))))))))))) rfl (by decide +kernel) mixed (f_ret (.tmp rfl (.nil)) rfl)

/- 8 congou/congoulaw10.ChestReads -/
theorem ok8 : FnOk prog 8 := ⟨⟨f8, func8, by kernel_rfl, rfl⟩⟩
theorem s8_j0 {app : App} (happ : AppSim prog app) (v1 : ByteArray) (v2 v3 : AV) (v4 : Bool) (H : Hp) : Fin prog f8 ret8 51 (todoAt (bodyOf f8) [1, 1, 1, 1, 0, 1] []) [(0, .str v1), (3, v2), (5, v3), (33, .bool v4)] H (r8_j0 app v1 v2 v3 v4 H) := by
  unfold r8_j0
  refine f_if (fun h1 => ?_) (fun h1 => ?_)
  · exact bT 33 h1 rfl (q_ (a_ (.bool false) rfl (f_nil (f_ret (.tmp rfl (.nil)) rfl))))
  · refine bF 33 h1 rfl (f_skip (q_ (m_ v3 rfl (o_bind fun x2 hx2 => p_ rfl (s_eqVN underlying88 rfl rfl hx2) (m_ (.bool (!x2)) rfl ?_)))))
    refine o_if (fun h3 => ?_) (fun h3 => ?_)
    · refine o_know 36 rfl (bool_notT h3) (m_ v2 rfl (m_ v3 rfl (o_bind fun x4 hx4 => o_know 37 rfl (asP_eq hx4) (o_bind fun x5 hx5 => o_know 38 rfl (asP_eq hx5) (o_bind fun p6 hp6 => p_ rfl (s_callF rfl ok46 (sim46 happ hp6)) (m_ (.bool p6.1) rfl ?_))))))
      refine o_if (fun h7 => ?_) (fun h7 => ?_)
      · refine o_know 40 rfl (bool_T h7) (m_ v2 rfl (o_bind fun x8 hx8 => o_know 41 rfl (asP_eq hx8) (o_bind fun p9 hp9 => p_ rfl (s_callF rfl ok35 (sim35 hp9)) (m_ (.str v1) rfl (p_ rfl (s_strBytes underlying9 underlying75 underlying5 rfl) (o_bind fun p10 hp10 => p_ rfl (s_callF rfl ok39 (sim39 hp10)) (p_ rfl (s_pickT (v := .bool p10.1) rfl rfl) (p_ rfl (s_pickF (v := .bool p10.1) rfl rfl) (m_ (.bool p10.1) rfl ?_)))))))))
        refine o_if (fun h11 => ?_) (fun h11 => ?_)
        · exact o_know 48 rfl (bool_T h11) (o_bind fun p12 hp12 => o_bind fun x13 hx13 => p_ rfl (s_callA happ rfl hp12) (o_know 49 rfl (asB_eq hx13) (p_ rfl (s_pickT (v := .bool x13) rfl rfl) (a_ (.bool x13) rfl (f_nil (f_ret (.tmp rfl (.nil)) rfl))))))
        · exact o_know 48 rfl (bool_F h11) (no_ rfl (p_ rfl (s_pickF (v := .bool false) rfl rfl) (a_ (.bool false) rfl (f_nil (f_ret (.tmp rfl (.nil)) rfl)))))
      · exact o_know 40 rfl (bool_F h7) (no_ rfl (no_ rfl (no_ rfl (no_ rfl (no_ rfl (p_ rfl (s_pickF (v := .bool false) rfl rfl) (p_ rfl (s_pickF (v := .bool false) rfl rfl) (m_ (.bool false) rfl (no_ rfl (p_ rfl (s_pickF (v := .bool false) rfl rfl) (a_ (.bool false) rfl (f_nil (f_ret (.tmp rfl (.nil)) rfl)))))))))))))
    · refine o_know 36 rfl (bool_notF h3) (no_ rfl (no_ rfl (no_ rfl (no_ rfl (no_ rfl (no_ rfl (no_ rfl (no_ rfl (no_ rfl (no_ rfl (p_ rfl (s_pickT (v := .bool true) rfl rfl) (m_ (.bool true) rfl (o_bind fun p14 hp14 => o_bind fun x15 hx15 => p_ rfl (s_callA happ rfl hp14) ?_)))))))))))))
      exact o_know 49 rfl (asB_eq hx15) (p_ rfl (s_pickT (v := .bool x15) rfl rfl) (a_ (.bool x15) rfl (f_nil (f_ret (.tmp rfl (.nil)) rfl))))

theorem sim8 {app : App} (happ : AppSim prog app) {a0 : ByteArray} {H : Hp} {p : Bool × Hp} (h : r8 app a0 H = some p) : CallSim prog 8 [.str a0] H (.bool p.1) p.2 := by
  refine callSim (fn := f8) (ret := ret8) func8 rfl Tryz.ntmps8 rfl ?_ h
  unfold r8
  refine q_ (a_ (.bool false) rfl (n_ (m_ (.str a0) rfl (m_ (.str a0) rfl (p_ rfl (s_lenStr rfl underlying9 rfl) (p_ rfl (s_min2 rfl rfl) (o_ck fun g1 => p_ rfl (s_sliceStr underlying9 rfl rfl rfl g1) (a_ (.str (a0.extract (0 : Int).toNat ((if 3000 < (a0.size : Int) then 3000 else (a0.size : Int)) : Int).toNat)) rfl (n_ ?_)))))))))
  refine m_ (.str (a0.extract (0 : Int).toNat ((if 3000 < (a0.size : Int) then 3000 else (a0.size : Int)) : Int).toNat)) rfl (p_ rfl (s_strBytes underlying9 underlying75 underlying5 rfl) (o_bind fun p2 hp2 => p_ rfl (s_callF rfl ok36 (sim36 happ hp2)) (m_ (.tup [p2.1.1, .int .i64 p2.1.2]) rfl (p_ rfl (s_extract (r := p2.1.1) rfl rfl) (p_ rfl (s_extract (r := .int .i64 p2.1.2) rfl rfl) (a_ p2.1.1 rfl (a_ (.int .i64 p2.1.2) rfl (n_ (m_ (.str (a0.extract (0 : Int).toNat ((if 3000 < (a0.size : Int) then 3000 else (a0.size : Int)) : Int).toNat)) rfl (p_ rfl (s_strBytes underlying9 underlying75 underlying5 rfl) (o_bind fun p3 hp3 => p_ rfl (s_callF rfl ok45 (sim45 happ hp3)) ?_)))))))))))
  refine m_ (.tup [p3.1.1, .int .i64 p3.1.2]) rfl (p_ rfl (s_extract (r := p3.1.1) rfl rfl) (p_ rfl (s_extract (r := .int .i64 p3.1.2) rfl rfl) (a_ p3.1.1 rfl (a_ (.int .i64 p3.1.2) rfl (f_nil (f_seq (q_ (m_ (.int .i64 p2.1.2) rfl (m_ (.int .i64 p3.1.2) rfl (p_ rfl (s_neq rfl rfl) (m_ (.bool (decide (p2.1.2 ≠ p3.1.2))) rfl ?_)))))))))))
  refine o_if (fun h4 => ?_) (fun h4 => ?_)
  · exact o_know 27 rfl (dec_true h4) (no_ rfl (no_ rfl (no_ rfl (no_ rfl (no_ rfl (p_ rfl (s_pickT (v := .bool true) rfl rfl) (f_nil (f_keep [0, 3, 5, 33] (s8_j0 happ (a0.extract (0 : Int).toNat ((if 3000 < (a0.size : Int) then 3000 else (a0.size : Int)) : Int).toNat) p2.1.1 p3.1.1 true p3.2)))))))))
  · exact o_know 27 rfl (dec_false h4) (m_ p2.1.1 rfl (o_bind fun x5 hx5 => p_ rfl (s_eqVN underlying23 rfl rfl hx5) (m_ p3.1.1 rfl (o_bind fun x6 hx6 => p_ rfl (s_eqVN underlying88 rfl rfl hx6) (p_ rfl (s_neB underlying4 rfl rfl) (p_ rfl (s_pickF (v := .bool (!((!x5) == (!x6)))) rfl rfl) (f_nil (f_keep [0, 3, 5, 33] (s8_j0 happ (a0.extract (0 : Int).toNat ((if 3000 < (a0.size : Int) then 3000 else (a0.size : Int)) : Int).toNat) p2.1.1 p3.1.1 (!((!x5) == (!x6))) p3.2)))))))))

/- 94 slices.Max[[]int,int] -/
theorem ok94 : FnOk prog 94 := ⟨⟨f94, func94, by kernel_rfl, rfl⟩⟩
theorem s94_l0 : ∀ (k_ : Nat) (v1 : Sl) (v2 v3 : Int) (H : Hp), Fin prog f94 ret94 25 (todoAt (bodyOf f94) [1, 1, 1, 0, 1, 0, 0] []) [(0, .sl v1), (3, .int .i64 v2), (4, .int .i64 v3)] H (r94_l0 k_ v1 v2 v3 H) := by
  intro k_
  induction k_ with
  | zero => intro _ _ _ _; exact f_none
  | succ k_ ih =>
    intro v1 v2 v3 H
    rw [r94_l0]
    refine f_seq (q_ (m_ (.int .i64 v3) rfl (m_ (.sl v1) rfl (p_ rfl (s_lenS rfl underlying25 rfl) (p_ rfl (s_lss rfl rfl) (f_nil ?_))))))
    refine f_if (fun h1 => ?_) (fun h1 => ?_)
    · refine kT 15 h1 rfl (f_skip (f_seq (f_block (f_region (m_ (.int .i64 v2) rfl (m_ (.sl v1) rfl (m_ (.int .i64 v3) rfl (o_ck fun g2 => p_ rfl (s_idx underlying25 ty3 rfl rfl g2) (o_bind fun x3 hx3 => p_ rfl (s_load underlying3 rfl rfl (ldI_eq hx3)) (p_ rfl (s_max2 rfl rfl) (a_ (.int .i64 (if v2 < x3 then x3 else v2)) rfl (f_nil ?_))))))))))))
      exact f_inBlock (f_region (m_ (.int .i64 v3) rfl (p_ rfl (s_add rfl rfl) (a_ (.int .i64 (w64 (v3 + 1))) rfl (f_nil (f_inLoop (f_keep [0, 3, 4] (ih v1 (if v2 < x3 then x3 else v2) (w64 (v3 + 1)) H))))))))
    · exact kF 15 h1 rfl (f_exit rfl (q_ (m_ (.int .i64 v2) rfl (a_ (.int .i64 v2) rfl (f_nil (f_ret (.tmp rfl (.nil)) rfl))))))

theorem sim94 {a0 : Sl} {H : Hp} {p : Int × Hp} (h : r94 a0 H = some p) : CallSim prog 94 [.sl a0] H (.int .i64 p.1) p.2 := by
  refine callSim (fn := f94) (ret := ret94) func94 rfl Tryz.ntmps94 rfl ?_ h
  unfold r94
  refine q_ (a_ (.int .i64 0) rfl (f_nil (f_seq (q_ (m_ (.sl a0) rfl (p_ rfl (s_lenS rfl underlying25 rfl) (p_ rfl (s_lss rfl rfl) (f_nil ?_))))))))
  refine f_if (fun h1 => ?_) (fun h1 => ?_)
  · exact kT 7 h1 rfl (f_region (o_none))
  · refine kF 7 h1 rfl (f_skip (q_ (m_ (.sl a0) rfl (o_ck fun g2 => p_ rfl (s_idx underlying25 ty3 rfl rfl g2) (o_bind fun x3 hx3 => p_ rfl (s_load underlying3 rfl rfl (ldI_eq hx3)) (a_ (.int .i64 x3) rfl (f_nil (f_seq (q_ (a_ (.int .i64 1) rfl ?_))))))))))
    exact f_nil (f_block (f_loop (f_keep [0, 3, 4] (s94_l0 FUEL a0 x3 1 H))))

/- 110 slices.Min[[]int,int] -/
theorem ok110 : FnOk prog 110 := ⟨⟨f110, func110, by kernel_rfl, rfl⟩⟩
theorem s110_l0 : ∀ (k_ : Nat) (v1 : Sl) (v2 v3 : Int) (H : Hp), Fin prog f110 ret110 25 (todoAt (bodyOf f110) [1, 1, 1, 0, 1, 0, 0] []) [(0, .sl v1), (3, .int .i64 v2), (4, .int .i64 v3)] H (r110_l0 k_ v1 v2 v3 H) := by
  intro k_
  induction k_ with
  | zero => intro _ _ _ _; exact f_none
  | succ k_ ih =>
    intro v1 v2 v3 H
    rw [r110_l0]
    refine f_seq (q_ (m_ (.int .i64 v3) rfl (m_ (.sl v1) rfl (p_ rfl (s_lenS rfl underlying25 rfl) (p_ rfl (s_lss rfl rfl) (f_nil ?_))))))
    refine f_if (fun h1 => ?_) (fun h1 => ?_)
    · refine kT 15 h1 rfl (f_skip (f_seq (f_block (f_region (m_ (.int .i64 v2) rfl (m_ (.sl v1) rfl (m_ (.int .i64 v3) rfl (o_ck fun g2 => p_ rfl (s_idx underlying25 ty3 rfl rfl g2) (o_bind fun x3 hx3 => p_ rfl (s_load underlying3 rfl rfl (ldI_eq hx3)) (p_ rfl (s_min2 rfl rfl) (a_ (.int .i64 (if x3 < v2 then x3 else v2)) rfl (f_nil ?_))))))))))))
      exact f_inBlock (f_region (m_ (.int .i64 v3) rfl (p_ rfl (s_add rfl rfl) (a_ (.int .i64 (w64 (v3 + 1))) rfl (f_nil (f_inLoop (f_keep [0, 3, 4] (ih v1 (if x3 < v2 then x3 else v2) (w64 (v3 + 1)) H))))))))
    · exact kF 15 h1 rfl (f_exit rfl (q_ (m_ (.int .i64 v2) rfl (a_ (.int .i64 v2) rfl (f_nil (f_ret (.tmp rfl (.nil)) rfl))))))

theorem sim110 {a0 : Sl} {H : Hp} {p : Int × Hp} (h : r110 a0 H = some p) : CallSim prog 110 [.sl a0] H (.int .i64 p.1) p.2 := by
  refine callSim (fn := f110) (ret := ret110) func110 rfl Tryz.ntmps110 rfl ?_ h
  unfold r110
  refine q_ (a_ (.int .i64 0) rfl (f_nil (f_seq (q_ (m_ (.sl a0) rfl (p_ rfl (s_lenS rfl underlying25 rfl) (p_ rfl (s_lss rfl rfl) (f_nil ?_))))))))
  refine f_if (fun h1 => ?_) (fun h1 => ?_)
  · exact kT 7 h1 rfl (f_region (o_none))
  · refine kF 7 h1 rfl (f_skip (q_ (m_ (.sl a0) rfl (o_ck fun g2 => p_ rfl (s_idx underlying25 ty3 rfl rfl g2) (o_bind fun x3 hx3 => p_ rfl (s_load underlying3 rfl rfl (ldI_eq hx3)) (a_ (.int .i64 x3) rfl (f_nil (f_seq (q_ (a_ (.int .i64 1) rfl ?_))))))))))
    exact f_nil (f_block (f_loop (f_keep [0, 3, 4] (s110_l0 FUEL a0 x3 1 H))))

/- 63 congou/shares.are -/
theorem ok63 : FnOk prog 63 := ⟨⟨f63, func63, by kernel_rfl, rfl⟩⟩
theorem s63_j1 (kt0 : Sl → Sl → Int → Int → Hp → Option (Bool × Hp)) (hkt0 : ∀ (v1 v2 : Sl) (v3 v4 : Int) (H : Hp), Fin prog f63 ret63 39 (todoAt (bodyOf f63) [1, 0, 1, 0, 0] []) [(0, .sl v1), (5, .sl v2), (6, .int .i64 v3), (7, .int .i64 v4)] H (kt0 v1 v2 v3 v4 H)) (v1 v2 : Sl) (v3 v4 : Int) (v5 : Bool) (H : Hp) : Fin prog f63 ret63 39 (todoAt (bodyOf f63) [1, 0, 1, 0, 0, 1, 1, 0, 0, 1, 1] []) [(0, .sl v1), (5, .sl v2), (6, .int .i64 v3), (7, .int .i64 v4), (37, .bool v5)] H (r63_j1 kt0 v1 v2 v3 v4 v5 H) := by
  unfold r63_j1
  refine f_if (fun h1 => ?_) (fun h1 => ?_)
  · exact bT 37 h1 rfl (q_ (a_ (.bool false) rfl (f_nil (f_ret (.tmp rfl (.nil)) rfl))))
  · exact bF 37 h1 rfl (f_skip (f_inBlock (f_region (p_ rfl (s_add rfl rfl) (m_ (.int .i64 (w64 (v4 + 1))) rfl (f_nil (f_inLoop (f_keep [0, 5, 6, 7] (hkt0 v1 v2 v3 (w64 (v4 + 1)) H)))))))))

theorem s63_l0 : ∀ (k_ : Nat) (v1 v2 : Sl) (v3 v4 : Int) (H : Hp), Fin prog f63 ret63 39 (todoAt (bodyOf f63) [1, 0, 1, 0, 0] []) [(0, .sl v1), (5, .sl v2), (6, .int .i64 v3), (7, .int .i64 v4)] H (r63_l0 k_ v1 v2 v3 v4 H) := by
  intro k_
  induction k_ with
  | zero => intro _ _ _ _ _; exact f_none
  | succ k_ ih =>
    intro v1 v2 v3 v4 H
    rw [r63_l0]
    refine q_ (p_ rfl (s_lss rfl rfl) (f_nil (f_seq ?_)))
    refine f_if (fun h1 => ?_) (fun h1 => ?_)
    · refine kT 8 h1 rfl (f_skip (f_seq (f_block (q_ (o_ck fun g2 => p_ rfl (s_idx underlying31 ty25 rfl rfl g2) (o_bind fun x3 hx3 => p_ rfl (s_load underlying25 rfl rfl (ldSl_eq hx3)) (a_ (.sl x3) rfl (n_ (m_ (.sl x3) rfl ?_)))))))))
      refine p_ rfl (s_lenS rfl underlying25 rfl) (p_ rfl (s_lss rfl rfl) (m_ (.bool (decide ((x3.len : Int) < 1))) rfl ?_))
      refine o_if (fun h4 => ?_) (fun h4 => ?_)
      · refine o_know 14 rfl (dec_true h4) (no_ rfl (no_ rfl (no_ rfl (p_ rfl (s_pickT (v := .bool true) rfl rfl) (m_ (.bool true) rfl (no_ rfl (no_ rfl (no_ rfl (no_ rfl (no_ rfl (no_ rfl (no_ rfl (p_ rfl (s_pickT (v := .bool true) rfl rfl) (m_ (.bool true) rfl (no_ rfl ?_)))))))))))))))
        exact no_ rfl (no_ rfl (p_ rfl (s_pickT (v := .bool true) rfl rfl) (m_ (.bool true) rfl (no_ rfl (no_ rfl (no_ rfl (p_ rfl (s_pickT (v := .bool true) rfl rfl) (f_nil (f_keep [0, 5, 6, 7, 37] (s63_j1 _ ih v1 v2 v3 v4 true H))))))))))
      · refine o_know 14 rfl (dec_false h4) (m_ (.sl x3) rfl (p_ rfl (s_lenS rfl underlying25 rfl) (p_ rfl (s_gtr rfl rfl) (p_ rfl (s_pickF (v := .bool (decide (6 < (x3.len : Int)))) rfl rfl) (m_ (.bool (decide (6 < (x3.len : Int)))) rfl ?_)))))
        refine o_if (fun h5 => ?_) (fun h5 => ?_)
        · refine o_know 19 rfl (dec_true h5) (no_ rfl (no_ rfl (no_ rfl (no_ rfl (no_ rfl (no_ rfl (no_ rfl (p_ rfl (s_pickT (v := .bool true) rfl rfl) (m_ (.bool true) rfl (no_ rfl (no_ rfl (no_ rfl (p_ rfl (s_pickT (v := .bool true) rfl rfl) (m_ (.bool true) rfl (no_ rfl ?_)))))))))))))))
          exact no_ rfl (no_ rfl (p_ rfl (s_pickT (v := .bool true) rfl rfl) (f_nil (f_keep [0, 5, 6, 7, 37] (s63_j1 _ ih v1 v2 v3 v4 true H)))))
        · refine o_know 19 rfl (dec_false h5) (m_ (.sl x3) rfl (p_ rfl (s_lenS rfl underlying25 rfl) (m_ (.sl v1) rfl (o_ck fun g6 => p_ rfl (s_idx underlying31 ty25 rfl rfl g6) (o_bind fun x7 hx7 => p_ rfl (s_load underlying25 rfl rfl (ldSl_eq hx7)) (p_ rfl (s_lenS rfl underlying25 rfl) (p_ rfl (s_neq rfl rfl) (p_ rfl (s_pickF (v := .bool (decide ((x3.len : Int) ≠ (x7.len : Int)))) rfl rfl) (m_ (.bool (decide ((x3.len : Int) ≠ (x7.len : Int)))) rfl ?_)))))))))
          refine o_if (fun h8 => ?_) (fun h8 => ?_)
          · exact o_know 28 rfl (dec_true h8) (no_ rfl (no_ rfl (no_ rfl (p_ rfl (s_pickT (v := .bool true) rfl rfl) (m_ (.bool true) rfl (no_ rfl (no_ rfl (no_ rfl (p_ rfl (s_pickT (v := .bool true) rfl rfl) (f_nil (f_keep [0, 5, 6, 7, 37] (s63_j1 _ ih v1 v2 v3 v4 true H))))))))))))
          · refine o_know 28 rfl (dec_false h8) (m_ (.sl x3) rfl (o_bind fun p9 hp9 => p_ rfl (s_callF rfl ok110 (sim110 hp9)) (p_ rfl (s_lss rfl rfl) (p_ rfl (s_pickF (v := .bool (decide (p9.1 < 0))) rfl rfl) (m_ (.bool (decide (p9.1 < 0))) rfl ?_)))))
            refine o_if (fun h10 => ?_) (fun h10 => ?_)
            · exact o_know 33 rfl (dec_true h10) (no_ rfl (no_ rfl (no_ rfl (p_ rfl (s_pickT (v := .bool true) rfl rfl) (f_nil (f_keep [0, 5, 6, 7, 37] (s63_j1 _ ih v1 v2 v3 v4 true p9.2)))))))
            · exact o_know 33 rfl (dec_false h10) (m_ (.sl x3) rfl (o_bind fun p11 hp11 => p_ rfl (s_callF rfl ok94 (sim94 hp11)) (p_ rfl (s_gtr rfl rfl) (p_ rfl (s_pickF (v := .bool (decide (20 < p11.1))) rfl rfl) (f_nil (f_keep [0, 5, 6, 7, 37] (s63_j1 _ ih v1 v2 v3 v4 (decide (20 < p11.1)) p11.2)))))))
    · exact kF 8 h1 rfl (f_exit rfl (q_ (a_ (.bool true) rfl (f_nil (f_ret (.tmp rfl (.nil)) rfl)))))

theorem sim63 {a0 : Sl} {H : Hp} {p : Bool × Hp} (h : r63 a0 H = some p) : CallSim prog 63 [.sl a0] H (.bool p.1) p.2 := by
  refine callSim (fn := f63) (ret := ret63) func63 rfl Tryz.ntmps63 rfl ?_ h
  unfold r63
  exact q_ (a_ (.bool false) rfl (f_nil (f_seq (q_ (m_ (.sl a0) rfl (p_ rfl (s_lenS rfl underlying31 rfl) (m_ (.int .i64 0) rfl (f_nil (f_block (f_loop (f_keep [0, 5, 6, 7] (s63_l0 FUEL a0 a0 (a0.len : Int) 0 H))))))))))))

end Go.Lt.P10
