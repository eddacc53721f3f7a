/- PRINTED BY A PROGRAM OF OURS: what each function that 'TopTail' reaches computes on the abstract heap, and that the translated code does just that. Nothing is asked of the input. -/
import Derived.Test.YtopildlfbhfghaaGreatDoorG3P7
set_option linter.unusedVariables false
set_option linter.unusedSimpArgs false
set_option maxRecDepth 100000
set_option maxHeartbeats 4000000
namespace Go.Lt.P10
open Go Go.Lt Go.Proofs Go.Proofs.Tryz
/- 230 slices.Index[[][2]int,[2]int] -/
theorem ok230 : FnOk prog 230 := ⟨⟨f230, func230, by kernel_rfl, rfl⟩⟩
theorem s230_l0 : ∀ (k_ : Nat) (v1 : Sl) (v2 : Nat) (v3 v4 : Int) (H : Hp), Fin prog f230 ret230 19 (todoAt (bodyOf f230) [1, 0, 1, 0, 0] []) [(0, .sl v1), (3, .ptr v2 0), (7, .int .i64 v3), (8, .int .i64 v4)] H (r230_l0 k_ v1 v2 v3 v4 H) := by
 intro k_
 induction k_ with
 | zero => intro _ _ _ _ _; exact f_none
 | succ k_ ih =>
  intro v1 v2 v3 v4 H
  rw [r230_l0]
  refine q_ (p_ rfl (s_lss rfl rfl) (f_nil (f_seq ?_)))
  refine f_if (fun h1 => ?_) (fun h1 => ?_)
  ·refine kT 9 h1 rfl (f_skip (f_seq (f_block (q_ (m_ (.int .i64 v4) rfl (a_ (.int .i64 v4) rfl (f_nil (f_seq (f_bind fun x2 hx2 => f_bind fun x3 hx3 => f_ck fun g4 => f_bind fun x5 hx5 => f_bind fun x6 hx6 => ?_)))))))))
   refine f_draw (Φ := fun _ => True) (lim := 1000000) [1, 0, 0, 0, 1, 0] (tr rfl (s_loads underlying101 rfl ty101 rfl (lds_cons (ldI_eq hx2) (lds_cons (ldI_eq hx3) (lds_nil)))) (tm (.sl v1) rfl (tm (.int .i64 v4) rfl (t_ rfl (fun _ => s_idx underlying27 ty101 rfl rfl g4) (tr rfl (s_loads underlying101 rfl ty101 rfl (lds_cons (ldI_eq hx5) (lds_cons (ldI_eq hx6) (lds_nil)))) (t_ rfl (fun _ => s_eqArr eg101 underlying101 underlying3 ty3 rfl rfl rfl rfl rfl rfl) (Trc.nil (fun _ => trivial)))))))) rfl (by decide +kernel) mixed ?_
   refine f_if (fun h7 => ?_) (fun h7 => ?_)
   ·exact bT 16 h7 rfl (q_ (m_ (.int .i64 v4) rfl (a_ (.int .i64 v4) rfl (f_nil (f_ret (.tmp rfl (.nil)) rfl)))))
   ·exact bF 16 h7 rfl (f_skip (f_inBlock (f_region (p_ rfl (s_add rfl rfl) (m_ (.int .i64 (w64 (v4 + 1))) rfl (f_nil (f_inLoop (f_keep [0, 3, 7, 8] (ih v1 v2 v3 (w64 (v4 + 1)) H)))))))))
  ·exact kF 9 h1 rfl (f_exit rfl (q_ (a_ (.int .i64 (-1)) rfl (f_nil (f_ret (.tmp rfl (.nil)) rfl)))))

theorem sim230 {a0 : Sl} {a1_0 : Int} {a1_1 : Int} {H : Hp} {p : Int × Hp} (h : r230 a0 a1_0 a1_1 H = some p) : CallSim prog 230 [.sl a0, .agg [.int .i64 a1_0, .int .i64 a1_1]] H (.int .i64 p.1) p.2 := by
 refine callSim (fn := f230) (ret := ret230) func230 rfl Tryz.ntmps230 rfl ?_ h
 unfold r230
 refine q_ (p_ rfl (s_box (v := .agg [.int .i64 a1_0, .int .i64 a1_1]) rfl rfl) (a_ (.int .i64 0) rfl (o_hp fun H1 hH1 => f_nil (f_seq (q_ (m_ (.sl a0) rfl (p_ rfl (s_lenS rfl underlying27 rfl) (m_ (.int .i64 0) rfl (f_nil (f_block (f_loop (f_keep [0, 3, 7, 8] ?_))))))))))))
 exact s230_l0 FUEL a0 H.n (a0.len : Int) 0 H1

/- 170 slices.Contains[[][2]int,[2]int] -/
theorem ok170 : FnOk prog 170 := ⟨⟨f170, func170, by kernel_rfl, rfl⟩⟩
theorem sim170 {a0 : Sl} {a1_0 : Int} {a1_1 : Int} {H : Hp} {p : Bool × Hp} (h : r170 a0 a1_0 a1_1 H = some p) : CallSim prog 170 [.sl a0, .agg [.int .i64 a1_0, .int .i64 a1_1]] H (.bool p.1) p.2 := by
 refine callSim (fn := f170) (ret := ret170) func170 rfl Tryz.ntmps170 rfl ?_ h
 unfold r170
 refine q_ (p_ rfl (s_box (v := .agg [.int .i64 a1_0, .int .i64 a1_1]) rfl rfl) (a_ (.bool false) rfl (o_hp fun H1 hH1 => n_ (m_ (.sl a0) rfl (o_bind fun x2 hx2 => o_bind fun x3 hx3 => p_ rfl (s_loads underlying101 rfl ty101 rfl (lds_cons (ldI_eq hx2) (lds_cons (ldI_eq hx3) (lds_nil)))) (o_bind fun p4 hp4 => p_ rfl (s_callF rfl ok230 (sim230 hp4)) (p_ rfl (s_geq rfl rfl) (a_ (.bool (decide (0 ≤ p4.1))) rfl ?_))))))))
 exact f_nil (f_ret (.tmp rfl (.nil)) rfl)

/- 116 (*congou/chest.state).offer -/
theorem ok116 : FnOk prog 116 := ⟨⟨f116, func116, by kernel_rfl, rfl⟩⟩
theorem sim116 {a0b : Nat} {a0o : Nat} {a1_0 : Sl} {a1_1 : Sl} {H : Hp} {p : Int × Hp} (h : r116 a0b a0o a1_0 a1_1 H = some p) : CallSim prog 116 [.ptr a0b a0o, .agg [.sl a1_0, .sl a1_1]] H (.int .i64 p.1) p.2 := by
 refine callSim (fn := f116) (ret := ret116) func116 rfl Tryz.ntmps116 rfl ?_ h
 unfold r116
 refine q_ (p_ rfl (s_box (v := .agg [.sl a1_0, .sl a1_1]) rfl rfl) (a_ (.int .i64 0) rfl (o_hp fun H1 hH1 => f_nil (f_seq (f_bind fun x2 hx2 => f_ck fun g3 => f_bind fun x4 hx4 => f_bind fun x5 hx5 => f_ck fun g6 => f_bind fun x7 hx7 => f_bind fun H8 hH8 => f_drawF (Φ := fun _ => True) (lim := 1000000) [0, 1, 0, 1, 0, 1, 0, 1, 0, 2, 2] [false, false, false, false, false, false, false, false, false, true, false] 9 10 (t_ rfl (fun _ => s_fieldAddr underlying167 rfl ty25 rfl) (tr rfl (s_load underlying25 rfl rfl (ldSl_eq hx2)) (t_ rfl (fun _ => s_idx underlying25 ty3 rfl rfl g3) (tr rfl (s_load underlying3 rfl rfl (ldI_eq hx4)) (t_ rfl (fun _ => s_fieldAddr underlying167 rfl ty25 rfl) (tr rfl (s_load underlying25 rfl rfl (ldSl_eq hx5)) (t_ rfl (fun _ => s_idx underlying25 ty3 rfl rfl g6) (tr rfl (s_load underlying3 rfl rfl (ldI_eq hx7)) (t_ rfl (fun _ => s_buildA (cs := [.int .i64 x4, .int .i64 x7]) underlying101 ty101 ty3 rfl rfl) (Trc.fl .p rfl rfl rfl (fun _ => trivial) rfl (by rfl) (fun _ => s_alloc (zs := [.int .i64 0, .int .i64 0]) ty101 rfl rfl) (Trc.eff rfl rfl rfl (fun _ => trivial) (s_stores ty101 rfl rfl rfl rfl hH8 (Nat.le_of_eq (sts_mono hH8).symm)) (Trc.nil (fun _ => trivial))))))))))))) rfl rfl (by decide +kernel) mixed (f_seq ?_))))))
 refine f_block (f_seq (f_bind fun x9 hx9 => f_bind fun x10 hx10 => f_bind fun x11 hx11 => f_bind fun p12 hp12 => f_draw (Φ := fun _ => True) (lim := 1000000) [0, 0, 0, 1, 1, 2, 0] (tm (.ptr a0b a0o) rfl (t_ rfl (fun _ => s_nilCheck rfl) (t_ rfl (fun _ => s_fieldAddr underlying150 rfl ty27 rfl) (tr rfl (s_load underlying27 rfl rfl (ldSl_eq hx9)) (tr rfl (s_loads underlying101 rfl ty101 rfl (lds_cons (ldI_eq hx10) (lds_cons (ldI_eq hx11) (lds_nil)))) (Trc.eff rfl rfl rfl (fun _ => trivial) (s_callF rfl ok170 (sim170 hp12)) (t_ rfl (fun _ => s_as (v := .bool p12.1) rfl) (Trc.nil (fun _ => trivial))))))))) rfl (by decide +kernel) mixed ?_))
 refine f_if (fun h13 => ?_) (fun h13 => ?_)
 ·exact bT 15 h13 rfl (q_ (a_ (.int .i64 5) rfl (f_nil (f_ret (.tmp rfl (.nil)) rfl))))
 ·refine bF 15 h13 rfl (q_ (p_ rfl (s_idxA underlying101 ty3 rfl rfl (by decide)) (o_bind fun x14 hx14 => p_ rfl (s_load underlying3 rfl rfl (ldI_eq hx14)) (p_ rfl (s_idxA underlying101 ty3 rfl rfl (by decide)) (o_bind fun x15 hx15 => p_ rfl (s_load underlying3 rfl rfl (ldI_eq hx15)) (p_ rfl (s_max2 rfl rfl) (p_ rfl (s_gtr rfl rfl) (a_ (.bool (decide (30 < (if x14 < x15 then x15 else x14)))) rfl (f_nil ?_)))))))))
  refine f_if (fun h16 => ?_) (fun h16 => ?_)
  ·exact kT 22 h16 rfl (q_ (a_ (.int .i64 2) rfl (f_nil (f_ret (.tmp rfl (.nil)) rfl))))
  ·refine kF 22 h16 rfl (q_ (m_ (.ptr a0b a0o) rfl (p_ rfl (s_nilCheck rfl) (p_ rfl (s_fieldAddr underlying150 rfl ty27 rfl) (o_bind fun x17 hx17 => p_ rfl (s_load underlying27 rfl rfl (ldSl_eq hx17)) (p_ rfl (s_lenS rfl underlying27 rfl) (p_ rfl (s_eql rfl rfl) (a_ (.bool (decide ((x17.len : Int) = 8))) rfl (f_nil ?_)))))))))
   refine f_if (fun h18 => ?_) (fun h18 => ?_)
   ·exact kT 29 h18 rfl (q_ (a_ (.int .i64 7) rfl (f_nil (f_ret (.tmp rfl (.nil)) rfl))))
   ·exact kF 29 h18 rfl (f_skip (f_inBlock (f_seq (f_bind fun x19 hx19 => f_bind fun x20 hx20 => f_bind fun x21 hx21 => f_bind fun x22 hx22 => f_bind fun H23 hH23 => f_drawF (Φ := fun _ => True) (lim := 1000000) [0, 0, 0, 0, 1, 1, 2, 2, 0, 0, 2] [false, false, false, false, false, false, true, false, false, false, false] 6 7 (tm (.ptr a0b a0o) rfl (tm (.ptr a0b a0o) rfl (t_ rfl (fun _ => s_nilCheck rfl) (t_ rfl (fun _ => s_fieldAddr underlying150 rfl ty27 rfl) (tr rfl (s_load underlying27 rfl rfl (ldSl_eq hx19)) (tr rfl (s_loads underlying101 rfl ty101 rfl (lds_cons (ldI_eq hx20) (lds_cons (ldI_eq hx21) (lds_nil)))) (Trc.fl (.s 1) rfl rfl rfl (fun _ => trivial) rfl (by rfl) (fun _ => s_buildSlice (cs := [.int .i64 x20, .int .i64 x21]) underlying27 ty101 (by decide) (by decide) rfl (by decide) rfl) (Trc.eff rfl rfl rfl (fun _ => trivial) (s_ap rfl rfl underlying27 underlying27 ty101 rfl rfl rfl rfl rfl rfl rfl hx22) (t_ rfl (fun _ => s_nilCheck rfl) (t_ rfl (fun _ => s_fieldAddr underlying150 rfl ty27 rfl) (Trc.eff rfl rfl rfl (fun _ => trivial) (s_store (s := 1) ty27 rfl rfl rfl hH23) (Trc.nil (fun _ => trivial))))))))))))) rfl rfl (by decide +kernel) mixed (q_ (a_ (.int .i64 0) rfl (f_nil (f_ret (.tmp rfl (.nil)) rfl))))))))

/- 118 (*congou/chest.Chest).child$1 -/
theorem ok118 : FnOk prog 118 := ⟨⟨f118, func118, by kernel_rfl, rfl⟩⟩
theorem sim118 {a0_0 : ByteArray} {a0_1 : Int} {a0_2b : Nat} {a0_2o : Nat} {c0 : Nat} {c1 : Nat} {H : Hp} {p : Bool × Hp} (h : r118 a0_0 a0_1 a0_2b a0_2o c0 c1 H = some p) : CallSim prog 118 [.agg [.str a0_0, .int .i64 a0_1, .ptr a0_2b a0_2o], .ptr c0 0, .ptr c1 0] H (.bool p.1) p.2 := by
 refine callSim (fn := f118) (ret := ret118) func118 rfl Tryz.ntmps118 rfl ?_ h
 unfold r118
 refine q_ (p_ rfl (s_box (v := .agg [.str a0_0, .int .i64 a0_1, .ptr a0_2b a0_2o]) rfl rfl) (a_ (.bool false) rfl (o_hp fun H1 hH1 => n_ (p_ rfl (s_fieldAddr underlying120 rfl ty9 rfl) (o_bind fun x2 hx2 => p_ rfl (s_load underlying9 rfl rfl (ldStr_eq hx2)) (o_bind fun x3 hx3 => p_ rfl (s_load underlying9 rfl rfl (ldStr_eq hx3)) (p_ rfl (s_eqStr rfl rfl) (m_ (.bool (strEq x2 x3)) rfl ?_))))))))
 refine o_if (fun h4 => ?_) (fun h4 => ?_)
 ·refine o_know 9 rfl (bool_T h4) (p_ rfl (s_fieldAddr underlying120 rfl ty3 rfl) (o_bind fun x5 hx5 => p_ rfl (s_load underlying3 rfl rfl (ldI_eq hx5)) (o_bind fun x6 hx6 => p_ rfl (s_load underlying3 rfl rfl (ldI_eq hx6)) (p_ rfl (s_eql rfl rfl) (p_ rfl (s_pickT (v := .bool (decide (x5 = x6))) rfl rfl) (m_ (.bool (decide (x5 = x6))) rfl ?_))))))
  refine o_if (fun h7 => ?_) (fun h7 => ?_)
  ·exact o_know 15 rfl (dec_true h7) (p_ rfl (s_fieldAddr underlying120 rfl ty9 rfl) (o_bind fun x8 hx8 => p_ rfl (s_load underlying9 rfl rfl (ldStr_eq hx8)) (p_ rfl (s_neStr rfl rfl) (p_ rfl (s_pickT (v := .bool (!(strEq x8 (ByteArray.mk #[])))) rfl rfl) (a_ (.bool (!(strEq x8 (ByteArray.mk #[])))) rfl (f_nil (f_ret (.tmp rfl (.nil)) rfl)))))))
  ·exact o_know 15 rfl (dec_false h7) (no_ rfl (no_ rfl (no_ rfl (p_ rfl (s_pickF (v := .bool false) rfl rfl) (a_ (.bool false) rfl (f_nil (f_ret (.tmp rfl (.nil)) rfl)))))))
 ·exact o_know 9 rfl (bool_F h4) (no_ rfl (no_ rfl (no_ rfl (no_ rfl (p_ rfl (s_pickF (v := .bool false) rfl rfl) (m_ (.bool false) rfl (no_ rfl (no_ rfl (no_ rfl (p_ rfl (s_pickF (v := .bool false) rfl rfl) (a_ (.bool false) rfl (f_nil (f_ret (.tmp rfl (.nil)) rfl)))))))))))))

/- 198 (*congou/chest.state).find$1 -/
theorem ok198 : FnOk prog 198 := ⟨⟨f198, func198, by kernel_rfl, rfl⟩⟩
theorem sim198 {a0_0 : ByteArray} {a0_1 : Int} {c0 : Nat} {H : Hp} {p : Bool × Hp} (h : r198 a0_0 a0_1 c0 H = some p) : CallSim prog 198 [.agg [.str a0_0, .int .i64 a0_1], .ptr c0 0] H (.bool p.1) p.2 := by
 refine callSim (fn := f198) (ret := ret198) func198 rfl Tryz.ntmps198 rfl ?_ h
 unfold r198
 refine q_ (p_ rfl (s_box (v := .agg [.str a0_0, .int .i64 a0_1]) rfl rfl) (a_ (.bool false) rfl (o_hp fun H1 hH1 => n_ (p_ rfl (s_fieldAddr underlying186 rfl ty9 rfl) (o_bind fun x2 hx2 => p_ rfl (s_load underlying9 rfl rfl (ldStr_eq hx2)) (o_bind fun x3 hx3 => p_ rfl (s_load underlying9 rfl rfl (ldStr_eq hx3)) (p_ rfl (s_eqStr rfl rfl) (a_ (.bool (strEq x2 x3)) rfl (f_nil ?_)))))))))
 exact f_ret (.tmp rfl (.nil)) rfl

end Go.Lt.P10
