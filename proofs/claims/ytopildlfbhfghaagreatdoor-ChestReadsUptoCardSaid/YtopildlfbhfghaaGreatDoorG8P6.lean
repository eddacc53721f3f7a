/- PRINTED BY A PROGRAM OF OURS: what each function that 'ChestReads' reaches computes on the abstract heap, and that the translated code does just that. Nothing is asked of the input. -/
import Derived.Test.YtopildlfbhfghaaGreatDoorG8P5
set_option linter.unusedVariables false
set_option linter.unusedSimpArgs false
set_option maxRecDepth 100000
set_option maxHeartbeats 4000000
namespace Go.Lt.P10
open Go Go.Lt Go.Proofs Go.Proofs.Tryz
/- 84 (*congou/congouref10.Chest).State -/
theorem ok84 : FnOk prog 84 := ⟨⟨f84, func84, by kernel_rfl, rfl⟩⟩
theorem s84_l0 {app : App} (happ : AppSim prog app) : ∀ (k_ v1 v2 : Nat) (v3 : Sl) (v4 v5 : Int) (H : Hp), Fin prog f84 ret84 25 (todoAt (bodyOf f84) [1, 1, 0, 1, 0, 0] []) [(4, .ptr v1 0), (5, .ptr v2 0), (10, .sl v3), (11, .int .i64 v4), (12, .int .i64 v5)] H (r84_l0 app k_ v1 v2 v3 v4 v5 H) := by
  intro k_
  induction k_ with
  | zero => intro _ _ _ _ _ _; exact f_none
  | succ k_ ih =>
    intro v1 v2 v3 v4 v5 H
    rw [r84_l0]
    refine q_ (p_ rfl (s_lss rfl rfl) (f_nil (f_seq ?_)))
    refine f_if (fun h1 => ?_) (fun h1 => ?_)
    · refine kT 13 h1 rfl (f_skip (f_seq (f_block (q_ (o_ck fun g2 => p_ rfl (s_idx underlying22 ty9 rfl rfl g2) (o_bind fun x3 hx3 => p_ rfl (s_load underlying9 rfl rfl (ldStr_eq hx3)) (a_ (.str x3) rfl (f_nil (f_region (o_bind fun x4 hx4 => o_bind fun x5 hx5 => ?_))))))))))
      refine o_bind fun x6 hx6 => o_bind fun x7 hx7 => o_bind fun x8 hx8 => o_bind fun x9 hx9 => o_bind fun x10 hx10 => p_ rfl (s_loads underlying144 rfl ty144 rfl (lds_cons (ldSl_eq hx4) (lds_cons (ldSl_eq hx5) (lds_cons (ldI_eq hx6) (lds_cons (ldI_eq hx7) (lds_cons (ldI_eq hx8) (lds_cons (ldI_eq hx9) (lds_cons (ldSl_eq hx10) (lds_nil))))))))) (m_ (.str x3) rfl (o_bind fun p11 hp11 => p_ rfl (s_callF rfl ok87 (sim87 happ hp11)) (m_ (.tup [.agg [.sl p11.1.1, .sl p11.1.2.1, .int .i64 p11.1.2.2.1, .int .i64 p11.1.2.2.2.1, .int .i64 p11.1.2.2.2.2.1, .int .i64 p11.1.2.2.2.2.2.1, .sl p11.1.2.2.2.2.2.2.1], .str p11.1.2.2.2.2.2.2.2.1, .int .i64 p11.1.2.2.2.2.2.2.2.2]) rfl (p_ rfl (s_extract (r := .agg [.sl p11.1.1, .sl p11.1.2.1, .int .i64 p11.1.2.2.1, .int .i64 p11.1.2.2.2.1, .int .i64 p11.1.2.2.2.2.1, .int .i64 p11.1.2.2.2.2.2.1, .sl p11.1.2.2.2.2.2.2.1]) rfl rfl) (p_ rfl (s_extract (r := .str p11.1.2.2.2.2.2.2.2.1) rfl rfl) (p_ rfl (s_extract (r := .int .i64 p11.1.2.2.2.2.2.2.2.2) rfl rfl) (o_bind fun H12 hH12 => p_ rfl (s_stores ty144 rfl rfl rfl rfl hH12 (Nat.le_of_eq (sts_mono hH12).symm)) (f_nil ?_))))))))
      exact f_inBlock (f_region (p_ rfl (s_add rfl rfl) (m_ (.int .i64 (w64 (v5 + 1))) rfl (f_nil (f_inLoop (f_keep [4, 5, 10, 11, 12] (ih v1 v2 v3 v4 (w64 (v5 + 1)) H12)))))))
    · refine kF 13 h1 rfl (f_exit rfl (q_ (o_bind fun x13 hx13 => o_bind fun x14 hx14 => o_bind fun x15 hx15 => o_bind fun x16 hx16 => o_bind fun x17 hx17 => o_bind fun x18 hx18 => o_bind fun x19 hx19 => p_ rfl (s_loads underlying144 rfl ty144 rfl (lds_cons (ldSl_eq hx13) (lds_cons (ldSl_eq hx14) (lds_cons (ldI_eq hx15) (lds_cons (ldI_eq hx16) (lds_cons (ldI_eq hx17) (lds_cons (ldI_eq hx18) (lds_cons (ldSl_eq hx19) (lds_nil))))))))) (o_bind fun H20 hH20 => p_ rfl (s_stores ty144 rfl rfl rfl rfl hH20 (Nat.le_of_eq (sts_mono hH20).symm)) (f_nil ?_)))))
      exact f_bind fun x21 hx21 => f_bind fun x22 hx22 => f_bind fun x23 hx23 => f_bind fun x24 hx24 => f_bind fun x25 hx25 => f_bind fun x26 hx26 => f_bind fun x27 hx27 => f_ret (.cells underlying144 rfl sz144 rfl (lds_cons (ldSl_eq hx21) (lds_cons (ldSl_eq hx22) (lds_cons (ldI_eq hx23) (lds_cons (ldI_eq hx24) (lds_cons (ldI_eq hx25) (lds_cons (ldI_eq hx26) (lds_cons (ldSl_eq hx27) (lds_nil)))))))) (.nil)) rfl

theorem sim84 {app : App} (happ : AppSim prog app) {a0b : Nat} {a0o : Nat} {a1 : Int} {H : Hp} {p : (Sl × Sl × Int × Int × Int × Int × Sl) × Hp} (h : r84 app a0b a0o a1 H = some p) : CallSim prog 84 [.ptr a0b a0o, .int .i64 a1] H (.agg [.sl p.1.1, .sl p.1.2.1, .int .i64 p.1.2.2.1, .int .i64 p.1.2.2.2.1, .int .i64 p.1.2.2.2.2.1, .int .i64 p.1.2.2.2.2.2.1, .sl p.1.2.2.2.2.2.2]) p.2 := by
  refine callSim (fn := f84) (ret := ret84) func84 rfl Tryz.ntmps84 rfl ?_ h
  unfold r84
  refine q_ (p_ rfl (s_alloc (zs := [.sl ⟨true, 0, 0, 0, 0, 0⟩, .sl ⟨true, 0, 0, 0, 0, 0⟩, .int .i64 0, .int .i64 0, .int .i64 0, .int .i64 0, .sl ⟨true, 0, 0, 0, 0, 0⟩]) ty144 rfl rfl) (o_hp fun H1 hH1 => n_ (p_ rfl (s_alloc (zs := [.sl ⟨true, 0, 0, 0, 0, 0⟩, .sl ⟨true, 0, 0, 0, 0, 0⟩, .int .i64 0, .int .i64 0, .int .i64 0, .int .i64 0, .sl ⟨true, 0, 0, 0, 0, 0⟩]) ty144 rfl rfl) (o_hp fun H2 hH2 => f_nil (f_seq (q_ (m_ (.ptr a0b a0o) rfl (m_ (.int .i64 a1) rfl (o_bind fun p3 hp3 => ?_)))))))))
  exact p_ rfl (s_callF rfl ok85 (sim85 happ hp3)) (p_ rfl (s_lenS rfl underlying22 rfl) (m_ (.int .i64 0) rfl (f_nil (f_block (f_loop (f_keep [4, 5, 10, 11, 12] (s84_l0 happ FUEL H.n H1.n p3.1 (p3.1.len : Int) 0 p3.2)))))))

/- 86 (*congou/congouref10.Chest).Children -/
theorem ok86 : FnOk prog 86 := ⟨⟨f86, func86, by kernel_rfl, rfl⟩⟩
theorem s86_j1 (kt0 : Int → Sl → Sl → Int → Int → Hp → Option (Sl × Hp)) (hkt0 : ∀ (v1 : Int) (v2 v3 : Sl) (v4 v5 : Int) (H : Hp), Fin prog f86 ret86 32 (todoAt (bodyOf f86) [1, 1, 0, 1, 0, 0] []) [(1, .int .i64 v1), (5, .sl v2), (11, .sl v3), (12, .int .i64 v4), (13, .int .i64 v5)] H (kt0 v1 v2 v3 v4 v5 H)) (v1 : Int) (v2 : Sl) (v3 : Int) (v4 : Sl) (v5 v6 : Int) (v7 : Bool) (H : Hp) : Fin prog f86 ret86 32 (todoAt (bodyOf f86) [1, 1, 0, 1, 0, 0, 1, 1, 0, 0, 1, 1] []) [(1, .int .i64 v1), (5, .sl v2), (6, .int .i64 v3), (11, .sl v4), (12, .int .i64 v5), (13, .int .i64 v6), (25, .bool v7)] H (r86_j1 kt0 v1 v2 v3 v4 v5 v6 v7 H) := by
  unfold r86_j1
  refine f_if (fun h1 => ?_) (fun h1 => ?_)
  · refine bT 25 h1 rfl (f_region (m_ (.sl v2) rfl (m_ (.int .i64 v3) rfl (p_ rfl (s_buildSlice (cs := [.int .i64 v3]) underlying25 ty3 (by decide) (by decide) rfl (by decide) rfl) (o_bind fun x2 hx2 => p_ rfl (s_ap rfl rfl underlying25 underlying25 ty3 rfl rfl rfl rfl rfl rfl rfl hx2) (a_ (.sl x2.1) rfl (f_nil (f_inBlock (f_region (p_ rfl (s_add rfl rfl) (m_ (.int .i64 (w64 (v6 + 1))) rfl (f_nil (f_inLoop ?_)))))))))))))
    exact f_keep [1, 5, 11, 12, 13] (hkt0 v1 x2.1 v4 v5 (w64 (v6 + 1)) x2.2)
  · exact bF 25 h1 rfl (f_skip (f_inBlock (f_region (p_ rfl (s_add rfl rfl) (m_ (.int .i64 (w64 (v6 + 1))) rfl (f_nil (f_inLoop (f_keep [1, 5, 11, 12, 13] (hkt0 v1 v2 v4 v5 (w64 (v6 + 1)) H)))))))))

theorem s86_l0 : ∀ (k_ : Nat) (v1 : Int) (v2 v3 : Sl) (v4 v5 : Int) (H : Hp), Fin prog f86 ret86 32 (todoAt (bodyOf f86) [1, 1, 0, 1, 0, 0] []) [(1, .int .i64 v1), (5, .sl v2), (11, .sl v3), (12, .int .i64 v4), (13, .int .i64 v5)] H (r86_l0 k_ v1 v2 v3 v4 v5 H) := by
  intro k_
  induction k_ with
  | zero => intro _ _ _ _ _ _; exact f_none
  | succ k_ ih =>
    intro v1 v2 v3 v4 v5 H
    rw [r86_l0]
    refine q_ (p_ rfl (s_lss rfl rfl) (f_nil (f_seq ?_)))
    refine f_if (fun h1 => ?_) (fun h1 => ?_)
    · refine kT 14 h1 rfl (f_skip (f_seq (f_block (q_ (m_ (.int .i64 v5) rfl (o_ck fun g2 => p_ rfl (s_idx underlying138 ty152 rfl rfl g2) (o_bind fun x3 hx3 => o_bind fun x4 hx4 => p_ rfl (s_loads underlying152 rfl ty152 rfl (lds_cons (ldI_eq hx3) (lds_cons (ldStr_eq hx4) (lds_nil)))) (p_ rfl (s_alloc (zs := [.int .i64 0, .str (ByteArray.mk #[])]) ty152 rfl rfl) (a_ (.int .i64 v5) rfl (o_bind fun H5 hH5 => ?_))))))))))
      refine p_ rfl (s_stores ty152 rfl rfl rfl rfl hH5 (Nat.le_of_eq (sts_mono hH5).symm)) (n_ (m_ (.int .i64 v5) rfl (p_ rfl (s_gtr rfl rfl) (m_ (.bool (decide (0 < v5))) rfl ?_))))
      refine o_if (fun h6 => ?_) (fun h6 => ?_)
      · exact o_know 20 rfl (dec_true h6) (p_ rfl (s_fieldAddr underlying152 rfl ty3 rfl) (o_bind fun x7 hx7 => p_ rfl (s_load underlying3 rfl rfl (ldI_eq hx7)) (m_ (.int .i64 v1) rfl (p_ rfl (s_eql rfl rfl) (p_ rfl (s_pickT (v := .bool (decide (x7 = v1))) rfl rfl) (f_nil (f_keep [1, 5, 6, 11, 12, 13, 25] (s86_j1 _ ih v1 v2 v5 v3 v4 v5 (decide (x7 = v1)) H5))))))))
      · exact o_know 20 rfl (dec_false h6) (no_ rfl (no_ rfl (no_ rfl (no_ rfl (p_ rfl (s_pickF (v := .bool false) rfl rfl) (f_nil (f_keep [1, 5, 6, 11, 12, 13, 25] (s86_j1 _ ih v1 v2 v5 v3 v4 v5 false H5))))))))
    · exact kF 14 h1 rfl (f_exit rfl (q_ (m_ (.sl v2) rfl (a_ (.sl v2) rfl (f_nil (f_ret (.tmp rfl (.nil)) rfl))))))

theorem sim86 {a0b : Nat} {a0o : Nat} {a1 : Int} {H : Hp} {p : Sl × Hp} (h : r86 a0b a0o a1 H = some p) : CallSim prog 86 [.ptr a0b a0o, .int .i64 a1] H (.sl p.1) p.2 := by
  refine callSim (fn := f86) (ret := ret86) func86 rfl Tryz.ntmps86 rfl ?_ h
  unfold r86
  refine q_ (a_ (.sl ⟨true, 0, 0, 0, 0, 0⟩) rfl (n_ (a_ (.sl ⟨true, 0, 0, 0, 0, 0⟩) rfl (f_nil (f_seq (q_ (m_ (.ptr a0b a0o) rfl (p_ rfl (s_nilCheck rfl) (p_ rfl (s_fieldAddr underlying140 rfl ty138 rfl) (o_bind fun x1 hx1 => p_ rfl (s_load underlying138 rfl rfl (ldSl_eq hx1)) ?_))))))))))
  exact p_ rfl (s_lenS rfl underlying138 rfl) (m_ (.int .i64 0) rfl (f_nil (f_block (f_loop (f_keep [1, 5, 11, 12, 13] (s86_l0 FUEL a1 ⟨true, 0, 0, 0, 0, 0⟩ x1 (x1.len : Int) 0 H))))))

/- 49 (*congou/congouref10.Chest).Do -/
theorem ok49 : FnOk prog 49 := ⟨⟨f49, func49, by kernel_rfl, rfl⟩⟩
theorem s49_l0 {app : App} (happ : AppSim prog app) : ∀ (k_ v1 v2 : Nat) (v3 v4 : ByteArray) (v5 : Sl) (v6 v7 : Int) (H : Hp), Fin prog f49 ret49 84 (todoAt (bodyOf f49) [1, 1, 1, 0, 1, 0, 0] []) [(0, .ptr v1 v2), (1, .str v3), (7, .str v4), (31, .sl v5), (32, .int .i64 v6), (33, .int .i64 v7)] H (r49_l0 app k_ v1 v2 v3 v4 v5 v6 v7 H) := by
  intro k_
  induction k_ with
  | zero => intro _ _ _ _ _ _ _ _; exact f_none
  | succ k_ ih =>
    intro v1 v2 v3 v4 v5 v6 v7 H
    rw [r49_l0]
    refine q_ (p_ rfl (s_lss rfl rfl) (f_nil (f_seq ?_)))
    refine f_if (fun h1 => ?_) (fun h1 => ?_)
    · refine kT 34 h1 rfl (f_skip (f_seq (f_block (q_ (o_ck fun g2 => p_ rfl (s_idx underlying25 ty3 rfl rfl g2) (o_bind fun x3 hx3 => p_ rfl (s_load underlying3 rfl rfl (ldI_eq hx3)) (a_ (.int .i64 x3) rfl (n_ (m_ (.ptr v1 v2) rfl ?_)))))))))
      refine p_ rfl (s_nilCheck rfl) (p_ rfl (s_fieldAddr underlying140 rfl ty138 rfl) (o_bind fun x4 hx4 => p_ rfl (s_load underlying138 rfl rfl (ldSl_eq hx4)) (m_ (.int .i64 x3) rfl (o_ck fun g5 => p_ rfl (s_idx underlying138 ty152 rfl rfl g5) (p_ rfl (s_fieldAddr underlying152 rfl ty9 rfl) (o_bind fun x6 hx6 => p_ rfl (s_load underlying9 rfl rfl (ldStr_eq hx6)) (m_ (.str v3) rfl (p_ rfl (s_eqStr rfl rfl) (f_nil ?_)))))))))
      refine f_if (fun h7 => ?_) (fun h7 => ?_)
      · refine bT 46 h7 rfl (q_ (m_ (.ptr v1 v2) rfl (m_ (.int .i64 x3) rfl (p_ rfl (s_nilCheck rfl) (p_ rfl (s_fieldAddr underlying140 rfl ty3 rfl) (o_bind fun H8 hH8 => p_ rfl (s_store (s := 1) ty3 rfl rfl rfl hH8) (n_ (m_ (.str v4) rfl (a_ (.str v4) rfl (a_ (.int .i64 0) rfl ?_))))))))))
        exact f_nil (f_ret (.tmp rfl (.tmp rfl (.nil))) rfl)
      · exact bF 46 h7 rfl (f_skip (f_inBlock (f_region (p_ rfl (s_add rfl rfl) (m_ (.int .i64 (w64 (v7 + 1))) rfl (f_nil (f_inLoop (f_keep [0, 1, 7, 31, 32, 33] (ih v1 v2 v3 v4 v5 v6 (w64 (v7 + 1)) H)))))))))
    · refine kF 34 h1 rfl (f_exit rfl (f_seq (q_ (m_ (.ptr v1 v2) rfl (p_ rfl (s_nilCheck rfl) (p_ rfl (s_fieldAddr underlying140 rfl ty138 rfl) (o_bind fun x9 hx9 => p_ rfl (s_load underlying138 rfl rfl (ldSl_eq hx9)) (p_ rfl (s_lenS rfl underlying138 rfl) (p_ rfl (s_geq rfl rfl) (f_nil ?_))))))))))
      refine f_if (fun h10 => ?_) (fun h10 => ?_)
      · exact kT 58 h10 rfl (q_ (a_ (.str (ByteArray.mk #[])) rfl (a_ (.int .i64 7) rfl (f_nil (f_ret (.tmp rfl (.tmp rfl (.nil))) rfl)))))
      · refine kF 58 h10 rfl (f_skip (f_seq (f_bind fun x11 hx11 => f_bind fun x12 hx12 => f_bind fun x13 hx13 => f_bind fun H14 hH14 => f_drawF (Φ := fun _ => True) (lim := 1000000) [0, 0, 0, 0, 1, 0, 0, 0, 1, 0, 0, 2, 2, 0, 0, 2] [false, false, false, false, false, false, false, false, false, false, false, true, false, false, false, false] 11 12 (tm (.ptr v1 v2) rfl (tm (.ptr v1 v2) rfl (t_ rfl (fun _ => s_nilCheck rfl) (t_ rfl (fun _ => s_fieldAddr underlying140 rfl ty138 rfl) (tr rfl (s_load underlying138 rfl rfl (ldSl_eq hx11)) (tm (.ptr v1 v2) rfl (t_ rfl (fun _ => s_nilCheck rfl) (t_ rfl (fun _ => s_fieldAddr underlying140 rfl ty3 rfl) (tr rfl (s_load underlying3 rfl rfl (ldI_eq hx12)) (tm (.str v3) rfl (t_ rfl (fun _ => s_build (cs := [.int .i64 x12, .str v3]) underlying152 ty152 rfl pl152 rfl) (Trc.fl (.s 1) rfl rfl rfl (fun _ => trivial) rfl (by rfl) (fun _ => s_buildSlice (cs := [.int .i64 x12, .str v3]) underlying138 ty152 (by decide) (by decide) rfl (by decide) rfl) (Trc.eff rfl rfl rfl (fun _ => trivial) (s_ap rfl rfl underlying138 underlying138 ty152 rfl rfl rfl rfl rfl rfl rfl hx13) (t_ rfl (fun _ => s_nilCheck rfl) (t_ rfl (fun _ => s_fieldAddr underlying140 rfl ty138 rfl) (Trc.eff rfl rfl rfl (fun _ => trivial) (s_store (s := 1) ty138 rfl rfl rfl hH14) (Trc.nil (fun _ => trivial)))))))))))))))))) rfl rfl (by decide +kernel) mixed (q_ (m_ (.ptr v1 v2) rfl (m_ (.ptr v1 v2) rfl (p_ rfl (s_nilCheck rfl) (p_ rfl (s_fieldAddr underlying140 rfl ty138 rfl) (o_bind fun x15 hx15 => ?_)))))))))
        exact p_ rfl (s_load underlying138 rfl rfl (ldSl_eq hx15)) (p_ rfl (s_lenS rfl underlying138 rfl) (p_ rfl (s_sub rfl rfl) (p_ rfl (s_nilCheck rfl) (p_ rfl (s_fieldAddr underlying140 rfl ty3 rfl) (o_bind fun H16 hH16 => p_ rfl (s_store (s := 1) ty3 rfl rfl rfl hH16) (n_ (m_ (.str v4) rfl (a_ (.str v4) rfl (a_ (.int .i64 0) rfl (f_nil (f_ret (.tmp rfl (.tmp rfl (.nil))) rfl)))))))))))

theorem sim49 {app : App} (happ : AppSim prog app) {a0b : Nat} {a0o : Nat} {a1 : ByteArray} {H : Hp} {p : (ByteArray × Int) × Hp} (h : r49 app a0b a0o a1 H = some p) : CallSim prog 49 [.ptr a0b a0o, .str a1] H (.tup [.str p.1.1, .int .i64 p.1.2]) p.2 := by
  refine callSim (fn := f49) (ret := ret49) func49 rfl Tryz.ntmps49 rfl ?_ h
  unfold r49
  refine q_ (a_ (.str (ByteArray.mk #[])) rfl (a_ (.int .i64 0) rfl (n_ (m_ (.ptr a0b a0o) rfl (m_ (.ptr a0b a0o) rfl (p_ rfl (s_nilCheck rfl) (p_ rfl (s_fieldAddr underlying140 rfl ty3 rfl) (o_bind fun x1 hx1 => p_ rfl (s_load underlying3 rfl rfl (ldI_eq hx1)) (o_bind fun p2 hp2 => p_ rfl (s_callF rfl ok84 (sim84 happ hp2)) (m_ (.str a1) rfl ?_))))))))))
  refine o_bind fun p3 hp3 => p_ rfl (s_callF rfl ok87 (sim87 happ hp3)) (m_ (.tup [.agg [.sl p3.1.1, .sl p3.1.2.1, .int .i64 p3.1.2.2.1, .int .i64 p3.1.2.2.2.1, .int .i64 p3.1.2.2.2.2.1, .int .i64 p3.1.2.2.2.2.2.1, .sl p3.1.2.2.2.2.2.2.1], .str p3.1.2.2.2.2.2.2.2.1, .int .i64 p3.1.2.2.2.2.2.2.2.2]) rfl (p_ rfl (s_extract (r := .agg [.sl p3.1.1, .sl p3.1.2.1, .int .i64 p3.1.2.2.1, .int .i64 p3.1.2.2.2.1, .int .i64 p3.1.2.2.2.2.1, .int .i64 p3.1.2.2.2.2.2.1, .sl p3.1.2.2.2.2.2.2.1]) rfl rfl) (p_ rfl (s_extract (r := .str p3.1.2.2.2.2.2.2.2.1) rfl rfl) (p_ rfl (s_extract (r := .int .i64 p3.1.2.2.2.2.2.2.2.2) rfl rfl) (p_ rfl (s_alloc (zs := [.sl ⟨true, 0, 0, 0, 0, 0⟩, .sl ⟨true, 0, 0, 0, 0, 0⟩, .int .i64 0, .int .i64 0, .int .i64 0, .int .i64 0, .sl ⟨true, 0, 0, 0, 0, 0⟩]) ty144 rfl rfl) (o_bind fun H4 hH4 => p_ rfl (s_stores ty144 rfl rfl rfl rfl hH4 (Nat.le_of_eq (sts_mono hH4).symm)) (a_ (.str p3.1.2.2.2.2.2.2.2.1) rfl (a_ (.int .i64 p3.1.2.2.2.2.2.2.2.2) rfl (f_nil (f_seq (q_ (m_ (.int .i64 p3.1.2.2.2.2.2.2.2.2) rfl ?_))))))))))))
  refine p_ rfl (s_neq rfl rfl) (f_nil ?_)
  refine f_if (fun h5 => ?_) (fun h5 => ?_)
  · exact kT 24 h5 rfl (q_ (m_ (.int .i64 p3.1.2.2.2.2.2.2.2.2) rfl (a_ (.str (ByteArray.mk #[])) rfl (a_ (.int .i64 p3.1.2.2.2.2.2.2.2.2) rfl (f_nil (f_ret (.tmp rfl (.tmp rfl (.nil))) rfl))))))
  · refine kF 24 h5 rfl (f_skip (f_seq (q_ (m_ (.ptr a0b a0o) rfl (m_ (.ptr a0b a0o) rfl (p_ rfl (s_nilCheck rfl) (p_ rfl (s_fieldAddr underlying140 rfl ty3 rfl) (o_bind fun x6 hx6 => p_ rfl (s_load underlying3 rfl rfl (ldI_eq hx6)) (o_bind fun p7 hp7 => p_ rfl (s_callF rfl ok86 (sim86 hp7)) (p_ rfl (s_lenS rfl underlying25 rfl) (m_ (.int .i64 0) rfl ?_)))))))))))
    exact f_nil (f_block (f_loop (f_keep [0, 1, 7, 31, 32, 33] (s49_l0 happ FUEL a0b a0o a1 p3.1.2.2.2.2.2.2.2.1 p7.1 (p7.1.len : Int) 0 p7.2))))

/- 82 (*congou/congouref10.Chest).Is -/
theorem ok82 : FnOk prog 82 := ⟨⟨f82, func82, by kernel_rfl, rfl⟩⟩
theorem sim82 {a0b : Nat} {a0o : Nat} {a1 : Int} {H : Hp} {p : Bool × Hp} (h : r82 a0b a0o a1 H = some p) : CallSim prog 82 [.ptr a0b a0o, .int .i64 a1] H (.bool p.1) p.2 := by
  refine callSim (fn := f82) (ret := ret82) func82 rfl Tryz.ntmps82 rfl ?_ h
  unfold r82
  refine q_ (a_ (.bool false) rfl (n_ (m_ (.int .i64 a1) rfl (p_ rfl (s_geq rfl rfl) (m_ (.bool (decide (0 ≤ a1))) rfl ?_)))))
  refine o_if (fun h1 => ?_) (fun h1 => ?_)
  · exact o_know 7 rfl (dec_true h1) (m_ (.int .i64 a1) rfl (m_ (.ptr a0b a0o) rfl (p_ rfl (s_nilCheck rfl) (p_ rfl (s_fieldAddr underlying140 rfl ty138 rfl) (o_bind fun x2 hx2 => p_ rfl (s_load underlying138 rfl rfl (ldSl_eq hx2)) (p_ rfl (s_lenS rfl underlying138 rfl) (p_ rfl (s_lss rfl rfl) (p_ rfl (s_pickT (v := .bool (decide (a1 < (x2.len : Int)))) rfl rfl) (a_ (.bool (decide (a1 < (x2.len : Int)))) rfl (f_nil (f_ret (.tmp rfl (.nil)) rfl)))))))))))
  · exact o_know 7 rfl (dec_false h1) (no_ rfl (no_ rfl (no_ rfl (no_ rfl (no_ rfl (no_ rfl (no_ rfl (p_ rfl (s_pickF (v := .bool false) rfl rfl) (a_ (.bool false) rfl (f_nil (f_ret (.tmp rfl (.nil)) rfl)))))))))))

/- 45 congou/congouref10.Read -/
theorem ok45 : FnOk prog 45 := ⟨⟨f45, func45, by kernel_rfl, rfl⟩⟩
theorem s45_j2 {app : App} (happ : AppSim prog app) (kt0 : Sl → Nat → Nat → Hp → Option ((AV × Int) × Hp)) (hkt0 : ∀ (v1 : Sl) (v2 v3 : Nat) (H : Hp), Fin prog f45 ret45 83 (todoAt (bodyOf f45) [1, 1, 0, 0, 0] []) [(0, .sl v1), (4, .ptr v2 v3)] H (kt0 v1 v2 v3 H)) (v1 : Sl) (v2 v3 : Nat) (v4 : Bool) (H : Hp) : Fin prog f45 ret45 83 (todoAt (bodyOf f45) [1, 1, 0, 0, 0, 1, 0, 1, 1, 1, 0, 1, 1] []) [(0, .sl v1), (4, .ptr v2 v3), (71, .bool v4)] H (r45_j2 app kt0 v1 v2 v3 v4 H) := by
  unfold r45_j2
  refine f_if (fun h1 => ?_) (fun h1 => ?_)
  · exact bT 71 h1 rfl (q_ (a_ (.nilptr) rfl (a_ (.int .i64 3) rfl (f_nil (f_ret (.tmp rfl (.tmp rfl (.nil))) rfl)))))
  · refine bF 71 h1 rfl (f_skip (f_region (m_ (.sl v1) rfl (m_ (.sl v1) rfl (o_ck fun g2 => p_ rfl (s_idx underlying75 ty5 rfl rfl g2) (o_bind fun x3 hx3 => p_ rfl (s_load underlying5 rfl rfl (ldI_eq hx3)) (p_ rfl (s_convInt underlying5 underlying3 rfl) (p_ rfl (s_add rfl rfl) (o_ck fun g4 => p_ rfl (s_slice underlying75 ty5 rfl rfl rfl g4.1 g4.2) (a_ (.sl (v1.cut 1 (w64 (2 + (w64 (x3))) : Int).toNat ((v1.len : Int) : Int).toNat)) rfl (f_nil ?_)))))))))))
    exact f_inBlock (f_inLoop (f_keep [0, 4] (hkt0 (v1.cut 1 (w64 (2 + (w64 (x3))) : Int).toNat ((v1.len : Int) : Int).toNat) v2 v3 H)))

theorem s45_j1 {app : App} (happ : AppSim prog app) (kt0 : Sl → Nat → Nat → Hp → Option ((AV × Int) × Hp)) (hkt0 : ∀ (v1 : Sl) (v2 v3 : Nat) (H : Hp), Fin prog f45 ret45 83 (todoAt (bodyOf f45) [1, 1, 0, 0, 0] []) [(0, .sl v1), (4, .ptr v2 v3)] H (kt0 v1 v2 v3 H)) (v1 : Sl) (v2 v3 : Nat) (v4 : Bool) (H : Hp) : Fin prog f45 ret45 83 (todoAt (bodyOf f45) [1, 1, 0, 0, 0, 1, 0, 0, 1] []) [(0, .sl v1), (4, .ptr v2 v3), (34, .bool v4)] H (r45_j1 app kt0 v1 v2 v3 v4 H) := by
  unfold r45_j1
  refine f_if (fun h1 => ?_) (fun h1 => ?_)
  · exact bT 34 h1 rfl (q_ (a_ (.nilptr) rfl (a_ (.int .i64 3) rfl (f_nil (f_ret (.tmp rfl (.tmp rfl (.nil))) rfl)))))
  · refine bF 34 h1 rfl (f_skip (f_seq (f_ck fun g2 => f_bind fun x3 hx3 => f_ck fun g4 => f_bind fun x5 hx5 => f_bind fun x6 hx6 => f_bind fun x7 hx7 => f_draw (Φ := fun _ => True) (lim := 1000000) [0, 0, 0, 1, 0, 0, 0, 1, 0, 0, 0, 1, 0, 0, 0] (tm (.sl v1) rfl (tm (.sl v1) rfl (t_ rfl (fun _ => s_idx underlying75 ty5 rfl rfl g2) (tr rfl (s_load underlying5 rfl rfl (ldI_eq hx3)) (t_ rfl (fun _ => s_convInt underlying5 underlying3 rfl) (t_ rfl (fun _ => s_add rfl rfl) (t_ rfl (fun _ => s_slice underlying75 ty5 rfl rfl rfl g4.1 g4.2) (tr rfl (s_bytesStr underlying75 underlying9 underlying5 rfl hx5 hx6) (tm (.ptr v2 v3) rfl (t_ rfl (fun _ => s_nilCheck rfl) (t_ rfl (fun _ => s_fieldAddr underlying140 rfl ty138 rfl) (tr rfl (s_load underlying138 rfl rfl (ldSl_eq hx7)) (t_ rfl (fun _ => s_lenS rfl underlying138 rfl) (t_ rfl (fun _ => s_as (v := .str (strOfNums x6)) rfl) (t_ rfl (fun _ => s_as (v := .int .i64 (x7.len : Int)) rfl) (Trc.nil (fun _ => trivial))))))))))))))))) rfl (by decide +kernel) mixed (q_ (m_ (.ptr v2 v3) rfl (m_ (.sl v1) rfl (o_ck fun g8 => ?_)))))))
    refine p_ rfl (s_idx underlying75 ty5 rfl rfl g8) (o_bind fun x9 hx9 => p_ rfl (s_load underlying5 rfl rfl (ldI_eq hx9)) (p_ rfl (s_convInt underlying5 underlying3 rfl) (p_ rfl (s_nilCheck rfl) (p_ rfl (s_fieldAddr underlying140 rfl ty3 rfl) (o_bind fun H10 hH10 => p_ rfl (s_store (s := 1) ty3 rfl rfl rfl hH10) (f_nil (f_seq (q_ (m_ (.ptr v2 v3) rfl (m_ (.str (strOfNums x6)) rfl (o_bind fun p11 hp11 => p_ rfl (s_callF rfl ok49 (sim49 happ hp11)) ?_)))))))))))
    refine m_ (.tup [.str p11.1.1, .int .i64 p11.1.2]) rfl (p_ rfl (s_extract (r := .str p11.1.1) rfl rfl) (p_ rfl (s_extract (r := .int .i64 p11.1.2) rfl rfl) (a_ (.str p11.1.1) rfl (a_ (.int .i64 p11.1.2) rfl (n_ (m_ (.int .i64 p11.1.2) rfl (p_ rfl (s_neq rfl rfl) (m_ (.bool (decide (p11.1.2 ≠ 0))) rfl ?_))))))))
    refine o_if (fun h12 => ?_) (fun h12 => ?_)
    · exact o_know 63 rfl (dec_true h12) (no_ rfl (no_ rfl (no_ rfl (no_ rfl (no_ rfl (no_ rfl (no_ rfl (p_ rfl (s_pickT (v := .bool true) rfl rfl) (f_nil (f_keep [0, 4, 71] (s45_j2 happ _ hkt0 v1 v2 v3 true p11.2)))))))))))
    · exact o_know 63 rfl (dec_false h12) (m_ (.ptr v2 v3) rfl (p_ rfl (s_nilCheck rfl) (p_ rfl (s_fieldAddr underlying140 rfl ty138 rfl) (o_bind fun x13 hx13 => p_ rfl (s_load underlying138 rfl rfl (ldSl_eq hx13)) (p_ rfl (s_lenS rfl underlying138 rfl) (m_ (.int .i64 (x7.len : Int)) rfl (p_ rfl (s_eql rfl rfl) (p_ rfl (s_pickF (v := .bool (decide ((x13.len : Int) = (x7.len : Int)))) rfl rfl) (f_nil (f_keep [0, 4, 71] (s45_j2 happ _ hkt0 v1 v2 v3 (decide ((x13.len : Int) = (x7.len : Int))) p11.2)))))))))))

theorem s45_l0 {app : App} (happ : AppSim prog app) : ∀ (k_ : Nat) (v1 : Sl) (v2 v3 : Nat) (H : Hp), Fin prog f45 ret45 83 (todoAt (bodyOf f45) [1, 1, 0, 0, 0] []) [(0, .sl v1), (4, .ptr v2 v3)] H (r45_l0 app k_ v1 v2 v3 H) := by
  intro k_
  induction k_ with
  | zero => intro _ _ _ _; exact f_none
  | succ k_ ih =>
    intro v1 v2 v3 H
    rw [r45_l0]
    refine f_seq (q_ (m_ (.sl v1) rfl (p_ rfl (s_lenS rfl underlying75 rfl) (p_ rfl (s_gtr rfl rfl) (f_nil ?_)))))
    refine f_if (fun h1 => ?_) (fun h1 => ?_)
    · refine kT 12 h1 rfl (f_skip (f_block (f_seq (q_ (m_ (.sl v1) rfl (p_ rfl (s_lenS rfl underlying75 rfl) (p_ rfl (s_lss rfl rfl) (m_ (.bool (decide ((v1.len : Int) < 2))) rfl ?_))))))))
      refine o_if (fun h2 => ?_) (fun h2 => ?_)
      · refine o_know 16 rfl (dec_true h2) (no_ rfl (no_ rfl (no_ rfl (no_ rfl (no_ rfl (no_ rfl (no_ rfl (no_ rfl (p_ rfl (s_pickT (v := .bool true) rfl rfl) (m_ (.bool true) rfl (no_ rfl (no_ rfl (no_ rfl (no_ rfl (no_ rfl ?_)))))))))))))))
        exact no_ rfl (no_ rfl (p_ rfl (s_pickT (v := .bool true) rfl rfl) (f_nil (f_keep [0, 4, 34] (s45_j1 happ _ ih v1 v2 v3 true H)))))
      · refine o_know 16 rfl (dec_false h2) (m_ (.sl v1) rfl (p_ rfl (s_lenS rfl underlying75 rfl) (m_ (.sl v1) rfl (o_ck fun g3 => p_ rfl (s_idx underlying75 ty5 rfl rfl g3) (o_bind fun x4 hx4 => p_ rfl (s_load underlying5 rfl rfl (ldI_eq hx4)) (p_ rfl (s_convInt underlying5 underlying3 rfl) (p_ rfl (s_add rfl rfl) (p_ rfl (s_lss rfl rfl) (p_ rfl (s_pickF (v := .bool (decide ((v1.len : Int) < (w64 (2 + (w64 (x4))))))) rfl rfl) (m_ (.bool (decide ((v1.len : Int) < (w64 (2 + (w64 (x4))))))) rfl ?_))))))))))
        refine o_if (fun h5 => ?_) (fun h5 => ?_)
        · exact o_know 26 rfl (dec_true h5) (no_ rfl (no_ rfl (no_ rfl (no_ rfl (no_ rfl (no_ rfl (no_ rfl (p_ rfl (s_pickT (v := .bool true) rfl rfl) (f_nil (f_keep [0, 4, 34] (s45_j1 happ _ ih v1 v2 v3 true H)))))))))))
        · exact o_know 26 rfl (dec_false h5) (m_ (.ptr v2 v3) rfl (m_ (.sl v1) rfl (o_ck fun g6 => p_ rfl (s_idx underlying75 ty5 rfl rfl g6) (o_bind fun x7 hx7 => p_ rfl (s_load underlying5 rfl rfl (ldI_eq hx7)) (p_ rfl (s_convInt underlying5 underlying3 rfl) (o_bind fun p8 hp8 => p_ rfl (s_callF rfl ok82 (sim82 hp8)) (p_ rfl (s_not rfl) (p_ rfl (s_pickF (v := .bool (!p8.1)) rfl rfl) (f_nil (f_keep [0, 4, 34] (s45_j1 happ _ ih v1 v2 v3 (!p8.1) p8.2)))))))))))
    · refine kF 12 h1 rfl (f_exit rfl (q_ (m_ (.ptr v2 v3) rfl (p_ rfl (s_nilCheck rfl) (p_ rfl (s_fieldAddr underlying140 rfl ty3 rfl) (o_bind fun H9 hH9 => p_ rfl (s_store (s := 1) ty3 rfl rfl rfl hH9) (n_ (m_ (.ptr v2 v3) rfl (a_ (.ptr v2 v3) rfl (a_ (.int .i64 0) rfl ?_))))))))))
      exact f_nil (f_ret (.tmp rfl (.tmp rfl (.nil))) rfl)

theorem sim45 {app : App} (happ : AppSim prog app) {a0 : Sl} {H : Hp} {p : (AV × Int) × Hp} (h : r45 app a0 H = some p) : CallSim prog 45 [.sl a0] H (.tup [p.1.1, .int .i64 p.1.2]) p.2 := by
  refine callSim (fn := f45) (ret := ret45) func45 rfl Tryz.ntmps45 rfl ?_ h
  unfold r45
  exact q_ (a_ (.nilptr) rfl (a_ (.int .i64 0) rfl (n_ (o_bind fun p1 hp1 => p_ rfl (s_callF rfl ok48 (sim48 hp1)) (a_ (.ptr p1.1.1 p1.1.2) rfl (f_nil (f_seq (f_block (f_loop (f_keep [0, 4] (s45_l0 happ FUEL a0 p1.1.1 p1.1.2 p1.2)))))))))))

/- 21 slices.Equal[[]int,int] -/
theorem ok21 : FnOk prog 21 := ⟨⟨f21, func21, by kernel_rfl, rfl⟩⟩
theorem s21_l0 : ∀ (k_ : Nat) (v1 v2 : Sl) (v3 v4 : Int) (H : Hp), Fin prog f21 ret21 26 (todoAt (bodyOf f21) [1, 1, 0, 1, 0, 0] []) [(0, .sl v1), (1, .sl v2), (12, .int .i64 v3), (13, .int .i64 v4)] H (r21_l0 k_ v1 v2 v3 v4 H) := by
  intro k_
  induction k_ with
  | zero => intro _ _ _ _ _; exact f_none
  | succ k_ ih =>
    intro v1 v2 v3 v4 H
    rw [r21_l0]
    refine q_ (p_ rfl (s_lss rfl rfl) (f_nil (f_seq ?_)))
    refine f_if (fun h1 => ?_) (fun h1 => ?_)
    · refine kT 14 h1 rfl (f_skip (f_seq (f_block (q_ (m_ (.int .i64 v4) rfl (a_ (.int .i64 v4) rfl (f_nil (f_seq (f_ck fun g2 => f_bind fun x3 hx3 => f_ck fun g4 => f_bind fun x5 hx5 => f_draw (Φ := fun _ => True) (lim := 1000000) [0, 0, 0, 1, 0, 0, 0, 1, 0] (tm (.sl v1) rfl (tm (.int .i64 v4) rfl (t_ rfl (fun _ => s_idx underlying25 ty3 rfl rfl g2) (tr rfl (s_load underlying3 rfl rfl (ldI_eq hx3)) (tm (.sl v2) rfl (tm (.int .i64 v4) rfl (t_ rfl (fun _ => s_idx underlying25 ty3 rfl rfl g4) (tr rfl (s_load underlying3 rfl rfl (ldI_eq hx5)) (t_ rfl (fun _ => s_neq rfl rfl) (Trc.nil (fun _ => trivial))))))))))) rfl (by decide +kernel) mixed ?_)))))))))
      refine f_if (fun h6 => ?_) (fun h6 => ?_)
      · exact kT 24 h6 rfl (q_ (a_ (.bool false) rfl (f_nil (f_ret (.tmp rfl (.nil)) rfl))))
      · exact kF 24 h6 rfl (f_skip (f_inBlock (f_region (p_ rfl (s_add rfl rfl) (m_ (.int .i64 (w64 (v4 + 1))) rfl (f_nil (f_inLoop (f_keep [0, 1, 12, 13] (ih v1 v2 v3 (w64 (v4 + 1)) H)))))))))
    · exact kF 14 h1 rfl (f_exit rfl (q_ (a_ (.bool true) rfl (f_nil (f_ret (.tmp rfl (.nil)) rfl)))))

theorem sim21 {a0 : Sl} {a1 : Sl} {H : Hp} {p : Bool × Hp} (h : r21 a0 a1 H = some p) : CallSim prog 21 [.sl a0, .sl a1] H (.bool p.1) p.2 := by
  refine callSim (fn := f21) (ret := ret21) func21 rfl Tryz.ntmps21 rfl ?_ h
  unfold r21
  refine q_ (a_ (.bool false) rfl (f_nil (f_seq (q_ (m_ (.sl a0) rfl (p_ rfl (s_lenS rfl underlying25 rfl) (m_ (.sl a1) rfl (p_ rfl (s_lenS rfl underlying25 rfl) (p_ rfl (s_neq rfl rfl) (f_nil ?_))))))))))
  refine f_if (fun h1 => ?_) (fun h1 => ?_)
  · exact kT 10 h1 rfl (q_ (a_ (.bool false) rfl (f_nil (f_ret (.tmp rfl (.nil)) rfl))))
  · exact kF 10 h1 rfl (f_skip (f_seq (q_ (m_ (.sl a0) rfl (p_ rfl (s_lenS rfl underlying25 rfl) (m_ (.int .i64 0) rfl (f_nil (f_block (f_loop (f_keep [0, 1, 12, 13] (s21_l0 FUEL a0 a1 (a0.len : Int) 0 H)))))))))))

/- 133 (*congou/chest.state).names -/
theorem ok133 : FnOk prog 133 := ⟨⟨f133, func133, by kernel_rfl, rfl⟩⟩
theorem s133_l0 : ∀ (k_ v1 v2 : Nat) (v3 v4 : Sl) (v5 v6 : Int) (H : Hp), Fin prog f133 ret133 27 (todoAt (bodyOf f133) [1, 1, 0, 1, 0, 0] []) [(0, .ptr v1 v2), (5, .sl v3), (8, .sl v4), (9, .int .i64 v5), (10, .int .i64 v6)] H (r133_l0 k_ v1 v2 v3 v4 v5 v6 H) := by
  intro k_
  induction k_ with
  | zero => intro _ _ _ _ _ _ _; exact f_none
  | succ k_ ih =>
    intro v1 v2 v3 v4 v5 v6 H
    rw [r133_l0]
    refine q_ (p_ rfl (s_lss rfl rfl) (f_nil (f_seq ?_)))
    refine f_if (fun h1 => ?_) (fun h1 => ?_)
    · refine kT 11 h1 rfl (f_skip (f_seq (f_block (q_ (o_ck fun g2 => p_ rfl (s_idx underlying25 ty3 rfl rfl g2) (o_bind fun x3 hx3 => p_ rfl (s_load underlying3 rfl rfl (ldI_eq hx3)) (a_ (.int .i64 x3) rfl (f_nil (f_region (m_ (.sl v3) rfl (m_ (.ptr v1 v2) rfl ?_)))))))))))
      refine p_ rfl (s_nilCheck rfl) (p_ rfl (s_fieldAddr underlying150 rfl ty147 rfl) (o_bind fun x4 hx4 => p_ rfl (s_load underlying147 rfl rfl (ldSl_eq hx4)) (m_ (.int .i64 x3) rfl (o_ck fun g5 => p_ rfl (s_idx underlying147 ty186 rfl rfl g5) (p_ rfl (s_fieldAddr underlying186 rfl ty9 rfl) (o_bind fun x6 hx6 => p_ rfl (s_load underlying9 rfl rfl (ldStr_eq hx6)) (p_ rfl (s_buildSlice (cs := [.str x6]) underlying22 ty9 (by decide) (by decide) rfl (by decide) rfl) (o_bind fun x7 hx7 => p_ rfl (s_ap rfl rfl underlying22 underlying22 ty9 rfl rfl rfl rfl rfl rfl rfl hx7) (a_ (.sl x7.1) rfl (f_nil (f_inBlock ?_)))))))))))
      exact f_region (p_ rfl (s_add rfl rfl) (m_ (.int .i64 (w64 (v6 + 1))) rfl (f_nil (f_inLoop (f_keep [0, 5, 8, 9, 10] (ih v1 v2 x7.1 v4 v5 (w64 (v6 + 1)) x7.2))))))
    · exact kF 11 h1 rfl (f_exit rfl (q_ (m_ (.sl v3) rfl (a_ (.sl v3) rfl (f_nil (f_ret (.tmp rfl (.nil)) rfl))))))

theorem sim133 {a0b : Nat} {a0o : Nat} {a1 : Sl} {H : Hp} {p : Sl × Hp} (h : r133 a0b a0o a1 H = some p) : CallSim prog 133 [.ptr a0b a0o, .sl a1] H (.sl p.1) p.2 := by
  refine callSim (fn := f133) (ret := ret133) func133 rfl Tryz.ntmps133 rfl ?_ h
  unfold r133
  refine q_ (a_ (.sl ⟨true, 0, 0, 0, 0, 0⟩) rfl (n_ (a_ (.sl ⟨true, 0, 0, 0, 0, 0⟩) rfl (f_nil (f_seq (q_ (m_ (.sl a1) rfl (p_ rfl (s_lenS rfl underlying25 rfl) (m_ (.int .i64 0) rfl (f_nil (f_block ?_)))))))))))
  exact f_loop (f_keep [0, 5, 8, 9, 10] (s133_l0 FUEL a0b a0o ⟨true, 0, 0, 0, 0, 0⟩ a1 (a1.len : Int) 0 H))

/- 134 congou/chest.numbers -/
theorem ok134 : FnOk prog 134 := ⟨⟨f134, func134, by kernel_rfl, rfl⟩⟩
theorem s134_l0 {app : App} (happ : AppSim prog app) : ∀ (k_ : Nat) (v1 v2 : Sl) (v3 v4 : Int) (H : Hp), Fin prog f134 ret134 19 (todoAt (bodyOf f134) [1, 1, 0, 1, 0, 0] []) [(3, .sl v1), (6, .sl v2), (7, .int .i64 v3), (8, .int .i64 v4)] H (r134_l0 app k_ v1 v2 v3 v4 H) := by
  intro k_
  induction k_ with
  | zero => intro _ _ _ _ _; exact f_none
  | succ k_ ih =>
    intro v1 v2 v3 v4 H
    rw [r134_l0]
    refine q_ (p_ rfl (s_lss rfl rfl) (f_nil (f_seq ?_)))
    refine f_if (fun h1 => ?_) (fun h1 => ?_)
    · refine kT 9 h1 rfl (f_skip (f_seq (f_block (q_ (o_ck fun g2 => p_ rfl (s_idx underlying25 ty3 rfl rfl g2) (o_bind fun x3 hx3 => p_ rfl (s_load underlying3 rfl rfl (ldI_eq hx3)) (a_ (.int .i64 x3) rfl (f_nil (f_region (m_ (.sl v1) rfl (m_ (.int .i64 x3) rfl ?_)))))))))))
      refine o_bind fun p4 hp4 => o_bind fun x5 hx5 => p_ rfl (s_callA happ rfl hp4) (o_know 14 rfl (asStr_eq hx5) (p_ rfl (s_buildSlice (cs := [.str x5]) underlying22 ty9 (by decide) (by decide) rfl (by decide) rfl) (o_bind fun x6 hx6 => p_ rfl (s_ap rfl rfl underlying22 underlying22 ty9 rfl rfl rfl rfl rfl rfl rfl hx6) (a_ (.sl x6.1) rfl (f_nil (f_inBlock (f_region (p_ rfl (s_add rfl rfl) (m_ (.int .i64 (w64 (v4 + 1))) rfl (f_nil (f_inLoop (f_keep [3, 6, 7, 8] ?_))))))))))))
      exact ih x6.1 v2 v3 (w64 (v4 + 1)) x6.2
    · exact kF 9 h1 rfl (f_exit rfl (q_ (m_ (.sl v1) rfl (a_ (.sl v1) rfl (f_nil (f_ret (.tmp rfl (.nil)) rfl))))))

theorem sim134 {app : App} (happ : AppSim prog app) {a0 : Sl} {H : Hp} {p : Sl × Hp} (h : r134 app a0 H = some p) : CallSim prog 134 [.sl a0] H (.sl p.1) p.2 := by
  refine callSim (fn := f134) (ret := ret134) func134 rfl Tryz.ntmps134 rfl ?_ h
  unfold r134
  refine q_ (a_ (.sl ⟨true, 0, 0, 0, 0, 0⟩) rfl (n_ (a_ (.sl ⟨true, 0, 0, 0, 0, 0⟩) rfl (f_nil (f_seq (q_ (m_ (.sl a0) rfl (p_ rfl (s_lenS rfl underlying25 rfl) (m_ (.int .i64 0) rfl (f_nil (f_block ?_)))))))))))
  exact f_loop (f_keep [3, 6, 7, 8] (s134_l0 happ FUEL ⟨true, 0, 0, 0, 0, 0⟩ a0 (a0.len : Int) 0 H))

/- 186 slices.Grow[[]int,int] -/
theorem ok186 : FnOk prog 186 := ⟨⟨f186, func186, by kernel_rfl, rfl⟩⟩
theorem sim186 {a0 : Sl} {a1 : Int} {H : Hp} {p : Sl × Hp} (h : r186 a0 a1 H = some p) : CallSim prog 186 [.sl a0, .int .i64 a1] H (.sl p.1) p.2 := by
  refine callSim (fn := f186) (ret := ret186) func186 rfl Tryz.ntmps186 rfl ?_ h
  unfold r186
  refine q_ (a_ (.sl ⟨true, 0, 0, 0, 0, 0⟩) rfl (f_nil (f_seq (q_ (m_ (.int .i64 a1) rfl (p_ rfl (s_lss rfl rfl) (f_nil ?_)))))))
  refine f_if (fun h1 => ?_) (fun h1 => ?_)
  · exact kT 6 h1 rfl (f_region (o_none))
  · refine kF 6 h1 rfl (f_skip (f_seq (q_ (m_ (.int .i64 a1) rfl (m_ (.sl a0) rfl (o_ck fun g2 => p_ rfl (s_capS rfl underlying25 rfl g2) (m_ (.sl a0) rfl (p_ rfl (s_lenS rfl underlying25 rfl) (p_ rfl (s_sub rfl rfl) (p_ rfl (s_sub rfl rfl) (a_ (.int .i64 (w64 (a1 - (w64 ((a0.cap : Int) - (a0.len : Int)))))) rfl (f_nil ?_))))))))))))
    refine q_ (m_ (.int .i64 (w64 (a1 - (w64 ((a0.cap : Int) - (a0.len : Int)))))) rfl (p_ rfl (s_gtr rfl rfl) (f_nil ?_)))
    refine f_if (fun h3 => ?_) (fun h3 => ?_)
    · refine kT 16 h3 rfl (f_region (m_ (.sl a0) rfl (m_ (.sl a0) rfl (o_ck fun g4 => p_ rfl (s_capS rfl underlying25 rfl g4) (o_ck fun g5 => p_ rfl (s_slice underlying25 ty3 rfl rfl rfl g5.1 g5.2) (m_ (.int .i64 (w64 (a1 - (w64 ((a0.cap : Int) - (a0.len : Int)))))) rfl (o_ck fun g6 => o_ck fun g7 => p_ rfl (s_appendMk0 rfl rfl rfl underlying25 underlying3 ty3 rfl rfl (by decide) (by decide) rfl rfl g6 g7) (m_ (.sl a0) rfl (p_ rfl (s_lenS rfl underlying25 rfl) (o_ck fun g8 => ?_))))))))))
      exact p_ rfl (s_slice underlying25 ty3 rfl rfl rfl g8.1 g8.2) (a_ (.sl ((⟨false, H.n, 0, (w64 (a1 - (w64 ((a0.cap : Int) - (a0.len : Int)))) : Int).toNat, (w64 (a1 - (w64 ((a0.cap : Int) - (a0.len : Int)))) : Int).toNat, 1⟩ : Sl).cut 1 (0 : Int).toNat ((a0.len : Int) : Int).toNat)) rfl (o_hp fun H9 hH9 => n_ (m_ (.sl ((⟨false, H.n, 0, (w64 (a1 - (w64 ((a0.cap : Int) - (a0.len : Int)))) : Int).toNat, (w64 (a1 - (w64 ((a0.cap : Int) - (a0.len : Int)))) : Int).toNat, 1⟩ : Sl).cut 1 (0 : Int).toNat ((a0.len : Int) : Int).toNat)) rfl (a_ (.sl ((⟨false, H.n, 0, (w64 (a1 - (w64 ((a0.cap : Int) - (a0.len : Int)))) : Int).toNat, (w64 (a1 - (w64 ((a0.cap : Int) - (a0.len : Int)))) : Int).toNat, 1⟩ : Sl).cut 1 (0 : Int).toNat ((a0.len : Int) : Int).toNat)) rfl (f_nil (f_ret (.tmp rfl (.nil)) rfl))))))
    · exact kF 16 h3 rfl (f_skip (q_ (m_ (.sl a0) rfl (a_ (.sl a0) rfl (f_nil (f_ret (.tmp rfl (.nil)) rfl))))))

end Go.Lt.P10
